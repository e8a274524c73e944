/-
What reads as data of a type is a value of its kind: the arguments of a law, opened.
-/
import Derived.Test.YtfneopcbnlfkiaaKinds
import Derived.ChangeArms
import Derived.DataReads
import Derived.WideShapes
import Derived.ProofKit
namespace Go.Proofs.Ytfneopcbnlfkiaa.Kin
open Go.RowKit Go.Proofs.YtfneopcbnlfkiaaW.PrintWords Go.ChangeShapes Go.WideShapes
set_option linter.unusedVariables false
set_option linter.unusedSimpArgs false
section
variable {α : Type} {H : Type} {enc : TypeId × Value → H} {W : World}
/-- What reads as data of a type, by a reading of this depth, is a value of the kind. -/
def TrAt (enc : TypeId × Value → H) (W : World) (m : Nat) (t : TypeId) (d : Kd α) : Prop := ∀ cs x, DataW.trod enc Try.prog W 0 (fun _ => true) true m t cs = some x → ∃ y, d.K W y cs
theorem tr_int {m : Nat} {t : TypeId} {k : IntKind} (ht : Try.prog.underlying t = some (.int k)) : TrAt enc W m t (Kd.int k) := fun cs x h => by
  obtain ⟨n, rfl, _⟩ := DataW.trod_int ht h
  exact ⟨n, rfl⟩
theorem tr_u8 {m : Nat} {t : TypeId} (ht : Try.prog.underlying t = some (.int .u8)) : TrAt enc W m t kU8 := fun cs x h => by
  obtain ⟨n, rfl, _, hw⟩ := DataW.trod_int ht h
  have hb : 0 ≤ n ∧ n ≤ 255 := by simpa [Lit.wf, IntKind.min, IntKind.max, IntKind.signed, IntKind.bits] using hw
  refine ⟨UInt8.ofNat n.toNat, ?_⟩
  have e : ((UInt8.ofNat n.toNat).toNat : Int) = n := by
    rw [UInt8.toNat_ofNat']
    omega
  show [Value.int .u8 n] = [Value.int .u8 ((UInt8.ofNat n.toNat).toNat : Int)]
  rw [e]
theorem tr_bool {m : Nat} {t : TypeId} (ht : Try.prog.underlying t = some .bool) : TrAt enc W m t Kd.bool := fun cs x h => by
  obtain ⟨n, rfl, _⟩ := DataW.trod_bool ht h
  exact ⟨n, rfl⟩
theorem tr_string {m : Nat} {t : TypeId} (ht : Try.prog.underlying t = some .string) : TrAt enc W m t Kd.string := fun cs x h => by
  obtain ⟨n, rfl, _⟩ := DataW.trod_string ht h
  exact ⟨n, rfl⟩
theorem exists_list : ∀ (n : Nat) (p : Nat → α → Prop), (∀ i, i < n → ∃ y, p i y) → ∃ xs : List α, xs.length = n ∧ ∀ i y, xs[i]? = some y → p i y
  | 0, _, _ => ⟨[], rfl, fun i y h => by simp at h⟩
  | n + 1, p, h => by
    obtain ⟨xs, hl, hx⟩ := exists_list n p (fun i hi => h i (by omega))
    obtain ⟨y, hy⟩ := h n (by omega)
    refine ⟨xs ++ [y], by simp [hl], fun i z hz => ?_⟩
    rcases Nat.lt_or_ge i n with hi | hi
    · rw [List.getElem?_append_left (by omega)] at hz
      exact hx i z hz
    · rw [List.getElem?_append_right (by omega)] at hz
      have : i - xs.length = 0 := by
        rcases Nat.eq_zero_or_pos (i - xs.length) with h0 | h0
        · exact h0
        · rw [List.getElem?_eq_none (by simp; omega)] at hz
          cases hz
      rw [this] at hz
      obtain rfl : y = z := by simpa using hz
      have : i = n := by omega
      subst this
      exact hy
theorem tr_slice {m : Nat} {t e e' : Nat} {d : Kd α} (ht : Try.prog.underlying t = some (.slice e)) (hc : Try.prog.cellsOf e = d.sz) (hd : ∀ m', m' < m → TrAt enc W m' e d) : TrAt enc W m t (Kd.slice e' d) := fun cs x h => by
  rcases DataW.trod_slice ht h with ⟨rfl, _⟩ | ⟨a, len, cap, elems, rest, n, rfl, rfl, _, _, hlc, hcm, hel, hx, _⟩
  · exact ⟨[], none, 0, rfl, Nat.le_refl 0, Kd.C_nil _ _⟩
  · obtain ⟨xs, hxl, hp⟩ := exists_list len (fun i y => ∃ cs', cs'.length = d.sz ∧ d.K W y cs' ∧ ∀ j u, cs'[j]? = some u → W.cell? (a.add (i * d.sz + j)) = some u) (fun i hi => by
      have h1 := hx i hi
      rw [List.getElem?_eq_getElem (by omega)] at h1
      obtain ⟨cs', h2, h3⟩ := Option.bind_eq_some_iff.1 h1
      obtain ⟨_, h4, h5⟩ := World.cells?_some h2
      obtain ⟨y, hy⟩ := hd n (by omega) _ _ h3
      refine ⟨y, cs', h4.trans hc, hy, fun j u hu => ?_⟩
      have hj : j < cs'.length := (List.getElem?_eq_some_iff.1 hu).1
      have h6 := h5 j (by omega)
      rw [hu, hc] at h6
      rw [← h6]
      rw [add_add])
    subst hxl
    refine ⟨xs, some a, cap, rfl, hlc, rfl, ?_, fun _ => ⟨a, rfl, hp⟩⟩
    have : (maxLen : Nat) ≤ 9223372036854775807 := by decide
    omega
set_option maxRecDepth 100000 in
theorem tr_S30 : ∀ m, TrAt enc W m 30 k30 := by
  intro m cs x h
  obtain ⟨xs, n, rfl, rfl, hl, hxl, hf⟩ := DataW.trod_struct Try.underlying30 h
  have hl : cs.length = 3 := hl.trans (by kernel_rfl)
  match cs, hl, xs, hxl with
  | [c0, c1, c2], _, [x0, x1, x2], _ =>
    have h0 := hf 0 _ rfl
    rw [show Try.prog.cellsOf _ = 1 by kernel_rfl] at h0
    obtain ⟨y0, k0⟩ := (tr_int Try.underlying3) _ _ h0
    have h1 := hf 1 _ rfl
    rw [show Try.prog.cellsOf _ = 1 by kernel_rfl] at h1
    obtain ⟨y1, k1⟩ := (tr_int Try.underlying2) _ _ h1
    have h2 := hf 2 _ rfl
    rw [show Try.prog.cellsOf _ = 1 by kernel_rfl] at h2
    obtain ⟨y2, k2⟩ := (tr_string Try.underlying9) _ _ h2
    exact ⟨⟨y0, y1, y2⟩, ⟨[c0], [c1, c2], rfl, k0, ⟨[c1], [c2], rfl, k1, k2⟩⟩⟩
set_option maxRecDepth 100000 in
theorem tr_S32 : ∀ m, TrAt enc W m 32 k32 := by
  intro m
  induction m using Nat.strongRecOn with
  | _ m ih =>
  intro cs x h
  obtain ⟨xs, n, rfl, rfl, hl, hxl, hf⟩ := DataW.trod_struct Try.underlying32 h
  have hl : cs.length = 8 := hl.trans (by kernel_rfl)
  match cs, hl, xs, hxl with
  | [c0, c1, c2, c3, c4, c5, c6, c7], _, [x0, x1, x2, x3, x4, x5], _ =>
    have h0 := hf 0 _ rfl
    rw [show Try.prog.cellsOf _ = 1 by kernel_rfl] at h0
    obtain ⟨y0, k0⟩ := tr_int Try.underlying3 _ _ h0
    have h1 := hf 1 _ rfl
    rw [show Try.prog.cellsOf _ = 1 by kernel_rfl] at h1
    obtain ⟨y1, k1⟩ := tr_string Try.underlying9 _ _ h1
    have h2 := hf 2 _ rfl
    rw [show Try.prog.cellsOf _ = 1 by kernel_rfl] at h2
    obtain ⟨y2, k2⟩ := tr_string Try.underlying9 _ _ h2
    have h3 := hf 3 _ rfl
    rw [show Try.prog.cellsOf _ = 1 by kernel_rfl] at h3
    obtain ⟨y3, k3⟩ := tr_int Try.underlying2 _ _ h3
    have h4 := hf 4 _ rfl
    rw [show Try.prog.cellsOf _ = 3 by kernel_rfl] at h4
    obtain ⟨y4, k4⟩ := tr_S30 _ _ _ h4
    have h5 := hf 5 _ rfl
    rw [show Try.prog.cellsOf _ = 1 by kernel_rfl] at h5
    obtain ⟨y5, A7, d7, k5, l7, g7⟩ := tr_slice (e' := 32) (d := k32) Try.underlying26 (by kernel_rfl) (fun m' hm' => ih m' (by omega)) _ _ h5
    have k4' := k30_open k4
    have e0 : [c0] = [Value.int .i64 y0] := k0
    have e1 : [c1] = [Value.string y1] := k1
    have e2 : [c2] = [Value.string y2] := k2
    have e3 : [c3] = [Value.int .i64 y3] := k3
    have e4 : [c4, c5, c6] = [.int .i64 y4.f0, .int .i64 y4.f1, .string y4.f2] := k4'
    have e5 : [c7] = [Value.slice A7 y5.length d7] := k5
    simp only [List.cons.injEq, and_true] at e0 e1 e2 e3 e4 e5
    obtain ⟨e4a, e4b, e4c⟩ := e4
    subst e0 e1 e2 e3 e4a e4b e4c e5
    exact ⟨⟨y0, y1, y2, y3, y4, y5⟩, k32_mk W ⟨y0, y1, y2, y3, y4, y5⟩ l7 g7⟩
set_option maxRecDepth 100000 in
theorem tr_S87 : ∀ m, TrAt enc W m 87 k87 := by
  intro m cs x h
  obtain ⟨xs, n, rfl, rfl, hl, hxl, hf⟩ := DataW.trod_struct Try.underlying87 h
  have hl : cs.length = 3 := hl.trans (by kernel_rfl)
  match cs, hl, xs, hxl with
  | [c0, c1, c2], _, [x0, x1, x2], _ =>
    have h0 := hf 0 _ rfl
    rw [show Try.prog.cellsOf _ = 1 by kernel_rfl] at h0
    obtain ⟨y0, k0⟩ := (tr_string Try.underlying9) _ _ h0
    have h1 := hf 1 _ rfl
    rw [show Try.prog.cellsOf _ = 1 by kernel_rfl] at h1
    obtain ⟨y1, k1⟩ := (tr_int Try.underlying3) _ _ h1
    have h2 := hf 2 _ rfl
    rw [show Try.prog.cellsOf _ = 1 by kernel_rfl] at h2
    obtain ⟨y2, k2⟩ := (tr_bool Try.underlying4) _ _ h2
    exact ⟨⟨y0, y1, y2⟩, ⟨[c0], [c1, c2], rfl, k0, ⟨[c1], [c2], rfl, k1, k2⟩⟩⟩
set_option maxRecDepth 100000 in
theorem tr_S25 : ∀ m, TrAt enc W m 25 k25 := by
  intro m cs x h
  obtain ⟨xs, n, rfl, rfl, hl, hxl, hf⟩ := DataW.trod_struct Try.underlying25 h
  have hl : cs.length = 5 := hl.trans (by kernel_rfl)
  match cs, hl, xs, hxl with
  | [c0, c1, c2, c3, c4], _, [x0, x1, x2, x3, x4], _ =>
    have h0 := hf 0 _ rfl
    rw [show Try.prog.cellsOf _ = 1 by kernel_rfl] at h0
    obtain ⟨y0, k0⟩ := (tr_int Try.underlying2) _ _ h0
    have h1 := hf 1 _ rfl
    rw [show Try.prog.cellsOf _ = 1 by kernel_rfl] at h1
    obtain ⟨y1, k1⟩ := (tr_string Try.underlying9) _ _ h1
    have h2 := hf 2 _ rfl
    rw [show Try.prog.cellsOf _ = 1 by kernel_rfl] at h2
    obtain ⟨y2, k2⟩ := (tr_slice (e' := 87) (d := k87) Try.underlying22 (by kernel_rfl) (fun _ _ => tr_S87 _)) _ _ h2
    have h3 := hf 3 _ rfl
    rw [show Try.prog.cellsOf _ = 1 by kernel_rfl] at h3
    obtain ⟨y3, k3⟩ := (tr_int Try.underlying3) _ _ h3
    have h4 := hf 4 _ rfl
    rw [show Try.prog.cellsOf _ = 1 by kernel_rfl] at h4
    obtain ⟨y4, k4⟩ := (tr_slice (e' := 3) (d := (Kd.int .i64)) Try.underlying23 (by kernel_rfl) (fun _ _ => tr_int Try.underlying3)) _ _ h4
    exact ⟨⟨y0, y1, y2, y3, y4⟩, ⟨[c0], [c1, c2, c3, c4], rfl, k0, ⟨[c1], [c2, c3, c4], rfl, k1, ⟨[c2], [c3, c4], rfl, k2, ⟨[c3], [c4], rfl, k3, k4⟩⟩⟩⟩⟩
set_option maxRecDepth 100000 in
theorem tr_S85 : ∀ m, TrAt enc W m 85 k85 := by
  intro m cs x h
  obtain ⟨xs, n, rfl, rfl, hl, hxl, hf⟩ := DataW.trod_struct Try.underlying85 h
  have hl : cs.length = 7 := hl.trans (by kernel_rfl)
  match cs, hl, xs, hxl with
  | [c0, c1, c2, c3, c4, c5, c6], _, [x0, x1, x2], _ =>
    have h0 := hf 0 _ rfl
    rw [show Try.prog.cellsOf _ = 1 by kernel_rfl] at h0
    obtain ⟨y0, k0⟩ := (tr_string Try.underlying9) _ _ h0
    have h1 := hf 1 _ rfl
    rw [show Try.prog.cellsOf _ = 5 by kernel_rfl] at h1
    obtain ⟨y1, k1⟩ := (tr_S25 _) _ _ h1
    have h2 := hf 2 _ rfl
    rw [show Try.prog.cellsOf _ = 1 by kernel_rfl] at h2
    obtain ⟨y2, k2⟩ := (tr_int Try.underlying3) _ _ h2
    exact ⟨⟨y0, y1, y2⟩, ⟨[c0], [c1, c2, c3, c4, c5, c6], rfl, k0, ⟨[c1, c2, c3, c4, c5], [c6], rfl, k1, k2⟩⟩⟩
set_option maxRecDepth 100000 in
theorem tr_S36 : ∀ m, TrAt enc W m 36 k36 := by
  intro m cs x h
  obtain ⟨xs, n, rfl, rfl, hl, hxl, hf⟩ := DataW.trod_struct Try.underlying36 h
  have hl : cs.length = 2 := hl.trans (by kernel_rfl)
  match cs, hl, xs, hxl with
  | [c0, c1], _, [x0, x1], _ =>
    have h0 := hf 0 _ rfl
    rw [show Try.prog.cellsOf _ = 1 by kernel_rfl] at h0
    obtain ⟨y0, k0⟩ := (tr_slice (e' := 5) (d := kU8) Try.underlying34 (by kernel_rfl) (fun _ _ => tr_u8 Try.underlying5)) _ _ h0
    have h1 := hf 1 _ rfl
    rw [show Try.prog.cellsOf _ = 1 by kernel_rfl] at h1
    obtain ⟨y1, k1⟩ := (tr_slice (e' := 5) (d := kU8) Try.underlying34 (by kernel_rfl) (fun _ _ => tr_u8 Try.underlying5)) _ _ h1
    exact ⟨⟨y0, y1⟩, ⟨[c0], [c1], rfl, k0, k1⟩⟩
set_option maxRecDepth 100000 in
theorem tr_S38 : ∀ m, TrAt enc W m 38 k38 := by
  intro m cs x h
  obtain ⟨xs, n, rfl, rfl, hl, hxl, hf⟩ := DataW.trod_struct Try.underlying38 h
  have hl : cs.length = 3 := hl.trans (by kernel_rfl)
  match cs, hl, xs, hxl with
  | [c0, c1, c2], _, [x0, x1], _ =>
    have h0 := hf 0 _ rfl
    rw [show Try.prog.cellsOf _ = 1 by kernel_rfl] at h0
    obtain ⟨y0, k0⟩ := (tr_int Try.underlying3) _ _ h0
    have h1 := hf 1 _ rfl
    rw [show Try.prog.cellsOf _ = 2 by kernel_rfl] at h1
    obtain ⟨y1, k1⟩ := (tr_S36 _) _ _ h1
    exact ⟨⟨y0, y1⟩, ⟨[c0], [c1, c2], rfl, k0, k1⟩⟩
set_option maxRecDepth 100000 in
theorem tr_S49 : ∀ m, TrAt enc W m 49 k49 := by
  intro m cs x h
  obtain ⟨xs, n, rfl, rfl, hl, hxl, hf⟩ := DataW.trod_struct Try.underlying49 h
  have hl : cs.length = 5 := hl.trans (by kernel_rfl)
  match cs, hl, xs, hxl with
  | [c0, c1, c2, c3, c4], _, [x0, x1, x2, x3, x4], _ =>
    have h0 := hf 0 _ rfl
    rw [show Try.prog.cellsOf _ = 1 by kernel_rfl] at h0
    obtain ⟨y0, k0⟩ := (tr_int Try.underlying47) _ _ h0
    have h1 := hf 1 _ rfl
    rw [show Try.prog.cellsOf _ = 1 by kernel_rfl] at h1
    obtain ⟨y1, k1⟩ := (tr_int Try.underlying3) _ _ h1
    have h2 := hf 2 _ rfl
    rw [show Try.prog.cellsOf _ = 1 by kernel_rfl] at h2
    obtain ⟨y2, k2⟩ := (tr_int Try.underlying3) _ _ h2
    have h3 := hf 3 _ rfl
    rw [show Try.prog.cellsOf _ = 1 by kernel_rfl] at h3
    obtain ⟨y3, k3⟩ := (tr_slice (e' := 5) (d := kU8) Try.underlying34 (by kernel_rfl) (fun _ _ => tr_u8 Try.underlying5)) _ _ h3
    have h4 := hf 4 _ rfl
    rw [show Try.prog.cellsOf _ = 1 by kernel_rfl] at h4
    obtain ⟨y4, k4⟩ := (tr_slice (e' := 5) (d := kU8) Try.underlying34 (by kernel_rfl) (fun _ _ => tr_u8 Try.underlying5)) _ _ h4
    exact ⟨⟨y0, y1, y2, y3, y4⟩, ⟨[c0], [c1, c2, c3, c4], rfl, k0, ⟨[c1], [c2, c3, c4], rfl, k1, ⟨[c2], [c3, c4], rfl, k2, ⟨[c3], [c4], rfl, k3, k4⟩⟩⟩⟩⟩
set_option maxRecDepth 100000 in
theorem tr_S58 : ∀ m, TrAt enc W m 58 k58 := by
  intro m cs x h
  obtain ⟨xs, n, rfl, rfl, hl, hxl, hf⟩ := DataW.trod_struct Try.underlying58 h
  have hl : cs.length = 6 := hl.trans (by kernel_rfl)
  match cs, hl, xs, hxl with
  | [c0, c1, c2, c3, c4, c5], _, [x0, x1], _ =>
    have h0 := hf 0 _ rfl
    rw [show Try.prog.cellsOf _ = 1 by kernel_rfl] at h0
    obtain ⟨y0, k0⟩ := (tr_bool Try.underlying4) _ _ h0
    have h1 := hf 1 _ rfl
    rw [show Try.prog.cellsOf _ = 5 by kernel_rfl] at h1
    obtain ⟨y1, k1⟩ := (tr_S49 _) _ _ h1
    exact ⟨⟨y0, y1⟩, ⟨[c0], [c1, c2, c3, c4, c5], rfl, k0, k1⟩⟩
set_option maxRecDepth 100000 in
theorem tr_S178 : ∀ m, TrAt enc W m 178 k178 := by
  intro m cs x h
  obtain ⟨xs, n, rfl, rfl, hl, hxl, hf⟩ := DataW.trod_struct Try.underlying178 h
  have hl : cs.length = 3 := hl.trans (by kernel_rfl)
  match cs, hl, xs, hxl with
  | [c0, c1, c2], _, [x0, x1, x2], _ =>
    have h0 := hf 0 _ rfl
    rw [show Try.prog.cellsOf _ = 1 by kernel_rfl] at h0
    obtain ⟨y0, k0⟩ := (tr_slice (e' := 5) (d := kU8) Try.underlying34 (by kernel_rfl) (fun _ _ => tr_u8 Try.underlying5)) _ _ h0
    have h1 := hf 1 _ rfl
    rw [show Try.prog.cellsOf _ = 1 by kernel_rfl] at h1
    obtain ⟨y1, k1⟩ := (tr_bool Try.underlying4) _ _ h1
    have h2 := hf 2 _ rfl
    rw [show Try.prog.cellsOf _ = 1 by kernel_rfl] at h2
    obtain ⟨y2, k2⟩ := (tr_slice (e' := 5) (d := kU8) Try.underlying34 (by kernel_rfl) (fun _ _ => tr_u8 Try.underlying5)) _ _ h2
    exact ⟨⟨y0, y1, y2⟩, ⟨[c0], [c1, c2], rfl, k0, ⟨[c1], [c2], rfl, k1, k2⟩⟩⟩
set_option maxRecDepth 100000 in
theorem tr_S101 : ∀ m, TrAt enc W m 101 k101 := by
  intro m cs x h
  obtain ⟨xs, n, rfl, rfl, hl, hxl, hf⟩ := DataW.trod_struct Try.underlying101 h
  have hl : cs.length = 21 := hl.trans (by kernel_rfl)
  match cs, hl, xs, hxl with
  | [c0, c1, c2, c3, c4, c5, c6, c7, c8, c9, c10, c11, c12, c13, c14, c15, c16, c17, c18, c19, c20], _, [x0, x1, x2, x3, x4, x5, x6, x7, x8, x9, x10, x11, x12], _ =>
    have h0 := hf 0 _ rfl
    rw [show Try.prog.cellsOf _ = 1 by kernel_rfl] at h0
    obtain ⟨y0, k0⟩ := (tr_int Try.underlying47) _ _ h0
    have h1 := hf 1 _ rfl
    rw [show Try.prog.cellsOf _ = 1 by kernel_rfl] at h1
    obtain ⟨y1, k1⟩ := (tr_int Try.underlying47) _ _ h1
    have h2 := hf 2 _ rfl
    rw [show Try.prog.cellsOf _ = 1 by kernel_rfl] at h2
    obtain ⟨y2, k2⟩ := (tr_int Try.underlying3) _ _ h2
    have h3 := hf 3 _ rfl
    rw [show Try.prog.cellsOf _ = 1 by kernel_rfl] at h3
    obtain ⟨y3, k3⟩ := (tr_int Try.underlying47) _ _ h3
    have h4 := hf 4 _ rfl
    rw [show Try.prog.cellsOf _ = 1 by kernel_rfl] at h4
    obtain ⟨y4, k4⟩ := (tr_int Try.underlying47) _ _ h4
    have h5 := hf 5 _ rfl
    rw [show Try.prog.cellsOf _ = 1 by kernel_rfl] at h5
    obtain ⟨y5, k5⟩ := (tr_bool Try.underlying4) _ _ h5
    have h6 := hf 6 _ rfl
    rw [show Try.prog.cellsOf _ = 5 by kernel_rfl] at h6
    obtain ⟨y6, k6⟩ := (tr_S49 _) _ _ h6
    have h7 := hf 7 _ rfl
    rw [show Try.prog.cellsOf _ = 1 by kernel_rfl] at h7
    obtain ⟨y7, k7⟩ := (tr_slice (e' := 5) (d := kU8) Try.underlying34 (by kernel_rfl) (fun _ _ => tr_u8 Try.underlying5)) _ _ h7
    have h8 := hf 8 _ rfl
    rw [show Try.prog.cellsOf _ = 1 by kernel_rfl] at h8
    obtain ⟨y8, k8⟩ := (tr_slice (e' := 5) (d := kU8) Try.underlying34 (by kernel_rfl) (fun _ _ => tr_u8 Try.underlying5)) _ _ h8
    have h9 := hf 9 _ rfl
    rw [show Try.prog.cellsOf _ = 1 by kernel_rfl] at h9
    obtain ⟨y9, k9⟩ := (tr_slice (e' := 47) (d := (Kd.int .u64)) Try.underlying96 (by kernel_rfl) (fun _ _ => tr_int Try.underlying47)) _ _ h9
    have h10 := hf 10 _ rfl
    rw [show Try.prog.cellsOf _ = 1 by kernel_rfl] at h10
    obtain ⟨y10, k10⟩ := (tr_slice (e' := 178) (d := k178) Try.underlying98 (by kernel_rfl) (fun _ _ => tr_S178 _)) _ _ h10
    have h11 := hf 11 _ rfl
    rw [show Try.prog.cellsOf _ = 1 by kernel_rfl] at h11
    obtain ⟨y11, k11⟩ := (tr_slice (e' := 34) (d := (Kd.slice 5 kU8)) Try.underlying99 (by kernel_rfl) (fun _ _ => tr_slice Try.underlying34 (by kernel_rfl) (fun _ _ => tr_u8 Try.underlying5))) _ _ h11
    have h12 := hf 12 _ rfl
    rw [show Try.prog.cellsOf _ = 5 by kernel_rfl] at h12
    obtain ⟨y12, k12⟩ := (tr_S25 _) _ _ h12
    exact ⟨⟨y0, y1, y2, y3, y4, y5, y6, y7, y8, y9, y10, y11, y12⟩, ⟨[c0], [c1, c2, c3, c4, c5, c6, c7, c8, c9, c10, c11, c12, c13, c14, c15, c16, c17, c18, c19, c20], rfl, k0, ⟨[c1], [c2, c3, c4, c5, c6, c7, c8, c9, c10, c11, c12, c13, c14, c15, c16, c17, c18, c19, c20], rfl, k1, ⟨[c2], [c3, c4, c5, c6, c7, c8, c9, c10, c11, c12, c13, c14, c15, c16, c17, c18, c19, c20], rfl, k2, ⟨[c3], [c4, c5, c6, c7, c8, c9, c10, c11, c12, c13, c14, c15, c16, c17, c18, c19, c20], rfl, k3, ⟨[c4], [c5, c6, c7, c8, c9, c10, c11, c12, c13, c14, c15, c16, c17, c18, c19, c20], rfl, k4, ⟨[c5], [c6, c7, c8, c9, c10, c11, c12, c13, c14, c15, c16, c17, c18, c19, c20], rfl, k5, ⟨[c6, c7, c8, c9, c10], [c11, c12, c13, c14, c15, c16, c17, c18, c19, c20], rfl, k6, ⟨[c11], [c12, c13, c14, c15, c16, c17, c18, c19, c20], rfl, k7, ⟨[c12], [c13, c14, c15, c16, c17, c18, c19, c20], rfl, k8, ⟨[c13], [c14, c15, c16, c17, c18, c19, c20], rfl, k9, ⟨[c14], [c15, c16, c17, c18, c19, c20], rfl, k10, ⟨[c15], [c16, c17, c18, c19, c20], rfl, k11, k12⟩⟩⟩⟩⟩⟩⟩⟩⟩⟩⟩⟩⟩
end
end Go.Proofs.Ytfneopcbnlfkiaa.Kin
