/-
expr.Bind: a bound expression has a kind, and each of its parts one.
-/
import Derived.Test.YtfneopcbnlfkiaaBd4
import Derived.Deep.LoopGhost
import Derived.Deep.QuietTactic
import Derived.BigQuiet
import Derived.Outline
namespace Go.Proofs.Ytfneopcbnlfkiaa.Ex
open Go.RowKit Go.Proofs.YtfneopcbnlfkiaaW.PrintWords Go.Proofs.Ytfneopcbnlfkiaa.Kin Go.Proofs.Ytfneopcbnlfkiaa.Num Go.Proofs.Ytfneopcbnlfkiaa.Base Go.Proofs.YtfneopcbnlfkiaaW.PrintLast
set_option linter.unusedVariables false
set_option linter.unusedSimpArgs false
/-- A bound expression and its kind. -/
inductive WT (l : List S85) : S32 → Int → Prop where
  | lit (x : S32) (h : x.f0 = 1) (h5 : x.f5 = []) : WT l x x.f4.f0
  | pos (x : S32) (h : x.f0 = 3) (h5 : x.f5 = []) : WT l x (placeK l x.f3)
  | col (x : S32) (h : x.f0 = 3) (h5 : x.f5 = []) : WT l x (kindAt l x.f3)
  | sum (x : S32) (k : Int) (h : sumOp x.f0 = true) : WT l x k
  | op (x : S32) (k : S32 → Int) (hp : parts x.f0 = x.f5.length) (h1 : x.f0 ≠ 1) (h2 : x.f0 ≠ 2) (h3 : x.f0 ≠ 3) (ha : ∀ a ∈ x.f5, WT l a (k a)) : WT l x 1
def BindP (l : List S85) (w : World) (e : Ending) (w' : World) : Prop :=
  ∃ (x : S32) (k bad : Int) (A : Option Addr) (c : Nat), e = .returned (.tuple #[enE x A c, .int .i64 k, .int .i64 bad]) ∧ (bad = 0 → WT l x k) ∧ x.f5.length ≤ c ∧ Kd.F k32 w' (fun b => w.heap.size ≤ b) A x.f5.length x.f5 ∧ Below w.heap.size w w'
theorem BindP.zero (l : List S85) {w w' : World} (bad : Int) (hb : bad ≠ 0) (h : Below w.heap.size w w') : BindP l w (.returned (.tuple #[enE z32 none 0, .int .i64 0, .int .i64 bad])) w' :=
  ⟨z32, 0, bad, none, 0, rfl, fun h => absurd h hb, Nat.le_refl _, Kd.F_nil _ _ _, h⟩
theorem info3 : (Try.prog.info? 3).map (fun i => (i.zero, i.size, i.bytes)) = some (some (.int .i64 0), 1, 8) := by kernel_rfl
theorem info32 : (Try.prog.info? 32).map (fun i => (i.zero, i.size, i.bytes)) = some (some (.agg #[(.int .i64 0), (.string ⟨#[]⟩), (.string ⟨#[]⟩), (.int .i64 0), (.int .i64 0), (.int .i64 0), (.string ⟨#[]⟩), (.slice none 0 0)]), 8, 104) := by kernel_rfl
theorem blk_new {w : World} {o : Obj} {n : Nat} (h : n = w.heap.size) : (w.alloc o).heap[n]? = some o := by subst h; exact heap_alloc_new w o
abbrev O32 (x : S32) (v : Value) : Obj := .cells #[.int .i64 x.f0, .string x.f1, .string x.f2, .int .i64 x.f3, .int .i64 x.f4.f0, .int .i64 x.f4.f1, .string x.f4.f2, v] 32 (0, 0)
theorem box32 {W : World} {g : Nat} {x : S32} {v : Value} (hb : W.heap[g]? = some (O32 x v)) :
    (W.cell? ⟨g, 0, none⟩ = some (.int .i64 x.f0) ∧ W.cell? ⟨g, 1, none⟩ = some (.string x.f1) ∧ W.cell? ⟨g, 2, none⟩ = some (.string x.f2) ∧ W.cell? ⟨g, 3, none⟩ = some (.int .i64 x.f3) ∧ W.cell? ⟨g, 4, none⟩ = some (.int .i64 x.f4.f0) ∧ W.cell? ⟨g, 5, none⟩ = some (.int .i64 x.f4.f1) ∧ W.cell? ⟨g, 6, none⟩ = some (.string x.f4.f2) ∧ W.cell? ⟨g, 7, none⟩ = some v) ∧
    (W.frozen? ⟨g, 0, none⟩ = false ∧ W.frozen? ⟨g, 1, none⟩ = false ∧ W.frozen? ⟨g, 2, none⟩ = false ∧ W.frozen? ⟨g, 3, none⟩ = false ∧ W.frozen? ⟨g, 4, none⟩ = false ∧ W.frozen? ⟨g, 5, none⟩ = false ∧ W.frozen? ⟨g, 6, none⟩ = false ∧ W.frozen? ⟨g, 7, none⟩ = false) ∧ g < W.heap.size :=
  ⟨⟨blk_cell hb 0, blk_cell hb 1, blk_cell hb 2, blk_cell hb 3, blk_cell hb 4, blk_cell hb 5, blk_cell hb 6, blk_cell hb 7⟩, ⟨blk_frozen hb 0, blk_frozen hb 1, blk_frozen hb 2, blk_frozen hb 3, blk_frozen hb 4, blk_frozen hb 5, blk_frozen hb 6, blk_frozen hb 7⟩, blk_lt hb⟩
theorem parts_le (op : Int) : parts op ≤ 2 := by
  unfold parts
  split <;> (try split) <;> (try split) <;> omega
set_option maxHeartbeats 8000000 in
set_option maxRecDepth 100000 in
theorem bind_bad (l : List S85) (A0 : Option Addr) (c0 : Nat) (x : S32) (A : Option Addr) (c : Nat) (w : World) (hp : parts x.f0 ≠ x.f5.length) :
    Calls Try.prog 54 #[.slice A0 l.length c0, enE x A c] w (BindP l w) := by
  have hu := Try.underlying30
  have hu32 := Try.underlying32
  have h1 : (parts x.f0 != (x.f5.length : Int)) = true := by simpa using hp
  clear hp
  go_enter Try.func54, Try.ntmps54
  go_wp2_with fail
  go_quiet ((first | (go_at_call 106; exact quiet_eq (parts_calls _ _))))
  go_wp2
  refine ret_ex rfl ?_; apply Exists.intro; refine ⟨?_, ?_⟩; (simp [results, Try.results54]; (try go_simp); rfl)
  exact BindP.zero l 220 (by decide) (by repeat (first | (with_reducible assumption) | (with_reducible exact Below.refl _ _) | (with_reducible apply below_alloc) | (with_reducible apply pw_below_drewN) | (with_reducible apply below_drew1) | ((with_reducible refine setC ?_ ?_ _); rotate_left; omega)))
set_option maxHeartbeats 8000000 in
set_option maxRecDepth 100000 in
theorem bind_calls (l : List S85) (A0 : Option Addr) (c0 : Nat) (x : S32) (A : Option Addr) (c : Nat) (w : World) (hl : k85.C w A0 l.length l) (ha : k32.C w A x.f5.length x.f5) :
    Calls Try.prog 54 #[.slice A0 l.length c0, enE x A c] w (BindP l w) := by
  by_cases hp : parts x.f0 = x.f5.length
  rotate_left
  · exact bind_bad l A0 c0 x A c w hp
  have ih : ∀ a ∈ x.f5, ∀ (A' : Option Addr) (c' : Nat) (W : World), k85.C W A0 l.length l → k32.C W A' a.f5.length a.f5 → Calls Try.prog 54 #[.slice A0 l.length c0, enE a A' c'] W (BindP l W) := fun a hm A' c' W h1 h2 => bind_calls l A0 c0 a A' c' W h1 h2
  have hu := Try.underlying30
  have hu32 := Try.underlying32
  have h1 : (parts x.f0 != (x.f5.length : Int)) = false := by simpa using hp
  have hmax := Kd.C_max ha
  have HA := Aside0.mk ha
  have HL := Aside0.mk hl
  have HP := Aside0.mk hp
  have IH := Aside0.mk ih
  clear ha hl hp ih
  go_enter Try.func54, Try.ntmps54
  go_wp2_with fail
  go_quiet ((first | (go_at_call 106; exact quiet_eq (parts_calls _ _))))
  go_wp2_with fail
  have hlen : x.f5.length ≤ 2 := by have := parts_le x.f0; have := HP.out; omega
  go_loopg [29, 8] x.f5.length (fun k s29 s8 wr => ∃ (i : Nat) (ys : List S32) (ks : List Int) (vA : Value), s29 = .int .i64 i ∧ i + k = x.f5.length ∧ ys.length = i ∧ ks.length = i ∧ Aside0 (∀ y ∈ ys, ∃ kd, WT l y kd) ∧
      Aside0 (Kd.R (Kd.int .i64) 3 wr (w.heap.size + 1 + 1 + 1) (fun b => w.heap.size + 1 + 1 + 1 ≤ b) s8 ks) ∧ Aside0 (Kd.N k32 32 wr (w.heap.size + 1 + 1 + 1) (fun b => w.heap.size + 1 + 1 + 1 ≤ b ∧ some b ≠ s8.ownBlock) vA ys) ∧
      Aside0 (wr.heap[w.heap.size]? = some (O32 x (.slice A x.f5.length c))) ∧ Aside0 (wr.heap[w.heap.size + 1]? = some (O32 z32 (.slice none 0 0))) ∧ Aside0 (wr.heap[w.heap.size + 1 + 1]? = some (O32 x vA)) ∧ Below w.heap.size w wr ∧ w.heap.size + 1 + 1 + 1 ≤ wr.heap.size)
  · exact ⟨0, [], [], _, rfl, by omega, rfl, rfl, ⟨by simp⟩, ⟨Kd.R_nil _ _ _ _ _⟩, ⟨Kd.N_nil _ _ _ _ _⟩, ⟨(by repeat (first | (with_reducible assumption) | ((with_reducible refine blk_new ?_); (first | rfl | (simp; done))) | (with_reducible refine blk_alloc ?_ _) | (with_reducible refine blk_drewN ?_ _) | (with_reducible refine blk_drew ?_) | ((with_reducible refine blk_far ?_ ?_ _); rotate_left; (first | (simp; omega) | (simp; done)))))⟩, ⟨(show _ = some (Obj.cells #[.int .i64 0, .string ⟨#[]⟩, .string ⟨#[]⟩, .int .i64 0, .int .i64 0, .int .i64 0, .string ⟨#[]⟩, .slice none 0 0] 32 (0, 0)) from (by repeat (first | (with_reducible assumption) | ((with_reducible refine blk_new ?_); (first | rfl | (simp; done))) | (with_reducible refine blk_alloc ?_ _) | (with_reducible refine blk_drewN ?_ _) | (with_reducible refine blk_drew ?_) | ((with_reducible refine blk_far ?_ ?_ _); rotate_left; (first | (simp; omega) | (simp; done))))))⟩, ⟨(by repeat (first | (with_reducible assumption) | ((with_reducible refine blk_new ?_); (first | rfl | (simp; done))) | (with_reducible refine blk_alloc ?_ _) | (with_reducible refine blk_drewN ?_ _) | (with_reducible refine blk_drew ?_) | ((with_reducible refine blk_far ?_ ?_ _); rotate_left; (first | (simp; omega) | (simp; done)))))⟩, (by repeat (first | (with_reducible assumption) | (with_reducible exact Below.refl _ _) | (with_reducible apply below_alloc) | (with_reducible apply pw_below_drewN) | (with_reducible apply below_drew1) | ((with_reducible refine setC ?_ ?_ _); rotate_left; omega))), by simp⟩
  · obtain ⟨i, ys, ks, vA, rfl, hi, hys, hks, hwt, hR, hN, b0, b1, b2, hB, hsz⟩ := hrel
    by_cases hlt : i < x.f5.length
    · obtain ⟨ad, A7, c7, rfl, g0, g1, g2, g3, g4, g5, g6, g7, hl7, gA⟩ := at_T32 (Kd.C_below HA.out hB) i (by omega) (by omega)
      simp only [Int.toNat_natCast] at g0 g1 g2 g3 g4 g5 g6 g7
      have hm : Aside0 (rd_T32 x.f5 i ∈ x.f5) := Aside0.mk (by rw [show rd_T32 x.f5 i = x.f5[i] from by simp [rd_T32, hlt]]; exact List.getElem_mem hlt)
      have HI := Aside0.mk hi
      have GA := Aside0.mk gA
      have HY := Aside0.mk hys
      have HK := Aside0.mk hks
      clear hi gA hys hks
      go_wp2_with fail
      refine (IH.out _ hm.out _ _ _ (Kd.C_below HL.out (by repeat (first | (with_reducible assumption) | (with_reducible exact Below.refl _ _) | (with_reducible apply below_alloc) | (with_reducible apply pw_below_drewN) | (with_reducible apply below_drew1) | ((with_reducible refine setC ?_ ?_ _); rotate_left; omega)))) (Kd.C_below GA.out (by repeat (first | (with_reducible assumption) | (with_reducible exact Below.refl _ _) | (with_reducible apply below_alloc) | (with_reducible apply pw_below_drewN) | (with_reducible apply below_drew1) | ((with_reducible refine setC ?_ ?_ _); rotate_left; omega))))).mono ?_
      rintro e w2 ⟨y, kd, bad, Ay, cy, rfl, hy, hcy, hF, hb⟩
      have hBr : Below wr.heap.size wr w2 := (by refine belT ?_ hb; repeat (first | (with_reducible assumption) | (with_reducible exact Below.refl _ _) | (with_reducible apply below_alloc) | (with_reducible apply pw_below_drewN) | (with_reducible apply below_drew1) | ((with_reducible refine setC ?_ ?_ _); rotate_left; omega)))
      have hB2 : Below w.heap.size w w2 := (by refine belT ?_ hb; repeat (first | (with_reducible assumption) | (with_reducible exact Below.refl _ _) | (with_reducible apply below_alloc) | (with_reducible apply pw_below_drewN) | (with_reducible apply below_drew1) | ((with_reducible refine setC ?_ ?_ _); rotate_left; omega)))
      have HW := Aside0.mk hy
      have HF := Aside0.mk hF
      have hz2 : wr.heap.size + 1 ≤ w2.heap.size := by have := hb.size; simpa using this
      clear hy hF g0 g1 g2 g3 g4 g5 g6 g7
      obtain ⟨⟨p0, p1, p2, p3, p4, p5, p6, p7⟩, ⟨f0, f1, f2, f3, f4, f5, f6, f7⟩, q0⟩ := box32 (blk_below b1.out hBr)
      by_cases hbad : bad = 0
      · subst hbad
        obtain ⟨⟨r0, r1, r2, r3, r4, r5, r6, r7⟩, ⟨s0, s1, s2, s3, s4, s5, s6, s7⟩, q1⟩ := box32 (blk_below b0.out hBr)
        obtain ⟨⟨t0, t1, t2, t3, t4, t5, t6, t7⟩, ⟨v0, v1, v2, v3, v4, v5, v6, v7⟩, q2⟩ := box32 (blk_below b2.out hBr)
        go_wp2_with fail
        refine (sum_calls _ _).mono ?_
        rintro e w3 ⟨rfl, rfl⟩
        cases hs : sumOp x.f0
        · generalize hw3 : w2.alloc (O32 y (.slice Ay y.f5.length cy)) = w3
          have hb3 : Below w2.heap.size w2 w3 := by rw [← hw3]; exact (by repeat (first | (with_reducible assumption) | (with_reducible exact Below.refl _ _) | (with_reducible apply below_alloc) | (with_reducible apply pw_below_drewN) | (with_reducible apply below_drew1) | ((with_reducible refine setC ?_ ?_ _); rotate_left; omega)))
          have b3 : w3.heap[w2.heap.size]? = some (O32 y (.slice Ay y.f5.length cy)) := by rw [← hw3]; exact (by repeat (first | (with_reducible assumption) | ((with_reducible refine blk_new ?_); (first | rfl | (simp; done))) | (with_reducible refine blk_alloc ?_ _) | (with_reducible refine blk_drewN ?_ _) | (with_reducible refine blk_drew ?_) | ((with_reducible refine blk_far ?_ ?_ _); rotate_left; (first | (simp; omega) | (simp; done)))))
          clear hw3 hs p0 p1 p2 p3 p4 p5 p6 p7 f0 f1 f2 f3 f4 f5 f6 f7 r0 r1 r2 r3 r4 r5 r6 r7 s0 s1 s2 s3 s4 s5 s6 s7 t0 t1 t2 t3 t4 t5 t6 t7 v0 v1 v2 v3 v4 v5 v6 v7
          have hBr3 : Below wr.heap.size wr w3 := belT hBr hb3
          have hB3 : Below w.heap.size w w3 := belT hB2 hb3
          obtain ⟨⟨t0, t1, t2, t3, t4, t5, t6, t7⟩, ⟨z0, z1, z2, z3, z4, z5, z6, z7⟩, q2'⟩ := box32 (blk_below b2.out hBr3)
          obtain ⟨⟨p0, p1, p2, p3, p4, p5, p6, p7⟩, ⟨f0, f1, f2, f3, f4, f5, f6, f7⟩, q0'⟩ := box32 b3
          have hN3 := Aside0.mk (Kd.N_below hN.out hBr3)
          have hR3 := Aside0.mk (Kd.R_below hR.out hBr3)
          have HF3 := Aside0.mk (Kd.F_below HF.out hb3)
          have hz3 : w2.heap.size ≤ w3.heap.size := hb3.size
          have hrlt := Aside0.mk (Kd.R_lt hR.out)
          have hnlt := Aside0.mk (Kd.N_lt hN.out)
          have hnb := Aside0.mk (Kd.N_base hN.out)
          have hrb := Aside0.mk (Kd.R_base hR.out)
          have e0 := Aside0.mk (blk_below b0.out hBr3)
          have e1 := Aside0.mk (blk_below b1.out hBr3)
          have e2 := Aside0.mk (blk_below b2.out hBr3)
          go_wp2_with (first | ((with_reducible refine gate_builtin (b := .append) (xs := #[.tmp 53, .tmp 55]) rfl ?_); at_builtin; refine Kd.N_append k32 (w0 := w3) (w.heap.size + 1 + 1 + 1) rfl (.tmp 53) (.tmp 55) 26 32 (.agg #[(.int .i64 0), (.string ⟨#[]⟩), (.string ⟨#[]⟩), (.int .i64 0), (.int .i64 0), (.int .i64 0), (.string ⟨#[]⟩), (.slice none 0 0)]) 104 rfl Try.underlying26 info32 rfl (by decide) (by omega) vA ys y [.int .i64 y.f0, .string y.f1, .string y.f2, .int .i64 y.f3, .int .i64 y.f4.f0, .int .i64 y.f4.f1, .string y.f4.f2, .slice Ay y.f5.length cy] (fun b => w.heap.size + 1 + 1 + 1 ≤ b ∧ some b ≠ u8.ownBlock) (fun b => (w.heap.size + 1 + 1 + 1 ≤ b ∧ some b ≠ u8.ownBlock) ∧ some b ≠ vA.ownBlock) rfl rfl ?aP (fun _ hk => hk) ?aF hN3.out (Below.refl _ _) (by omega) ?aL ?_; (case aP => exact k32_mkF _ _ y hcy (Kd.F_mono HF3.out (fun b hk => ⟨⟨by simp at hk; omega, fun he => by have := hrlt.out b he.symm; simp at hk; omega⟩, fun he => by have := hnlt.out b he.symm; simp at hk; omega⟩))); (case aF => exact fun b hk => ⟨by omega, fun he => by have := hrlt.out b he.symm; omega⟩); (case aL => have := HY.out; omega); intro v1 w4 hN4 hB4 hg hat; obtain ⟨A1, c1, hv1⟩ := Kd.N_slice hN4; obtain ⟨n1, hn1⟩ : ∃ n, n = (ys ++ [y]).length := ⟨_, rfl⟩; rw [← hn1] at hv1; clear hn1; subst hv1; have HN4 := Aside0.mk hN4; have hR4 := Aside0.mk (Kd.R_over' hR3.out (Kd.N_typed hN3.out) (by decide) hg); have hC4 : Below w.heap.size w w4 := pw_below_grown hB3 _ hB3.size hg (fun k hk => by have := hnb.out k hk; omega); have hz4 : w3.heap.size ≤ w4.heap.size := hg.size; have d0 := Aside0.mk (blk_grown e0.out hg (fun he => by have := hnb.out _ he.symm; omega)); have d1 := Aside0.mk (blk_grown e1.out hg (fun he => by have := hnb.out _ he.symm; omega)); have d2 := Aside0.mk (blk_grown e2.out hg (fun he => by have := hnb.out _ he.symm; omega)); clear hN4 hB4 hg hat t0 t1 t2 t3 t4 t5 t6 t7 z0 z1 z2 z3 z4 z5 z6 z7 p0 p1 p2 p3 p4 p5 p6 p7 f0 f1 f2 f3 f4 f5 f6 f7) | ((with_reducible refine gate_builtin (b := .append) (xs := #[.tmp 57, .tmp 59]) rfl ?_); at_builtin; refine Kd.R_append (Kd.int .i64) (w0 := w4) (w.heap.size + 1 + 1 + 1) rfl (.tmp 57) (.tmp 59) 23 3 (.int .i64 0) 8 rfl Try.underlying23 info3 rfl (by decide) (by omega) u8 ks kd [.int .i64 kd] (fun b => w.heap.size + 1 + 1 + 1 ≤ b) (fun _ => False) rfl rfl rfl (fun _ hk => hk.elim) (fun b hk => by omega) hR4.out (Below.refl _ _) (by omega) (by have := HK.out; omega) ?_; intro v2 w5 hR5 hB5 hg hat; have HR5 := Aside0.mk hR5; have HN5 := Aside0.mk (Kd.N_after HN4.out hg hat); have hC5 : Below w.heap.size w w5 := pw_below_grown hC4 _ hC4.size hg (fun k hk => by have := hrb.out k hk; omega); have hz5 : w4.heap.size ≤ w5.heap.size := hg.size; have d0' := Aside0.mk (blk_grown d0.out hg (fun he => by have := hrb.out _ he.symm; omega)); have d1' := Aside0.mk (blk_grown d1.out hg (fun he => by have := hrb.out _ he.symm; omega)); have d2' := Aside0.mk (blk_grown d2.out hg (fun he => by have := hrb.out _ he.symm; omega)); clear hR5 hB5 hg hat; obtain ⟨⟨t0, t1, t2, t3, t4, t5, t6, t7⟩, ⟨z0, z1, z2, z3, z4, z5, z6, z7⟩, q5⟩ := box32 d2'.out))
          go_roundg (gk - 1)
          · refine ⟨i + 1, ys ++ [y], ks ++ [kd], .slice A1 n1 c1, by simp, by have := HI.out; omega, by have := HY.out; simp; omega, by have := HK.out; simp; omega, ⟨fun z hz => ?_⟩, ⟨Kd.R_far HR5.out (fun b hk => by simp; omega) _⟩, ⟨Kd.N_far HN5.out (fun b hk => by have := hk.1; simp; omega) _⟩, ⟨blk_far d0'.out (by dsimp only; omega) _⟩, ⟨blk_far d1'.out (by dsimp only; omega) _⟩, ⟨blk_put d2'.out 7 (.slice A1 n1 c1) rfl⟩, (by repeat (first | (with_reducible assumption) | (with_reducible exact Below.refl _ _) | (with_reducible apply below_alloc) | (with_reducible apply pw_below_drewN) | (with_reducible apply below_drew1) | ((with_reducible refine setC ?_ ?_ _); rotate_left; omega))), by simp; omega⟩
            rcases List.mem_append.1 hz with h | h
            · exact hwt.out z h
            · obtain rfl : z = y := by simpa using h
              exact ⟨kd, by have := HW.out; simpa using this⟩
          · have := HI.out; omega
        · go_wp2_with fail
          refine (sums_calls y Ay cy _ (Kd.C_below (Kd.F_now HF.out) (by repeat (first | (with_reducible assumption) | (with_reducible exact Below.refl _ _) | (with_reducible apply below_alloc) | (with_reducible apply pw_below_drewN) | (with_reducible apply below_drew1) | ((with_reducible refine setC ?_ ?_ _); rotate_left; omega))))).mono ?_
          rintro e w3 ⟨rfl, hb'⟩
          have hb3 : Below w2.heap.size w2 w3 := (by refine belT ?_ hb'; repeat (first | (with_reducible assumption) | (with_reducible exact Below.refl _ _) | (with_reducible apply below_alloc) | (with_reducible apply pw_below_drewN) | (with_reducible apply below_drew1) | ((with_reducible refine setC ?_ ?_ _); rotate_left; omega)))
          have b3 : w3.heap[w2.heap.size]? = some (O32 y (.slice Ay y.f5.length cy)) := blk_below (by repeat (first | (with_reducible assumption) | ((with_reducible refine blk_new ?_); (first | rfl | (simp; done))) | (with_reducible refine blk_alloc ?_ _) | (with_reducible refine blk_drewN ?_ _) | (with_reducible refine blk_drew ?_) | ((with_reducible refine blk_far ?_ ?_ _); rotate_left; (first | (simp; omega) | (simp; done))))) hb'
          clear hb' p0 p1 p2 p3 p4 p5 p6 p7 f0 f1 f2 f3 f4 f5 f6 f7 r0 r1 r2 r3 r4 r5 r6 r7 s0 s1 s2 s3 s4 s5 s6 s7 t0 t1 t2 t3 t4 t5 t6 t7 v0 v1 v2 v3 v4 v5 v6 v7
          cases hsy : sumsX y
          · clear hs hsy
            have hBr3 : Below wr.heap.size wr w3 := belT hBr hb3
            have hB3 : Below w.heap.size w w3 := belT hB2 hb3
            obtain ⟨⟨t0, t1, t2, t3, t4, t5, t6, t7⟩, ⟨z0, z1, z2, z3, z4, z5, z6, z7⟩, q2'⟩ := box32 (blk_below b2.out hBr3)
            obtain ⟨⟨p0, p1, p2, p3, p4, p5, p6, p7⟩, ⟨f0, f1, f2, f3, f4, f5, f6, f7⟩, q0'⟩ := box32 b3
            have hN3 := Aside0.mk (Kd.N_below hN.out hBr3)
            have hR3 := Aside0.mk (Kd.R_below hR.out hBr3)
            have HF3 := Aside0.mk (Kd.F_below HF.out hb3)
            have hz3 : w2.heap.size ≤ w3.heap.size := hb3.size
            have hrlt := Aside0.mk (Kd.R_lt hR.out)
            have hnlt := Aside0.mk (Kd.N_lt hN.out)
            have hnb := Aside0.mk (Kd.N_base hN.out)
            have hrb := Aside0.mk (Kd.R_base hR.out)
            have e0 := Aside0.mk (blk_below b0.out hBr3)
            have e1 := Aside0.mk (blk_below b1.out hBr3)
            have e2 := Aside0.mk (blk_below b2.out hBr3)
            go_wp2_with (first | ((with_reducible refine gate_builtin (b := .append) (xs := #[.tmp 53, .tmp 55]) rfl ?_); at_builtin; refine Kd.N_append k32 (w0 := w3) (w.heap.size + 1 + 1 + 1) rfl (.tmp 53) (.tmp 55) 26 32 (.agg #[(.int .i64 0), (.string ⟨#[]⟩), (.string ⟨#[]⟩), (.int .i64 0), (.int .i64 0), (.int .i64 0), (.string ⟨#[]⟩), (.slice none 0 0)]) 104 rfl Try.underlying26 info32 rfl (by decide) (by omega) vA ys y [.int .i64 y.f0, .string y.f1, .string y.f2, .int .i64 y.f3, .int .i64 y.f4.f0, .int .i64 y.f4.f1, .string y.f4.f2, .slice Ay y.f5.length cy] (fun b => w.heap.size + 1 + 1 + 1 ≤ b ∧ some b ≠ u8.ownBlock) (fun b => (w.heap.size + 1 + 1 + 1 ≤ b ∧ some b ≠ u8.ownBlock) ∧ some b ≠ vA.ownBlock) rfl rfl ?aP (fun _ hk => hk) ?aF hN3.out (Below.refl _ _) (by omega) ?aL ?_; (case aP => exact k32_mkF _ _ y hcy (Kd.F_mono HF3.out (fun b hk => ⟨⟨by simp at hk; omega, fun he => by have := hrlt.out b he.symm; simp at hk; omega⟩, fun he => by have := hnlt.out b he.symm; simp at hk; omega⟩))); (case aF => exact fun b hk => ⟨by omega, fun he => by have := hrlt.out b he.symm; omega⟩); (case aL => have := HY.out; omega); intro v1 w4 hN4 hB4 hg hat; obtain ⟨A1, c1, hv1⟩ := Kd.N_slice hN4; obtain ⟨n1, hn1⟩ : ∃ n, n = (ys ++ [y]).length := ⟨_, rfl⟩; rw [← hn1] at hv1; clear hn1; subst hv1; have HN4 := Aside0.mk hN4; have hR4 := Aside0.mk (Kd.R_over' hR3.out (Kd.N_typed hN3.out) (by decide) hg); have hC4 : Below w.heap.size w w4 := pw_below_grown hB3 _ hB3.size hg (fun k hk => by have := hnb.out k hk; omega); have hz4 : w3.heap.size ≤ w4.heap.size := hg.size; have d0 := Aside0.mk (blk_grown e0.out hg (fun he => by have := hnb.out _ he.symm; omega)); have d1 := Aside0.mk (blk_grown e1.out hg (fun he => by have := hnb.out _ he.symm; omega)); have d2 := Aside0.mk (blk_grown e2.out hg (fun he => by have := hnb.out _ he.symm; omega)); clear hN4 hB4 hg hat t0 t1 t2 t3 t4 t5 t6 t7 z0 z1 z2 z3 z4 z5 z6 z7 p0 p1 p2 p3 p4 p5 p6 p7 f0 f1 f2 f3 f4 f5 f6 f7) | ((with_reducible refine gate_builtin (b := .append) (xs := #[.tmp 57, .tmp 59]) rfl ?_); at_builtin; refine Kd.R_append (Kd.int .i64) (w0 := w4) (w.heap.size + 1 + 1 + 1) rfl (.tmp 57) (.tmp 59) 23 3 (.int .i64 0) 8 rfl Try.underlying23 info3 rfl (by decide) (by omega) u8 ks kd [.int .i64 kd] (fun b => w.heap.size + 1 + 1 + 1 ≤ b) (fun _ => False) rfl rfl rfl (fun _ hk => hk.elim) (fun b hk => by omega) hR4.out (Below.refl _ _) (by omega) (by have := HK.out; omega) ?_; intro v2 w5 hR5 hB5 hg hat; have HR5 := Aside0.mk hR5; have HN5 := Aside0.mk (Kd.N_after HN4.out hg hat); have hC5 : Below w.heap.size w w5 := pw_below_grown hC4 _ hC4.size hg (fun k hk => by have := hrb.out k hk; omega); have hz5 : w4.heap.size ≤ w5.heap.size := hg.size; have d0' := Aside0.mk (blk_grown d0.out hg (fun he => by have := hrb.out _ he.symm; omega)); have d1' := Aside0.mk (blk_grown d1.out hg (fun he => by have := hrb.out _ he.symm; omega)); have d2' := Aside0.mk (blk_grown d2.out hg (fun he => by have := hrb.out _ he.symm; omega)); clear hR5 hB5 hg hat; obtain ⟨⟨t0, t1, t2, t3, t4, t5, t6, t7⟩, ⟨z0, z1, z2, z3, z4, z5, z6, z7⟩, q5⟩ := box32 d2'.out))
            go_roundg (gk - 1)
            · refine ⟨i + 1, ys ++ [y], ks ++ [kd], .slice A1 n1 c1, by simp, by have := HI.out; omega, by have := HY.out; simp; omega, by have := HK.out; simp; omega, ⟨fun z hz => ?_⟩, ⟨Kd.R_far HR5.out (fun b hk => by simp; omega) _⟩, ⟨Kd.N_far HN5.out (fun b hk => by have := hk.1; simp; omega) _⟩, ⟨blk_far d0'.out (by dsimp only; omega) _⟩, ⟨blk_far d1'.out (by dsimp only; omega) _⟩, ⟨blk_put d2'.out 7 (.slice A1 n1 c1) rfl⟩, (by repeat (first | (with_reducible assumption) | (with_reducible exact Below.refl _ _) | (with_reducible apply below_alloc) | (with_reducible apply pw_below_drewN) | (with_reducible apply below_drew1) | ((with_reducible refine setC ?_ ?_ _); rotate_left; omega))), by simp; omega⟩
              rcases List.mem_append.1 hz with h | h
              · exact hwt.out z h
              · obtain rfl : z = y := by simpa using h
                exact ⟨kd, by have := HW.out; simpa using this⟩
            · have := HI.out; omega
          · have hB3 : Below w.heap.size w w3 := belT hB2 hb3
            obtain ⟨⟨p0, p1, p2, p3, p4, p5, p6, p7⟩, ⟨f0, f1, f2, f3, f4, f5, f6, f7⟩, q0⟩ := box32 (blk_below (blk_below b1.out hBr) hb3)
            go_wp2
            refine ret_ex rfl ?_; apply Exists.intro; refine ⟨?_, ?_⟩; (simp [results, Try.results54]; (try go_simp); rfl)
            exact BindP.zero l 220 (by decide) (by repeat (first | (with_reducible assumption) | (with_reducible exact Below.refl _ _) | (with_reducible apply below_alloc) | (with_reducible apply pw_below_drewN) | (with_reducible apply below_drew1) | ((with_reducible refine setC ?_ ?_ _); rotate_left; omega)))
      · have d1 : (bad != 0) = true := by simpa using hbad
        have HD := Aside0.mk hbad
        clear hbad
        go_wp2
        refine ret_ex rfl ?_; apply Exists.intro; refine ⟨?_, ?_⟩; (simp [results, Try.results54]; (try go_simp); rfl)
        exact BindP.zero l bad HD.out (by repeat (first | (with_reducible assumption) | (with_reducible exact Below.refl _ _) | (with_reducible apply below_alloc) | (with_reducible apply pw_below_drewN) | (with_reducible apply below_drew1) | ((with_reducible refine setC ?_ ?_ _); rotate_left; omega)))
    · obtain ⟨A1, c1, rfl⟩ := Kd.N_slice hN.out
      obtain ⟨A8, c8, rfl, hc8, hC8⟩ := Kd.R_reads hR.out
      have hc1 : ys.length ≤ c1 := (Kd.N_reads' hN.out).2.1
      have hF := Aside0.mk (Kd.F_mono (Kd.N_F hN.out) (ok' := fun b => w.heap.size + 1 + 1 + 1 ≤ b) (fun b h => h.1))
      have HY := Aside0.mk hys
      have HK := Aside0.mk hks
      have HI := Aside0.mk (show i = x.f5.length by omega)
      obtain ⟨⟨p0, p1, p2, p3, p4, p5, p6, p7⟩, ⟨f0, f1, f2, f3, f4, f5, f6, f7⟩, q0⟩ := box32 b1.out
      obtain ⟨⟨r0, r1, r2, r3, r4, r5, r6, r7⟩, ⟨s0, s1, s2, s3, s4, s5, s6, s7⟩, q1⟩ := box32 b0.out
      obtain ⟨⟨t0, t1, t2, t3, t4, t5, t6, t7⟩, ⟨z0, z1, z2, z3, z4, z5, z6, z7⟩, q2⟩ := box32 b2.out
      have HC8 := Aside0.mk hC8
      clear hys hks hC8 hi
      by_cases o1 : x.f0 = 1
      · have d1 : (x.f0 == 1) = true := by simpa using o1
        have ho : Aside0 (ys = []) := ⟨List.eq_nil_of_length_eq_zero (by have := HY.out; have := HI.out; have := HP.out; rw [o1] at this; simp [parts] at this; omega)⟩
        have HO := Aside0.mk o1
        clear o1
        by_cases hr : 0 ≤ x.f4.f0 ∧ x.f4.f0 ≤ 2
        · go_wp2_with fail
          refine (literal_yes ⟨x.f0, x.f1, x.f2, x.f3, x.f4, ys⟩ A1 c1 _ hr).mono ?_
          rintro e w2 ⟨rfl, hb⟩
          have hB2 : Below w.heap.size w w2 := (by refine belT ?_ hb; repeat (first | (with_reducible assumption) | (with_reducible exact Below.refl _ _) | (with_reducible apply below_alloc) | (with_reducible apply pw_below_drewN) | (with_reducible apply below_drew1) | ((with_reducible refine setC ?_ ?_ _); rotate_left; omega)))
          have hF2 := Aside0.mk (Kd.F_below hF.out hb)
          obtain ⟨⟨p0, p1, p2, p3, p4, p5, p6, p7⟩, ⟨f0, f1, f2, f3, f4, f5, f6, f7⟩, q0⟩ := box32 (blk_below b1.out hb)
          go_wp2
          refine ret_ex rfl ?_; apply Exists.intro; refine ⟨?_, ?_⟩; (simp [results, Try.results54]; (try go_simp); rfl)
          exact ⟨⟨x.f0, x.f1, x.f2, x.f3, x.f4, ys⟩, x.f4.f0, 0, A1, c1, rfl, fun _ => WT.lit _ HO.out ho.out, hc1, Kd.F_mono (ok := fun b => w.heap.size + 1 + 1 + 1 ≤ b) (by repeat (first | (with_reducible exact hF2.out) | (with_reducible refine Kd.F_alloc ?_ _) | (with_reducible refine Kd.F_drewN ?_ _) | (with_reducible refine Kd.F_drew ?_) | ((with_reducible refine Kd.F_far ?_ ?_ _); rotate_left; (intro b hb; dsimp only at hb ⊢; omega)))) (fun b hb => by omega), (by repeat (first | (with_reducible assumption) | (with_reducible exact Below.refl _ _) | (with_reducible apply below_alloc) | (with_reducible apply pw_below_drewN) | (with_reducible apply below_drew1) | ((with_reducible refine setC ?_ ?_ _); rotate_left; omega)))⟩
        · go_wp2_with fail
          refine (literal_no ⟨x.f0, x.f1, x.f2, x.f3, x.f4, ys⟩ A1 c1 _ hr).mono ?_
          rintro e w2 ⟨rfl, hb⟩
          have hB2 : Below w.heap.size w w2 := (by refine belT ?_ hb; repeat (first | (with_reducible assumption) | (with_reducible exact Below.refl _ _) | (with_reducible apply below_alloc) | (with_reducible apply pw_below_drewN) | (with_reducible apply below_drew1) | ((with_reducible refine setC ?_ ?_ _); rotate_left; omega)))
          obtain ⟨⟨p0, p1, p2, p3, p4, p5, p6, p7⟩, ⟨f0, f1, f2, f3, f4, f5, f6, f7⟩, q0⟩ := box32 (blk_below b1.out hb)
          go_wp2
          refine ret_ex rfl ?_; apply Exists.intro; refine ⟨?_, ?_⟩; (simp [results, Try.results54]; (try go_simp); rfl)
          exact BindP.zero l 220 (by decide) (by repeat (first | (with_reducible assumption) | (with_reducible exact Below.refl _ _) | (with_reducible apply below_alloc) | (with_reducible apply pw_below_drewN) | (with_reducible apply below_drew1) | ((with_reducible refine setC ?_ ?_ _); rotate_left; omega)))
      by_cases o2 : x.f0 = 2
      · have d1 : (x.f0 == 1) = false := by simpa using o1
        have d2 : (x.f0 == 2) = true := by simpa using o2
        clear o1 o2
        go_wp2_with fail
        refine (column_calls l A0 c0 x.f1 x.f2 _ (Kd.C_below HL.out hB)).mono ?_
        rintro e w2 ⟨⟨i2, bad, rfl⟩, hb⟩
        have hB2 : Below w.heap.size w w2 := (by refine belT ?_ hb; repeat (first | (with_reducible assumption) | (with_reducible exact Below.refl _ _) | (with_reducible apply below_alloc) | (with_reducible apply pw_below_drewN) | (with_reducible apply below_drew1) | ((with_reducible refine setC ?_ ?_ _); rotate_left; omega)))
        obtain ⟨⟨p0, p1, p2, p3, p4, p5, p6, p7⟩, ⟨f0, f1, f2, f3, f4, f5, f6, f7⟩, q0⟩ := box32 (blk_below b1.out hb)
        by_cases hbad : bad = 0
        · subst hbad
          go_wp2_with fail
          refine (kind_calls l A0 c0 i2 _ (Kd.C_below HL.out hB2)).mono ?_
          rintro e w3 ⟨rfl, hb3⟩
          have hB3 : Below w.heap.size w w3 := (by refine belT ?_ hb3; repeat (first | (with_reducible assumption) | (with_reducible exact Below.refl _ _) | (with_reducible apply below_alloc) | (with_reducible apply pw_below_drewN) | (with_reducible apply below_drew1) | ((with_reducible refine setC ?_ ?_ _); rotate_left; omega)))
          obtain ⟨⟨p0, p1, p2, p3, p4, p5, p6, p7⟩, ⟨f0, f1, f2, f3, f4, f5, f6, f7⟩, q0⟩ := box32 (blk_below (blk_below b1.out hb) hb3)
          go_wp2
          refine ret_ex rfl ?_; apply Exists.intro; refine ⟨?_, ?_⟩; (simp [results, Try.results54]; (try go_simp); rfl)
          exact ⟨⟨3, ⟨#[]⟩, ⟨#[]⟩, i2, ⟨0, 0, ⟨#[]⟩⟩, []⟩, kindAt l i2, 0, none, 0, rfl, fun _ => WT.col _ rfl rfl, Nat.le_refl _, Kd.F_nil _ _ _, (by repeat (first | (with_reducible assumption) | (with_reducible exact Below.refl _ _) | (with_reducible apply below_alloc) | (with_reducible apply pw_below_drewN) | (with_reducible apply below_drew1) | ((with_reducible refine setC ?_ ?_ _); rotate_left; omega)))⟩
        · have d3 : (bad != 0) = true := by simpa using hbad
          have HD := Aside0.mk hbad
          clear hbad
          go_wp2
          refine ret_ex rfl ?_; apply Exists.intro; refine ⟨?_, ?_⟩; (simp [results, Try.results54]; (try go_simp); rfl)
          exact BindP.zero l bad HD.out (by repeat (first | (with_reducible assumption) | (with_reducible exact Below.refl _ _) | (with_reducible apply below_alloc) | (with_reducible apply pw_below_drewN) | (with_reducible apply below_drew1) | ((with_reducible refine setC ?_ ?_ _); rotate_left; omega)))
      by_cases o3 : x.f0 = 3
      · have d1 : (x.f0 == 1) = false := by simpa using o1
        have d2 : (x.f0 == 2) = false := by simpa using o2
        have d3 : (x.f0 == 3) = true := by simpa using o3
        have ho : Aside0 (ys = []) := ⟨List.eq_nil_of_length_eq_zero (by have := HY.out; have := HI.out; have := HP.out; rw [o3] at this; simp [parts] at this; omega)⟩
        have HO := Aside0.mk o3
        clear o1 o2 o3
        go_wp2_with fail
        go_region_with (first | (go_at_call 124; refine (place_calls l A0 c0 x.f3 _ (Kd.C_below HL.out (by repeat (first | (with_reducible assumption) | (with_reducible exact Below.refl _ _) | (with_reducible apply below_alloc) | (with_reducible apply pw_below_drewN) | (with_reducible apply below_drew1) | ((with_reducible refine setC ?_ ?_ _); rotate_left; omega))))).mono ?_; rintro e w2 ⟨rfl, hb⟩; have hB2 : Below w.heap.size w w2 := (by refine belT ?_ hb; repeat (first | (with_reducible assumption) | (with_reducible exact Below.refl _ _) | (with_reducible apply below_alloc) | (with_reducible apply pw_below_drewN) | (with_reducible apply below_drew1) | ((with_reducible refine setC ?_ ?_ _); rotate_left; omega))); have hF2 := Aside0.mk (Kd.F_below (Kd.F_drew hF.out) hb); obtain ⟨⟨p0, p1, p2, p3, p4, p5, p6, p7⟩, ⟨f0, f1, f2, f3, f4, f5, f6, f7⟩, q0⟩ := box32 (blk_below (blk_drew b1.out) hb); obtain ⟨⟨t0, t1, t2, t3, t4, t5, t6, t7⟩, ⟨z0, z1, z2, z3, z4, z5, z6, z7⟩, q2⟩ := box32 (blk_below (blk_drew b2.out) hb)))
        all_goals go_wp2
        all_goals refine ret_ex rfl ?_; apply Exists.intro; refine ⟨?_, ?_⟩; (simp [results, Try.results54]; (try go_simp); rfl)
        all_goals exact ⟨⟨x.f0, x.f1, x.f2, x.f3, x.f4, ys⟩, placeK l x.f3, 0, A1, c1, rfl, fun _ => WT.pos _ HO.out ho.out, hc1, Kd.F_mono (ok := fun b => w.heap.size + 1 + 1 + 1 ≤ b) (by repeat (first | (with_reducible exact hF2.out) | (with_reducible refine Kd.F_alloc ?_ _) | (with_reducible refine Kd.F_drewN ?_ _) | (with_reducible refine Kd.F_drew ?_) | ((with_reducible refine Kd.F_far ?_ ?_ _); rotate_left; (intro b hb; dsimp only at hb ⊢; omega)))) (fun b hb => by omega), (by repeat (first | (with_reducible assumption) | (with_reducible exact Below.refl _ _) | (with_reducible apply below_alloc) | (with_reducible apply pw_below_drewN) | (with_reducible apply below_drew1) | ((with_reducible refine setC ?_ ?_ _); rotate_left; omega)))⟩
      by_cases o4 : x.f0 = 22 ∨ x.f0 = 23
      · have d1 : (x.f0 == 1) = false := by simpa using o1
        have d2 : (x.f0 == 2) = false := by simpa using o2
        have d3 : (x.f0 == 3) = false := by simpa using o3
        have hs : sumOp x.f0 = true := by rcases o4 with h | h <;> simp [sumOp, h]
        have hk1 : ks.length = 1 := by have h1 := HK.out; have h2 := HI.out; have h3 := HP.out; rcases o4 with h | h <;> rw [h] at h3 <;> simp [parts] at h3 <;> omega
        obtain ⟨bd, rfl, g0⟩ := Kd.at_int HC8.out 0 (by omega) (by omega)
        obtain ⟨g, rfl⟩ := Kd.R_head hR.out
        have g0' : wr.cell? ⟨g, 0, none⟩ = some (.int .i64 (rd ks 0)) := by rw [show Int.toNat 0 = 0 from rfl, Addr.add_zero'] at g0; exact g0
        have i0 : (0 : Int) < (ks.length : Int) := by omega
        have n0 : 0 < ks.length := by omega
        have hl0 : g < wr.heap.size := World.block_lt_of_cell? wr _ g0'
        have hgb := Kd.R_base hR.out g rfl
        have hne1 : ¬ (g = w.heap.size + 1) := by omega
        have hne2 : ¬ (w.heap.size + 1 = g) := by omega
        have HS := Aside0.mk hs
        clear hk1 g0
        rcases o4 with h | h
        · have d4 : (x.f0 == 22) = true := by simpa using h
          clear o1 o2 o3 h hs
          go_wp2_with fail
          go_region
          all_goals go_wp2
          all_goals refine ret_ex rfl ?_; apply Exists.intro; refine ⟨?_, ?_⟩; (simp [results, Try.results54]; (try go_simp); rfl)
          all_goals exact ⟨⟨x.f0, x.f1, x.f2, x.f3, x.f4, ys⟩, rd ks 0, 0, A1, c1, rfl, fun _ => WT.sum _ _ HS.out, hc1, Kd.F_mono (ok := fun b => w.heap.size + 1 + 1 + 1 ≤ b) (by repeat (first | (with_reducible exact hF.out) | (with_reducible refine Kd.F_alloc ?_ _) | (with_reducible refine Kd.F_drewN ?_ _) | (with_reducible refine Kd.F_drew ?_) | ((with_reducible refine Kd.F_far ?_ ?_ _); rotate_left; (intro b hb; dsimp only at hb ⊢; omega)))) (fun b hb => by omega), (by repeat (first | (with_reducible assumption) | (with_reducible exact Below.refl _ _) | (with_reducible apply below_alloc) | (with_reducible apply pw_below_drewN) | (with_reducible apply below_drew1) | ((with_reducible refine setC ?_ ?_ _); rotate_left; omega)))⟩
        · have d4 : (x.f0 == 22) = false := by simp [h]
          have d5 : (x.f0 == 23) = true := by simpa using h
          clear o1 o2 o3 h hs
          go_wp2_with fail
          go_region
          all_goals go_wp2
          all_goals refine ret_ex rfl ?_; apply Exists.intro; refine ⟨?_, ?_⟩; (simp [results, Try.results54]; (try go_simp); rfl)
          all_goals exact ⟨⟨x.f0, x.f1, x.f2, x.f3, x.f4, ys⟩, rd ks 0, 0, A1, c1, rfl, fun _ => WT.sum _ _ HS.out, hc1, Kd.F_mono (ok := fun b => w.heap.size + 1 + 1 + 1 ≤ b) (by repeat (first | (with_reducible exact hF.out) | (with_reducible refine Kd.F_alloc ?_ _) | (with_reducible refine Kd.F_drewN ?_ _) | (with_reducible refine Kd.F_drew ?_) | ((with_reducible refine Kd.F_far ?_ ?_ _); rotate_left; (intro b hb; dsimp only at hb ⊢; omega)))) (fun b hb => by omega), (by repeat (first | (with_reducible assumption) | (with_reducible exact Below.refl _ _) | (with_reducible apply below_alloc) | (with_reducible apply pw_below_drewN) | (with_reducible apply below_drew1) | ((with_reducible refine setC ?_ ?_ _); rotate_left; omega)))⟩
      · have d1 : (x.f0 == 1) = false := by simpa using o1
        have d2 : (x.f0 == 2) = false := by simpa using o2
        have d3 : (x.f0 == 3) = false := by simpa using o3
        have d4 : (x.f0 == 22) = false := by simp; omega
        have d5 : (x.f0 == 23) = false := by simp; omega
        have H1 := Aside0.mk o1
        have H2 := Aside0.mk o2
        have H3 := Aside0.mk o3
        clear o1 o2 o3 o4
        go_wp2_with fail
        refine (fits_calls x.f0 ks A8 c8 _ HC8.out (fun hc => by
          have h1 := HK.out; have h2 := HI.out; have h3 := HP.out
          simp only [cmpOp, decide_eq_true_iff] at hc
          have h4 : parts x.f0 = 2 := by unfold parts; split <;> (try split) <;> (try split) <;> omega
          omega)).mono ?_
        rintro e w2 ⟨⟨b, rfl⟩, hb⟩
        have hB2 : Below w.heap.size w w2 := (by refine belT ?_ hb; repeat (first | (with_reducible assumption) | (with_reducible exact Below.refl _ _) | (with_reducible apply below_alloc) | (with_reducible apply pw_below_drewN) | (with_reducible apply below_drew1) | ((with_reducible refine setC ?_ ?_ _); rotate_left; omega)))
        have hF2 := Aside0.mk (Kd.F_below hF.out hb)
        obtain ⟨⟨p0, p1, p2, p3, p4, p5, p6, p7⟩, ⟨f0, f1, f2, f3, f4, f5, f6, f7⟩, q0⟩ := box32 (blk_below b1.out hb)
        obtain ⟨⟨t0, t1, t2, t3, t4, t5, t6, t7⟩, ⟨z0, z1, z2, z3, z4, z5, z6, z7⟩, q2⟩ := box32 (blk_below b2.out hb)
        cases b
        · go_wp2
          refine ret_ex rfl ?_; apply Exists.intro; refine ⟨?_, ?_⟩; (simp [results, Try.results54]; (try go_simp); rfl)
          exact BindP.zero l 220 (by decide) (by repeat (first | (with_reducible assumption) | (with_reducible exact Below.refl _ _) | (with_reducible apply below_alloc) | (with_reducible apply pw_below_drewN) | (with_reducible apply below_drew1) | ((with_reducible refine setC ?_ ?_ _); rotate_left; omega)))
        · go_wp2
          refine ret_ex rfl ?_; apply Exists.intro; refine ⟨?_, ?_⟩; (simp [results, Try.results54]; (try go_simp); rfl)
          refine ⟨⟨x.f0, x.f1, x.f2, x.f3, x.f4, ys⟩, 1, 0, A1, c1, rfl, fun _ => ?_, hc1, Kd.F_mono (ok := fun b => w.heap.size + 1 + 1 + 1 ≤ b) (by repeat (first | (with_reducible exact hF2.out) | (with_reducible refine Kd.F_alloc ?_ _) | (with_reducible refine Kd.F_drewN ?_ _) | (with_reducible refine Kd.F_drew ?_) | ((with_reducible refine Kd.F_far ?_ ?_ _); rotate_left; (intro b hb; dsimp only at hb ⊢; omega)))) (fun b hb => by omega), (by repeat (first | (with_reducible assumption) | (with_reducible exact Below.refl _ _) | (with_reducible apply below_alloc) | (with_reducible apply pw_below_drewN) | (with_reducible apply below_drew1) | ((with_reducible refine setC ?_ ?_ _); rotate_left; omega)))⟩
          cases hs : sumOp x.f0
          · obtain ⟨kf, hkf⟩ : ∃ kf : S32 → Int, ∀ y ∈ ys, WT l y (kf y) := by
              classical
              exact ⟨fun y => if h : ∃ kd, WT l y kd then h.choose else 0, fun y hy => by simp only [dif_pos (hwt.out y hy)]; exact (hwt.out y hy).choose_spec⟩
            exact WT.op _ kf (by have h1 := HY.out; have h2 := HI.out; have h3 := HP.out; show parts x.f0 = (ys.length : Int); omega) H1.out H2.out H3.out hkf
          · exact WT.sum _ _ hs
termination_by SizeOf.sizeOf x
decreasing_by have := List.sizeOf_lt_of_mem hm; cases x; simp at this ⊢; omega
end Go.Proofs.Ytfneopcbnlfkiaa.Ex
