/-
The kinds of the values that the laws speak of: a Lean structure for each Go struct, and what its cells say.
Laid by a program of this session (wip/tools/mkkinds.py) that calls the kit's own generator of kinds.
-/
import Derived.Test.YtfneopcbnlfkiaaProg
import Derived.Test.YtfneopcbnlfkiaaWWords
import Derived.Test.YtfneopcbnlfkiaaWLast
import Derived.Test.YtfneopcbnlfkiaaWN
import Derived.Test.YtfneopcbnlfkiaaWNEv
import Derived.Test.YtfneopcbnlfkiaaWMore
import Derived.Test.YtfneopcbnlfkiaaWEqStruct
namespace Go.Proofs.Ytfneopcbnlfkiaa.Kin
open Go.RowKit Go.Proofs.YtfneopcbnlfkiaaW.PrintWords
set_option linter.unusedVariables false

/-- A byte. -/
def kU8 : Kd UInt8 := Kd.scalar (fun b => .int .u8 (b.toNat : Int)) (fun _ => rfl)
theorem kU8_heap : Kd.Heap kU8 := Kd.heap_scalar
def rd_L5 (xs : List (List UInt8)) (i : Int) : (List UInt8) := xs.getD i.toNat ([] : List UInt8)
theorem at_L5 {w : World} {A : Option Addr} {n : Nat} {xs : List (List UInt8)} (h : Kd.C (Kd.slice 5 kU8) w A n xs) (i : Int) (h0 : 0 ≤ i) (h1 : i < n) : ∃ ad A0 c0, A = some ad ∧ w.cell? (ad.add i.toNat) = some (.slice A0 (rd_L5 xs i).length c0) ∧ (rd_L5 xs i).length ≤ c0 ∧ kU8.C w A0 (rd_L5 xs i).length (rd_L5 xs i) := by
  obtain ⟨ad, c, e, _, hK, hc0⟩ := Kd.C_get h ([] : List UInt8) i h0 h1
  have hc : ∀ j u, c[j]? = some u → w.cell? (ad.add (i.toNat * 1 + j)) = some u := hc0
  obtain ⟨A0, c0, rfl, l0, g0⟩ := hK
  exact ⟨ad, A0, c0, e, by have hq := hc 0 _ rfl; rwa [Nat.mul_one, Nat.add_zero] at hq, l0, g0⟩

def rd_L6 (xs : List (List Int)) (i : Int) : (List Int) := xs.getD i.toNat ([] : List Int)
theorem at_L6 {w : World} {A : Option Addr} {n : Nat} {xs : List (List Int)} (h : Kd.C (Kd.slice 3 (Kd.int .i64)) w A n xs) (i : Int) (h0 : 0 ≤ i) (h1 : i < n) : ∃ ad A0 c0, A = some ad ∧ w.cell? (ad.add i.toNat) = some (.slice A0 (rd_L6 xs i).length c0) ∧ (rd_L6 xs i).length ≤ c0 ∧ (Kd.int .i64).C w A0 (rd_L6 xs i).length (rd_L6 xs i) := by
  obtain ⟨ad, c, e, _, hK, hc0⟩ := Kd.C_get h ([] : List Int) i h0 h1
  have hc : ∀ j u, c[j]? = some u → w.cell? (ad.add (i.toNat * 1 + j)) = some u := hc0
  obtain ⟨A0, c0, rfl, l0, g0⟩ := hK
  exact ⟨ad, A0, c0, e, by have hq := hc 0 _ rfl; rwa [Nat.mul_one, Nat.add_zero] at hq, l0, g0⟩

def rd_L7 (xs : List (List Int)) (i : Int) : (List Int) := xs.getD i.toNat ([] : List Int)
theorem at_L7 {w : World} {A : Option Addr} {n : Nat} {xs : List (List Int)} (h : Kd.C (Kd.slice 47 (Kd.int .u64)) w A n xs) (i : Int) (h0 : 0 ≤ i) (h1 : i < n) : ∃ ad A0 c0, A = some ad ∧ w.cell? (ad.add i.toNat) = some (.slice A0 (rd_L7 xs i).length c0) ∧ (rd_L7 xs i).length ≤ c0 ∧ (Kd.int .u64).C w A0 (rd_L7 xs i).length (rd_L7 xs i) := by
  obtain ⟨ad, c, e, _, hK, hc0⟩ := Kd.C_get h ([] : List Int) i h0 h1
  have hc : ∀ j u, c[j]? = some u → w.cell? (ad.add (i.toNat * 1 + j)) = some u := hc0
  obtain ⟨A0, c0, rfl, l0, g0⟩ := hK
  exact ⟨ad, A0, c0, e, by have hq := hc 0 _ rfl; rwa [Nat.mul_one, Nat.add_zero] at hq, l0, g0⟩

/-! #### struct type 30 -/
structure S30 where
  f0 : Int
  f1 : Int
  f2 : ByteArray
def z30 : S30 := ⟨(0 : Int), (0 : Int), (⟨#[]⟩ : ByteArray)⟩
def k30 : Kd S30 := Kd.iso (Kd.pair (Kd.int .i64) (Kd.pair (Kd.int .i64) Kd.string)) (fun x : S30 => (x.f0, x.f1, x.f2))
theorem k30_heap : Kd.Heap k30 := Kd.heap_iso _ (Kd.heap_pair (Kd.heap_int .i64) (Kd.heap_pair (Kd.heap_int .i64) Kd.heap_string))
theorem k30_open {w : World} {x : S30} {cs : List Value} (h : k30.K w x cs) : cs = [.int .i64 x.f0, .int .i64 x.f1, .string x.f2] := by
  obtain ⟨_, _, rfl, rfl, ⟨_, _, rfl, rfl, rfl⟩⟩ := h
  exact rfl
theorem k30_openM {w : World} {base : Nat} {ok : Nat → Prop} {x : S30} {cs : List Value} (h : k30.M w base ok x cs) : cs = [.int .i64 x.f0, .int .i64 x.f1, .string x.f2] := by
  obtain ⟨_, _, rfl, rfl, ⟨_, _, rfl, rfl, rfl⟩⟩ := h
  exact rfl
theorem k30_mk (w : World) (x : S30)  : k30.K w x [.int .i64 x.f0, .int .i64 x.f1, .string x.f2] := ⟨[.int .i64 x.f0], [.int .i64 x.f1, .string x.f2], rfl, rfl, ⟨[.int .i64 x.f1], [.string x.f2], rfl, rfl, rfl⟩⟩
theorem k30_mkM (w : World) (base : Nat) (ok : Nat → Prop) (x : S30)  : k30.M w base ok x [.int .i64 x.f0, .int .i64 x.f1, .string x.f2] := ⟨[.int .i64 x.f0], [.int .i64 x.f1, .string x.f2], rfl, rfl, ⟨[.int .i64 x.f1], [.string x.f2], rfl, rfl, rfl⟩⟩
theorem k30_mkF (W : World) (ok : Nat → Prop) (x : S30) : Kd.FK k30 W ok x [.int .i64 x.f0, .int .i64 x.f1, .string x.f2] := fun W2 _ => k30_mk W2 x
def rd_T30 (xs : List S30) (i : Int) : S30 := xs.getD i.toNat z30
theorem at_T30 {w : World} {A : Option Addr} {n : Nat} {xs : List S30} (h : Kd.C k30 w A n xs) (i : Int) (h0 : 0 ≤ i) (h1 : i < n) : ∃ ad , A = some ad ∧ w.cell? (ad.add (i.toNat * 3)) = some (.int .i64 (rd_T30 xs i).f0) ∧ w.cell? ⟨(ad.add (i.toNat * 3)).block, (ad.add (i.toNat * 3)).off + 1, none⟩ = some (.int .i64 (rd_T30 xs i).f1) ∧ w.cell? ⟨(ad.add (i.toNat * 3)).block, (ad.add (i.toNat * 3)).off + 2, none⟩ = some (.string (rd_T30 xs i).f2) := by
  obtain ⟨ad, c, e, _, hK, hc0⟩ := Kd.C_get h z30 i h0 h1
  have hc : ∀ j u, c[j]? = some u → w.cell? (ad.add (i.toNat * 3 + j)) = some u := hc0
  obtain rfl := k30_open hK
  exact ⟨ad, e, hc 0 _ rfl, by rw [← add_field _ _ 1 (by omega)]; exact hc 1 _ rfl, by rw [← add_field _ _ 2 (by omega)]; exact hc 2 _ rfl⟩

def rd_L9 (xs : List (List S30)) (i : Int) : (List S30) := xs.getD i.toNat ([] : List S30)
theorem at_L9 {w : World} {A : Option Addr} {n : Nat} {xs : List (List S30)} (h : Kd.C (Kd.slice 30 k30) w A n xs) (i : Int) (h0 : 0 ≤ i) (h1 : i < n) : ∃ ad A0 c0, A = some ad ∧ w.cell? (ad.add i.toNat) = some (.slice A0 (rd_L9 xs i).length c0) ∧ (rd_L9 xs i).length ≤ c0 ∧ k30.C w A0 (rd_L9 xs i).length (rd_L9 xs i) := by
  obtain ⟨ad, c, e, _, hK, hc0⟩ := Kd.C_get h ([] : List S30) i h0 h1
  have hc : ∀ j u, c[j]? = some u → w.cell? (ad.add (i.toNat * 1 + j)) = some u := hc0
  obtain ⟨A0, c0, rfl, l0, g0⟩ := hK
  exact ⟨ad, A0, c0, e, by have hq := hc 0 _ rfl; rwa [Nat.mul_one, Nat.add_zero] at hq, l0, g0⟩

/-! #### struct type 32, nested in itself -/
structure S32 where
  f0 : Int
  f1 : ByteArray
  f2 : ByteArray
  f3 : Int
  f4 : S30
  f5 : (List S32)
def z32 : S32 := ⟨(0 : Int), (⟨#[]⟩ : ByteArray), (⟨#[]⟩ : ByteArray), (0 : Int), z30, ([] : List S32)⟩
def F32 (d : Kd S32) : Kd S32 := Kd.iso (Kd.pair (Kd.int .i64) (Kd.pair Kd.string (Kd.pair Kd.string (Kd.pair (Kd.int .i64) (Kd.pair k30 (Kd.slice 32 d)))))) (fun x : S32 => (x.f0, x.f1, x.f2, x.f3, x.f4, x.f5))
theorem mono32 : Kd.Mono F32 := Kd.mono_iso _ (Kd.mono_pair (Kd.mono_const _) (Kd.mono_pair (Kd.mono_const _) (Kd.mono_pair (Kd.mono_const _) (Kd.mono_pair (Kd.mono_const _) (Kd.mono_pair (Kd.mono_const _) (Kd.mono_slice 32 Kd.mono_id))))))
theorem sub32 : Kd.Sub F32 [32] := Kd.sub_iso _ (Kd.sub_pair (Kd.sub_const _ (by decide)) (Kd.sub_pair (Kd.sub_const _ (by decide)) (Kd.sub_pair (Kd.sub_const _ (by decide)) (Kd.sub_pair (Kd.sub_const _ (by decide)) (Kd.sub_pair (Kd.sub_const _ (by decide)) (Kd.sub_slice 32 (by decide) Kd.sub_id))))))
theorem sz32 : ∀ n, (Kd.upto F32 8 [32] n).sz = 8 := Kd.upto_sz (fun _ => rfl)
def k32 : Kd S32 := Kd.fix F32 8 [32] sz32 (Kd.upto_E sub32)
theorem k32_heap : Kd.Heap k32 := Kd.heap_fix (fun _ h_ => Kd.heap_iso _ (Kd.heap_pair (Kd.heap_int .i64) (Kd.heap_pair Kd.heap_string (Kd.heap_pair Kd.heap_string (Kd.heap_pair (Kd.heap_int .i64) (Kd.heap_pair k30_heap (Kd.heap_slice 32 h_)))))))
theorem k32_open {w : World} {x : S32} {cs : List Value} (h : k32.K w x cs) : ∃ A7 c7, cs = [.int .i64 x.f0, .string x.f1, .string x.f2, .int .i64 x.f3, .int .i64 x.f4.f0, .int .i64 x.f4.f1, .string x.f4.f2, .slice A7 x.f5.length c7] ∧ x.f5.length ≤ c7 ∧ k32.C w A7 x.f5.length x.f5 := by
  obtain ⟨n, h⟩ := h
  cases n with
  | zero => exact h.elim
  | succ n =>
    obtain ⟨_, _, rfl, rfl, ⟨_, _, rfl, rfl, ⟨_, _, rfl, rfl, ⟨_, _, rfl, rfl, ⟨_, _, rfl, s4, ⟨A7, c7, rfl, l7, g7⟩⟩⟩⟩⟩⟩ := h
    obtain rfl := k30_open s4
    exact ⟨A7, c7, rfl, l7, Kd.fix_C g7⟩
theorem k32_openM {w : World} {base : Nat} {ok : Nat → Prop} {x : S32} {cs : List Value} (h : k32.M w base ok x cs) : ∃ v7, cs = [.int .i64 x.f0, .string x.f1, .string x.f2, .int .i64 x.f3, .int .i64 x.f4.f0, .int .i64 x.f4.f1, .string x.f4.f2, v7] ∧ k32.R 32 w base ok v7 x.f5 := by
  obtain ⟨n, h⟩ := h
  cases n with
  | zero => exact h.elim
  | succ n =>
    obtain ⟨_, _, rfl, rfl, ⟨_, _, rfl, rfl, ⟨_, _, rfl, rfl, ⟨_, _, rfl, rfl, ⟨_, _, rfl, s4, ⟨v7, rfl, g7⟩⟩⟩⟩⟩⟩ := h
    obtain rfl := k30_openM s4
    exact ⟨v7, rfl, Kd.fix_R g7⟩
theorem k32_mk (w : World) (x : S32) {A7 : Option Addr} {c7 : Nat} (l7 : x.f5.length ≤ c7) (g7 : k32.C w A7 x.f5.length x.f5) : k32.K w x [.int .i64 x.f0, .string x.f1, .string x.f2, .int .i64 x.f3, .int .i64 x.f4.f0, .int .i64 x.f4.f1, .string x.f4.f2, .slice A7 x.f5.length c7] := by
  obtain ⟨n7, q7⟩ := Kd.fix_C_back mono32 g7
  have r7 := Kd.upto_C_le mono32 sz32 (show n7 ≤ n7 by omega) q7
  exact ⟨n7 + 1, ⟨[.int .i64 x.f0], [.string x.f1, .string x.f2, .int .i64 x.f3, .int .i64 x.f4.f0, .int .i64 x.f4.f1, .string x.f4.f2, .slice A7 x.f5.length c7], rfl, rfl, ⟨[.string x.f1], [.string x.f2, .int .i64 x.f3, .int .i64 x.f4.f0, .int .i64 x.f4.f1, .string x.f4.f2, .slice A7 x.f5.length c7], rfl, rfl, ⟨[.string x.f2], [.int .i64 x.f3, .int .i64 x.f4.f0, .int .i64 x.f4.f1, .string x.f4.f2, .slice A7 x.f5.length c7], rfl, rfl, ⟨[.int .i64 x.f3], [.int .i64 x.f4.f0, .int .i64 x.f4.f1, .string x.f4.f2, .slice A7 x.f5.length c7], rfl, rfl, ⟨[.int .i64 x.f4.f0, .int .i64 x.f4.f1, .string x.f4.f2], [.slice A7 x.f5.length c7], rfl, (k30_mk w x.f4 ), ⟨A7, c7, rfl, l7, r7⟩⟩⟩⟩⟩⟩⟩
theorem k32_mkM (w : World) (base : Nat) (ok : Nat → Prop) (x : S32) {v7 : Value} (g7 : k32.R 32 w base ok v7 x.f5) : k32.M w base ok x [.int .i64 x.f0, .string x.f1, .string x.f2, .int .i64 x.f3, .int .i64 x.f4.f0, .int .i64 x.f4.f1, .string x.f4.f2, v7] := by
  obtain ⟨n7, q7⟩ := Kd.fix_R_back mono32 g7
  have r7 := Kd.upto_R_le mono32 sz32 (show n7 ≤ n7 by omega) q7
  exact ⟨n7 + 1, ⟨[.int .i64 x.f0], [.string x.f1, .string x.f2, .int .i64 x.f3, .int .i64 x.f4.f0, .int .i64 x.f4.f1, .string x.f4.f2, v7], rfl, rfl, ⟨[.string x.f1], [.string x.f2, .int .i64 x.f3, .int .i64 x.f4.f0, .int .i64 x.f4.f1, .string x.f4.f2, v7], rfl, rfl, ⟨[.string x.f2], [.int .i64 x.f3, .int .i64 x.f4.f0, .int .i64 x.f4.f1, .string x.f4.f2, v7], rfl, rfl, ⟨[.int .i64 x.f3], [.int .i64 x.f4.f0, .int .i64 x.f4.f1, .string x.f4.f2, v7], rfl, rfl, ⟨[.int .i64 x.f4.f0, .int .i64 x.f4.f1, .string x.f4.f2], [v7], rfl, (k30_mkM w base ok x.f4 ), ⟨v7, rfl, r7⟩⟩⟩⟩⟩⟩⟩
theorem k32_openF {W : World} {ok : Nat → Prop} {x : S32} {cs : List Value} (h : Kd.FK k32 W ok x cs) : ∃ A7 c7, cs = [.int .i64 x.f0, .string x.f1, .string x.f2, .int .i64 x.f3, .int .i64 x.f4.f0, .int .i64 x.f4.f1, .string x.f4.f2, .slice A7 x.f5.length c7] ∧ x.f5.length ≤ c7 ∧ Kd.F k32 W ok A7 x.f5.length x.f5 := by
  obtain ⟨A7, c7, rfl, l7, _⟩ := k32_open (Kd.FK_now h)
  exact ⟨A7, c7, rfl, l7, (fun W' hW => by obtain ⟨A7_, c7_, he, l7_, g7_⟩ := k32_open (h W' hW); injection (Option.some.inj (show some (Value.slice A7 x.f5.length c7) = some (Value.slice A7_ x.f5.length c7_) from congrArg (fun l => l[7]?) he)) with ha_ _ _; rw [ha_]; exact g7_)⟩
theorem k32_mkF (W : World) (ok : Nat → Prop) (x : S32) {A7 : Option Addr} {c7 : Nat} (l7 : x.f5.length ≤ c7) (g7 : Kd.F k32 W ok A7 x.f5.length x.f5) : Kd.FK k32 W ok x [.int .i64 x.f0, .string x.f1, .string x.f2, .int .i64 x.f3, .int .i64 x.f4.f0, .int .i64 x.f4.f1, .string x.f4.f2, .slice A7 x.f5.length c7] := fun W2 hW => k32_mk W2 x l7 (g7 W2 hW)
def rd_T32 (xs : List S32) (i : Int) : S32 := xs.getD i.toNat z32
theorem at_T32 {w : World} {A : Option Addr} {n : Nat} {xs : List S32} (h : Kd.C k32 w A n xs) (i : Int) (h0 : 0 ≤ i) (h1 : i < n) : ∃ ad A7 c7, A = some ad ∧ w.cell? (ad.add (i.toNat * 8)) = some (.int .i64 (rd_T32 xs i).f0) ∧ w.cell? ⟨(ad.add (i.toNat * 8)).block, (ad.add (i.toNat * 8)).off + 1, none⟩ = some (.string (rd_T32 xs i).f1) ∧ w.cell? ⟨(ad.add (i.toNat * 8)).block, (ad.add (i.toNat * 8)).off + 2, none⟩ = some (.string (rd_T32 xs i).f2) ∧ w.cell? ⟨(ad.add (i.toNat * 8)).block, (ad.add (i.toNat * 8)).off + 3, none⟩ = some (.int .i64 (rd_T32 xs i).f3) ∧ w.cell? ⟨(ad.add (i.toNat * 8)).block, (ad.add (i.toNat * 8)).off + 4, none⟩ = some (.int .i64 (rd_T32 xs i).f4.f0) ∧ w.cell? ⟨(ad.add (i.toNat * 8)).block, (ad.add (i.toNat * 8)).off + 5, none⟩ = some (.int .i64 (rd_T32 xs i).f4.f1) ∧ w.cell? ⟨(ad.add (i.toNat * 8)).block, (ad.add (i.toNat * 8)).off + 6, none⟩ = some (.string (rd_T32 xs i).f4.f2) ∧ w.cell? ⟨(ad.add (i.toNat * 8)).block, (ad.add (i.toNat * 8)).off + 7, none⟩ = some (.slice A7 (rd_T32 xs i).f5.length c7) ∧ (rd_T32 xs i).f5.length ≤ c7 ∧ k32.C w A7 (rd_T32 xs i).f5.length (rd_T32 xs i).f5 := by
  obtain ⟨ad, c, e, _, hK, hc0⟩ := Kd.C_get h z32 i h0 h1
  have hc : ∀ j u, c[j]? = some u → w.cell? (ad.add (i.toNat * 8 + j)) = some u := hc0
  obtain ⟨A7, c7, rfl, l7, g7⟩ := k32_open hK
  exact ⟨ad, A7, c7, e, hc 0 _ rfl, by rw [← add_field _ _ 1 (by omega)]; exact hc 1 _ rfl, by rw [← add_field _ _ 2 (by omega)]; exact hc 2 _ rfl, by rw [← add_field _ _ 3 (by omega)]; exact hc 3 _ rfl, by rw [← add_field _ _ 4 (by omega)]; exact hc 4 _ rfl, by rw [← add_field _ _ 5 (by omega)]; exact hc 5 _ rfl, by rw [← add_field _ _ 6 (by omega)]; exact hc 6 _ rfl, by rw [← add_field _ _ 7 (by omega)]; exact hc 7 _ rfl, l7, g7⟩

def rd_L11 (xs : List (List S32)) (i : Int) : (List S32) := xs.getD i.toNat ([] : List S32)
theorem at_L11 {w : World} {A : Option Addr} {n : Nat} {xs : List (List S32)} (h : Kd.C (Kd.slice 32 k32) w A n xs) (i : Int) (h0 : 0 ≤ i) (h1 : i < n) : ∃ ad A0 c0, A = some ad ∧ w.cell? (ad.add i.toNat) = some (.slice A0 (rd_L11 xs i).length c0) ∧ (rd_L11 xs i).length ≤ c0 ∧ k32.C w A0 (rd_L11 xs i).length (rd_L11 xs i) := by
  obtain ⟨ad, c, e, _, hK, hc0⟩ := Kd.C_get h ([] : List S32) i h0 h1
  have hc : ∀ j u, c[j]? = some u → w.cell? (ad.add (i.toNat * 1 + j)) = some u := hc0
  obtain ⟨A0, c0, rfl, l0, g0⟩ := hK
  exact ⟨ad, A0, c0, e, by have hq := hc 0 _ rfl; rwa [Nat.mul_one, Nat.add_zero] at hq, l0, g0⟩

/-! #### struct type 87 -/
structure S87 where
  f0 : ByteArray
  f1 : Int
  f2 : Bool
def z87 : S87 := ⟨(⟨#[]⟩ : ByteArray), (0 : Int), false⟩
def k87 : Kd S87 := Kd.iso (Kd.pair Kd.string (Kd.pair (Kd.int .i64) Kd.bool)) (fun x : S87 => (x.f0, x.f1, x.f2))
theorem k87_heap : Kd.Heap k87 := Kd.heap_iso _ (Kd.heap_pair Kd.heap_string (Kd.heap_pair (Kd.heap_int .i64) Kd.heap_bool))
theorem k87_open {w : World} {x : S87} {cs : List Value} (h : k87.K w x cs) : cs = [.string x.f0, .int .i64 x.f1, .bool x.f2] := by
  obtain ⟨_, _, rfl, rfl, ⟨_, _, rfl, rfl, rfl⟩⟩ := h
  exact rfl
theorem k87_openM {w : World} {base : Nat} {ok : Nat → Prop} {x : S87} {cs : List Value} (h : k87.M w base ok x cs) : cs = [.string x.f0, .int .i64 x.f1, .bool x.f2] := by
  obtain ⟨_, _, rfl, rfl, ⟨_, _, rfl, rfl, rfl⟩⟩ := h
  exact rfl
theorem k87_mk (w : World) (x : S87)  : k87.K w x [.string x.f0, .int .i64 x.f1, .bool x.f2] := ⟨[.string x.f0], [.int .i64 x.f1, .bool x.f2], rfl, rfl, ⟨[.int .i64 x.f1], [.bool x.f2], rfl, rfl, rfl⟩⟩
theorem k87_mkM (w : World) (base : Nat) (ok : Nat → Prop) (x : S87)  : k87.M w base ok x [.string x.f0, .int .i64 x.f1, .bool x.f2] := ⟨[.string x.f0], [.int .i64 x.f1, .bool x.f2], rfl, rfl, ⟨[.int .i64 x.f1], [.bool x.f2], rfl, rfl, rfl⟩⟩
theorem k87_mkF (W : World) (ok : Nat → Prop) (x : S87) : Kd.FK k87 W ok x [.string x.f0, .int .i64 x.f1, .bool x.f2] := fun W2 _ => k87_mk W2 x
def rd_T87 (xs : List S87) (i : Int) : S87 := xs.getD i.toNat z87
theorem at_T87 {w : World} {A : Option Addr} {n : Nat} {xs : List S87} (h : Kd.C k87 w A n xs) (i : Int) (h0 : 0 ≤ i) (h1 : i < n) : ∃ ad , A = some ad ∧ w.cell? (ad.add (i.toNat * 3)) = some (.string (rd_T87 xs i).f0) ∧ w.cell? ⟨(ad.add (i.toNat * 3)).block, (ad.add (i.toNat * 3)).off + 1, none⟩ = some (.int .i64 (rd_T87 xs i).f1) ∧ w.cell? ⟨(ad.add (i.toNat * 3)).block, (ad.add (i.toNat * 3)).off + 2, none⟩ = some (.bool (rd_T87 xs i).f2) := by
  obtain ⟨ad, c, e, _, hK, hc0⟩ := Kd.C_get h z87 i h0 h1
  have hc : ∀ j u, c[j]? = some u → w.cell? (ad.add (i.toNat * 3 + j)) = some u := hc0
  obtain rfl := k87_open hK
  exact ⟨ad, e, hc 0 _ rfl, by rw [← add_field _ _ 1 (by omega)]; exact hc 1 _ rfl, by rw [← add_field _ _ 2 (by omega)]; exact hc 2 _ rfl⟩

def rd_L13 (xs : List (List S87)) (i : Int) : (List S87) := xs.getD i.toNat ([] : List S87)
theorem at_L13 {w : World} {A : Option Addr} {n : Nat} {xs : List (List S87)} (h : Kd.C (Kd.slice 87 k87) w A n xs) (i : Int) (h0 : 0 ≤ i) (h1 : i < n) : ∃ ad A0 c0, A = some ad ∧ w.cell? (ad.add i.toNat) = some (.slice A0 (rd_L13 xs i).length c0) ∧ (rd_L13 xs i).length ≤ c0 ∧ k87.C w A0 (rd_L13 xs i).length (rd_L13 xs i) := by
  obtain ⟨ad, c, e, _, hK, hc0⟩ := Kd.C_get h ([] : List S87) i h0 h1
  have hc : ∀ j u, c[j]? = some u → w.cell? (ad.add (i.toNat * 1 + j)) = some u := hc0
  obtain ⟨A0, c0, rfl, l0, g0⟩ := hK
  exact ⟨ad, A0, c0, e, by have hq := hc 0 _ rfl; rwa [Nat.mul_one, Nat.add_zero] at hq, l0, g0⟩

/-! #### struct type 25 -/
structure S25 where
  f0 : Int
  f1 : ByteArray
  f2 : (List S87)
  f3 : Int
  f4 : (List Int)
def z25 : S25 := ⟨(0 : Int), (⟨#[]⟩ : ByteArray), ([] : List S87), (0 : Int), ([] : List Int)⟩
def k25 : Kd S25 := Kd.iso (Kd.pair (Kd.int .i64) (Kd.pair Kd.string (Kd.pair (Kd.slice 87 k87) (Kd.pair (Kd.int .i64) (Kd.slice 3 (Kd.int .i64)))))) (fun x : S25 => (x.f0, x.f1, x.f2, x.f3, x.f4))
theorem k25_heap : Kd.Heap k25 := Kd.heap_iso _ (Kd.heap_pair (Kd.heap_int .i64) (Kd.heap_pair Kd.heap_string (Kd.heap_pair (Kd.heap_slice 87 k87_heap) (Kd.heap_pair (Kd.heap_int .i64) (Kd.heap_slice 3 (Kd.heap_int .i64))))))
theorem k25_open {w : World} {x : S25} {cs : List Value} (h : k25.K w x cs) : ∃ A2 c2 A4 c4, cs = [.int .i64 x.f0, .string x.f1, .slice A2 x.f2.length c2, .int .i64 x.f3, .slice A4 x.f4.length c4] ∧ x.f2.length ≤ c2 ∧ k87.C w A2 x.f2.length x.f2 ∧ x.f4.length ≤ c4 ∧ (Kd.int .i64).C w A4 x.f4.length x.f4 := by
  obtain ⟨_, _, rfl, rfl, ⟨_, _, rfl, rfl, ⟨_, _, rfl, ⟨A2, c2, rfl, l2, g2⟩, ⟨_, _, rfl, rfl, ⟨A4, c4, rfl, l4, g4⟩⟩⟩⟩⟩ := h
  exact ⟨A2, c2, A4, c4, rfl, l2, g2, l4, g4⟩
theorem k25_openM {w : World} {base : Nat} {ok : Nat → Prop} {x : S25} {cs : List Value} (h : k25.M w base ok x cs) : ∃ v2 v4, cs = [.int .i64 x.f0, .string x.f1, v2, .int .i64 x.f3, v4] ∧ k87.R 87 w base ok v2 x.f2 ∧ (Kd.int .i64).R 3 w base ok v4 x.f4 := by
  obtain ⟨_, _, rfl, rfl, ⟨_, _, rfl, rfl, ⟨_, _, rfl, ⟨v2, rfl, g2⟩, ⟨_, _, rfl, rfl, ⟨v4, rfl, g4⟩⟩⟩⟩⟩ := h
  exact ⟨v2, v4, rfl, g2, g4⟩
theorem k25_mk (w : World) (x : S25) {A2 : Option Addr} {c2 : Nat} (l2 : x.f2.length ≤ c2) (g2 : k87.C w A2 x.f2.length x.f2) {A4 : Option Addr} {c4 : Nat} (l4 : x.f4.length ≤ c4) (g4 : (Kd.int .i64).C w A4 x.f4.length x.f4) : k25.K w x [.int .i64 x.f0, .string x.f1, .slice A2 x.f2.length c2, .int .i64 x.f3, .slice A4 x.f4.length c4] := ⟨[.int .i64 x.f0], [.string x.f1, .slice A2 x.f2.length c2, .int .i64 x.f3, .slice A4 x.f4.length c4], rfl, rfl, ⟨[.string x.f1], [.slice A2 x.f2.length c2, .int .i64 x.f3, .slice A4 x.f4.length c4], rfl, rfl, ⟨[.slice A2 x.f2.length c2], [.int .i64 x.f3, .slice A4 x.f4.length c4], rfl, ⟨A2, c2, rfl, l2, g2⟩, ⟨[.int .i64 x.f3], [.slice A4 x.f4.length c4], rfl, rfl, ⟨A4, c4, rfl, l4, g4⟩⟩⟩⟩⟩
theorem k25_mkM (w : World) (base : Nat) (ok : Nat → Prop) (x : S25) {v2 : Value} (g2 : k87.R 87 w base ok v2 x.f2) {v4 : Value} (g4 : (Kd.int .i64).R 3 w base ok v4 x.f4) : k25.M w base ok x [.int .i64 x.f0, .string x.f1, v2, .int .i64 x.f3, v4] := ⟨[.int .i64 x.f0], [.string x.f1, v2, .int .i64 x.f3, v4], rfl, rfl, ⟨[.string x.f1], [v2, .int .i64 x.f3, v4], rfl, rfl, ⟨[v2], [.int .i64 x.f3, v4], rfl, ⟨v2, rfl, g2⟩, ⟨[.int .i64 x.f3], [v4], rfl, rfl, ⟨v4, rfl, g4⟩⟩⟩⟩⟩
theorem k25_openF {W : World} {ok : Nat → Prop} {x : S25} {cs : List Value} (h : Kd.FK k25 W ok x cs) : ∃ A2 c2 A4 c4, cs = [.int .i64 x.f0, .string x.f1, .slice A2 x.f2.length c2, .int .i64 x.f3, .slice A4 x.f4.length c4] ∧ x.f2.length ≤ c2 ∧ Kd.F k87 W ok A2 x.f2.length x.f2 ∧ x.f4.length ≤ c4 ∧ Kd.F (Kd.int .i64) W ok A4 x.f4.length x.f4 := by
  obtain ⟨A2, c2, A4, c4, rfl, l2, _, l4, _⟩ := k25_open (Kd.FK_now h)
  exact ⟨A2, c2, A4, c4, rfl, l2, (fun W' hW => by obtain ⟨A2_, c2_, A4_, c4_, he, l2_, g2_, l4_, g4_⟩ := k25_open (h W' hW); injection (Option.some.inj (show some (Value.slice A2 x.f2.length c2) = some (Value.slice A2_ x.f2.length c2_) from congrArg (fun l => l[2]?) he)) with ha_ _ _; rw [ha_]; exact g2_), l4, (fun W' hW => by obtain ⟨A2_, c2_, A4_, c4_, he, l2_, g2_, l4_, g4_⟩ := k25_open (h W' hW); injection (Option.some.inj (show some (Value.slice A4 x.f4.length c4) = some (Value.slice A4_ x.f4.length c4_) from congrArg (fun l => l[4]?) he)) with ha_ _ _; rw [ha_]; exact g4_)⟩
theorem k25_mkF (W : World) (ok : Nat → Prop) (x : S25) {A2 : Option Addr} {c2 : Nat} (l2 : x.f2.length ≤ c2) (g2 : Kd.F k87 W ok A2 x.f2.length x.f2) {A4 : Option Addr} {c4 : Nat} (l4 : x.f4.length ≤ c4) (g4 : Kd.F (Kd.int .i64) W ok A4 x.f4.length x.f4) : Kd.FK k25 W ok x [.int .i64 x.f0, .string x.f1, .slice A2 x.f2.length c2, .int .i64 x.f3, .slice A4 x.f4.length c4] := fun W2 hW => k25_mk W2 x l2 (g2 W2 hW) l4 (g4 W2 hW)
def rd_T25 (xs : List S25) (i : Int) : S25 := xs.getD i.toNat z25
theorem at_T25 {w : World} {A : Option Addr} {n : Nat} {xs : List S25} (h : Kd.C k25 w A n xs) (i : Int) (h0 : 0 ≤ i) (h1 : i < n) : ∃ ad A2 c2 A4 c4, A = some ad ∧ w.cell? (ad.add (i.toNat * 5)) = some (.int .i64 (rd_T25 xs i).f0) ∧ w.cell? ⟨(ad.add (i.toNat * 5)).block, (ad.add (i.toNat * 5)).off + 1, none⟩ = some (.string (rd_T25 xs i).f1) ∧ w.cell? ⟨(ad.add (i.toNat * 5)).block, (ad.add (i.toNat * 5)).off + 2, none⟩ = some (.slice A2 (rd_T25 xs i).f2.length c2) ∧ w.cell? ⟨(ad.add (i.toNat * 5)).block, (ad.add (i.toNat * 5)).off + 3, none⟩ = some (.int .i64 (rd_T25 xs i).f3) ∧ w.cell? ⟨(ad.add (i.toNat * 5)).block, (ad.add (i.toNat * 5)).off + 4, none⟩ = some (.slice A4 (rd_T25 xs i).f4.length c4) ∧ (rd_T25 xs i).f2.length ≤ c2 ∧ k87.C w A2 (rd_T25 xs i).f2.length (rd_T25 xs i).f2 ∧ (rd_T25 xs i).f4.length ≤ c4 ∧ (Kd.int .i64).C w A4 (rd_T25 xs i).f4.length (rd_T25 xs i).f4 := by
  obtain ⟨ad, c, e, _, hK, hc0⟩ := Kd.C_get h z25 i h0 h1
  have hc : ∀ j u, c[j]? = some u → w.cell? (ad.add (i.toNat * 5 + j)) = some u := hc0
  obtain ⟨A2, c2, A4, c4, rfl, l2, g2, l4, g4⟩ := k25_open hK
  exact ⟨ad, A2, c2, A4, c4, e, hc 0 _ rfl, by rw [← add_field _ _ 1 (by omega)]; exact hc 1 _ rfl, by rw [← add_field _ _ 2 (by omega)]; exact hc 2 _ rfl, by rw [← add_field _ _ 3 (by omega)]; exact hc 3 _ rfl, by rw [← add_field _ _ 4 (by omega)]; exact hc 4 _ rfl, l2, g2, l4, g4⟩

def rd_L15 (xs : List (List S25)) (i : Int) : (List S25) := xs.getD i.toNat ([] : List S25)
theorem at_L15 {w : World} {A : Option Addr} {n : Nat} {xs : List (List S25)} (h : Kd.C (Kd.slice 25 k25) w A n xs) (i : Int) (h0 : 0 ≤ i) (h1 : i < n) : ∃ ad A0 c0, A = some ad ∧ w.cell? (ad.add i.toNat) = some (.slice A0 (rd_L15 xs i).length c0) ∧ (rd_L15 xs i).length ≤ c0 ∧ k25.C w A0 (rd_L15 xs i).length (rd_L15 xs i) := by
  obtain ⟨ad, c, e, _, hK, hc0⟩ := Kd.C_get h ([] : List S25) i h0 h1
  have hc : ∀ j u, c[j]? = some u → w.cell? (ad.add (i.toNat * 1 + j)) = some u := hc0
  obtain ⟨A0, c0, rfl, l0, g0⟩ := hK
  exact ⟨ad, A0, c0, e, by have hq := hc 0 _ rfl; rwa [Nat.mul_one, Nat.add_zero] at hq, l0, g0⟩

/-! #### struct type 85 -/
structure S85 where
  f0 : ByteArray
  f1 : S25
  f2 : Int
def z85 : S85 := ⟨(⟨#[]⟩ : ByteArray), z25, (0 : Int)⟩
def k85 : Kd S85 := Kd.iso (Kd.pair Kd.string (Kd.pair k25 (Kd.int .i64))) (fun x : S85 => (x.f0, x.f1, x.f2))
theorem k85_heap : Kd.Heap k85 := Kd.heap_iso _ (Kd.heap_pair Kd.heap_string (Kd.heap_pair k25_heap (Kd.heap_int .i64)))
theorem k85_open {w : World} {x : S85} {cs : List Value} (h : k85.K w x cs) : ∃ A3 c3 A5 c5, cs = [.string x.f0, .int .i64 x.f1.f0, .string x.f1.f1, .slice A3 x.f1.f2.length c3, .int .i64 x.f1.f3, .slice A5 x.f1.f4.length c5, .int .i64 x.f2] ∧ x.f1.f2.length ≤ c3 ∧ k87.C w A3 x.f1.f2.length x.f1.f2 ∧ x.f1.f4.length ≤ c5 ∧ (Kd.int .i64).C w A5 x.f1.f4.length x.f1.f4 := by
  obtain ⟨_, _, rfl, rfl, ⟨_, _, rfl, s1, rfl⟩⟩ := h
  obtain ⟨A3, c3, A5, c5, rfl, l3, g3, l5, g5⟩ := k25_open s1
  exact ⟨A3, c3, A5, c5, rfl, l3, g3, l5, g5⟩
theorem k85_openM {w : World} {base : Nat} {ok : Nat → Prop} {x : S85} {cs : List Value} (h : k85.M w base ok x cs) : ∃ v3 v5, cs = [.string x.f0, .int .i64 x.f1.f0, .string x.f1.f1, v3, .int .i64 x.f1.f3, v5, .int .i64 x.f2] ∧ k87.R 87 w base ok v3 x.f1.f2 ∧ (Kd.int .i64).R 3 w base ok v5 x.f1.f4 := by
  obtain ⟨_, _, rfl, rfl, ⟨_, _, rfl, s1, rfl⟩⟩ := h
  obtain ⟨v3, v5, rfl, g3, g5⟩ := k25_openM s1
  exact ⟨v3, v5, rfl, g3, g5⟩
theorem k85_mk (w : World) (x : S85) {A3 : Option Addr} {c3 : Nat} (l3 : x.f1.f2.length ≤ c3) (g3 : k87.C w A3 x.f1.f2.length x.f1.f2) {A5 : Option Addr} {c5 : Nat} (l5 : x.f1.f4.length ≤ c5) (g5 : (Kd.int .i64).C w A5 x.f1.f4.length x.f1.f4) : k85.K w x [.string x.f0, .int .i64 x.f1.f0, .string x.f1.f1, .slice A3 x.f1.f2.length c3, .int .i64 x.f1.f3, .slice A5 x.f1.f4.length c5, .int .i64 x.f2] := ⟨[.string x.f0], [.int .i64 x.f1.f0, .string x.f1.f1, .slice A3 x.f1.f2.length c3, .int .i64 x.f1.f3, .slice A5 x.f1.f4.length c5, .int .i64 x.f2], rfl, rfl, ⟨[.int .i64 x.f1.f0, .string x.f1.f1, .slice A3 x.f1.f2.length c3, .int .i64 x.f1.f3, .slice A5 x.f1.f4.length c5], [.int .i64 x.f2], rfl, (k25_mk w x.f1 l3 g3 l5 g5), rfl⟩⟩
theorem k85_mkM (w : World) (base : Nat) (ok : Nat → Prop) (x : S85) {v3 : Value} (g3 : k87.R 87 w base ok v3 x.f1.f2) {v5 : Value} (g5 : (Kd.int .i64).R 3 w base ok v5 x.f1.f4) : k85.M w base ok x [.string x.f0, .int .i64 x.f1.f0, .string x.f1.f1, v3, .int .i64 x.f1.f3, v5, .int .i64 x.f2] := ⟨[.string x.f0], [.int .i64 x.f1.f0, .string x.f1.f1, v3, .int .i64 x.f1.f3, v5, .int .i64 x.f2], rfl, rfl, ⟨[.int .i64 x.f1.f0, .string x.f1.f1, v3, .int .i64 x.f1.f3, v5], [.int .i64 x.f2], rfl, (k25_mkM w base ok x.f1 g3 g5), rfl⟩⟩
theorem k85_openF {W : World} {ok : Nat → Prop} {x : S85} {cs : List Value} (h : Kd.FK k85 W ok x cs) : ∃ A3 c3 A5 c5, cs = [.string x.f0, .int .i64 x.f1.f0, .string x.f1.f1, .slice A3 x.f1.f2.length c3, .int .i64 x.f1.f3, .slice A5 x.f1.f4.length c5, .int .i64 x.f2] ∧ x.f1.f2.length ≤ c3 ∧ Kd.F k87 W ok A3 x.f1.f2.length x.f1.f2 ∧ x.f1.f4.length ≤ c5 ∧ Kd.F (Kd.int .i64) W ok A5 x.f1.f4.length x.f1.f4 := by
  obtain ⟨A3, c3, A5, c5, rfl, l3, _, l5, _⟩ := k85_open (Kd.FK_now h)
  exact ⟨A3, c3, A5, c5, rfl, l3, (fun W' hW => by obtain ⟨A3_, c3_, A5_, c5_, he, l3_, g3_, l5_, g5_⟩ := k85_open (h W' hW); injection (Option.some.inj (show some (Value.slice A3 x.f1.f2.length c3) = some (Value.slice A3_ x.f1.f2.length c3_) from congrArg (fun l => l[3]?) he)) with ha_ _ _; rw [ha_]; exact g3_), l5, (fun W' hW => by obtain ⟨A3_, c3_, A5_, c5_, he, l3_, g3_, l5_, g5_⟩ := k85_open (h W' hW); injection (Option.some.inj (show some (Value.slice A5 x.f1.f4.length c5) = some (Value.slice A5_ x.f1.f4.length c5_) from congrArg (fun l => l[5]?) he)) with ha_ _ _; rw [ha_]; exact g5_)⟩
theorem k85_mkF (W : World) (ok : Nat → Prop) (x : S85) {A3 : Option Addr} {c3 : Nat} (l3 : x.f1.f2.length ≤ c3) (g3 : Kd.F k87 W ok A3 x.f1.f2.length x.f1.f2) {A5 : Option Addr} {c5 : Nat} (l5 : x.f1.f4.length ≤ c5) (g5 : Kd.F (Kd.int .i64) W ok A5 x.f1.f4.length x.f1.f4) : Kd.FK k85 W ok x [.string x.f0, .int .i64 x.f1.f0, .string x.f1.f1, .slice A3 x.f1.f2.length c3, .int .i64 x.f1.f3, .slice A5 x.f1.f4.length c5, .int .i64 x.f2] := fun W2 hW => k85_mk W2 x l3 (g3 W2 hW) l5 (g5 W2 hW)
def rd_T85 (xs : List S85) (i : Int) : S85 := xs.getD i.toNat z85
theorem at_T85 {w : World} {A : Option Addr} {n : Nat} {xs : List S85} (h : Kd.C k85 w A n xs) (i : Int) (h0 : 0 ≤ i) (h1 : i < n) : ∃ ad A3 c3 A5 c5, A = some ad ∧ w.cell? (ad.add (i.toNat * 7)) = some (.string (rd_T85 xs i).f0) ∧ w.cell? ⟨(ad.add (i.toNat * 7)).block, (ad.add (i.toNat * 7)).off + 1, none⟩ = some (.int .i64 (rd_T85 xs i).f1.f0) ∧ w.cell? ⟨(ad.add (i.toNat * 7)).block, (ad.add (i.toNat * 7)).off + 2, none⟩ = some (.string (rd_T85 xs i).f1.f1) ∧ w.cell? ⟨(ad.add (i.toNat * 7)).block, (ad.add (i.toNat * 7)).off + 3, none⟩ = some (.slice A3 (rd_T85 xs i).f1.f2.length c3) ∧ w.cell? ⟨(ad.add (i.toNat * 7)).block, (ad.add (i.toNat * 7)).off + 4, none⟩ = some (.int .i64 (rd_T85 xs i).f1.f3) ∧ w.cell? ⟨(ad.add (i.toNat * 7)).block, (ad.add (i.toNat * 7)).off + 5, none⟩ = some (.slice A5 (rd_T85 xs i).f1.f4.length c5) ∧ w.cell? ⟨(ad.add (i.toNat * 7)).block, (ad.add (i.toNat * 7)).off + 6, none⟩ = some (.int .i64 (rd_T85 xs i).f2) ∧ (rd_T85 xs i).f1.f2.length ≤ c3 ∧ k87.C w A3 (rd_T85 xs i).f1.f2.length (rd_T85 xs i).f1.f2 ∧ (rd_T85 xs i).f1.f4.length ≤ c5 ∧ (Kd.int .i64).C w A5 (rd_T85 xs i).f1.f4.length (rd_T85 xs i).f1.f4 := by
  obtain ⟨ad, c, e, _, hK, hc0⟩ := Kd.C_get h z85 i h0 h1
  have hc : ∀ j u, c[j]? = some u → w.cell? (ad.add (i.toNat * 7 + j)) = some u := hc0
  obtain ⟨A3, c3, A5, c5, rfl, l3, g3, l5, g5⟩ := k85_open hK
  exact ⟨ad, A3, c3, A5, c5, e, hc 0 _ rfl, by rw [← add_field _ _ 1 (by omega)]; exact hc 1 _ rfl, by rw [← add_field _ _ 2 (by omega)]; exact hc 2 _ rfl, by rw [← add_field _ _ 3 (by omega)]; exact hc 3 _ rfl, by rw [← add_field _ _ 4 (by omega)]; exact hc 4 _ rfl, by rw [← add_field _ _ 5 (by omega)]; exact hc 5 _ rfl, by rw [← add_field _ _ 6 (by omega)]; exact hc 6 _ rfl, l3, g3, l5, g5⟩

def rd_L17 (xs : List (List S85)) (i : Int) : (List S85) := xs.getD i.toNat ([] : List S85)
theorem at_L17 {w : World} {A : Option Addr} {n : Nat} {xs : List (List S85)} (h : Kd.C (Kd.slice 85 k85) w A n xs) (i : Int) (h0 : 0 ≤ i) (h1 : i < n) : ∃ ad A0 c0, A = some ad ∧ w.cell? (ad.add i.toNat) = some (.slice A0 (rd_L17 xs i).length c0) ∧ (rd_L17 xs i).length ≤ c0 ∧ k85.C w A0 (rd_L17 xs i).length (rd_L17 xs i) := by
  obtain ⟨ad, c, e, _, hK, hc0⟩ := Kd.C_get h ([] : List S85) i h0 h1
  have hc : ∀ j u, c[j]? = some u → w.cell? (ad.add (i.toNat * 1 + j)) = some u := hc0
  obtain ⟨A0, c0, rfl, l0, g0⟩ := hK
  exact ⟨ad, A0, c0, e, by have hq := hc 0 _ rfl; rwa [Nat.mul_one, Nat.add_zero] at hq, l0, g0⟩

/-! #### struct type 36 -/
structure S36 where
  f0 : (List UInt8)
  f1 : (List UInt8)
def z36 : S36 := ⟨([] : List UInt8), ([] : List UInt8)⟩
def k36 : Kd S36 := Kd.iso (Kd.pair (Kd.slice 5 kU8) (Kd.slice 5 kU8)) (fun x : S36 => (x.f0, x.f1))
theorem k36_heap : Kd.Heap k36 := Kd.heap_iso _ (Kd.heap_pair (Kd.heap_slice 5 kU8_heap) (Kd.heap_slice 5 kU8_heap))
theorem k36_open {w : World} {x : S36} {cs : List Value} (h : k36.K w x cs) : ∃ A0 c0 A1 c1, cs = [.slice A0 x.f0.length c0, .slice A1 x.f1.length c1] ∧ x.f0.length ≤ c0 ∧ kU8.C w A0 x.f0.length x.f0 ∧ x.f1.length ≤ c1 ∧ kU8.C w A1 x.f1.length x.f1 := by
  obtain ⟨_, _, rfl, ⟨A0, c0, rfl, l0, g0⟩, ⟨A1, c1, rfl, l1, g1⟩⟩ := h
  exact ⟨A0, c0, A1, c1, rfl, l0, g0, l1, g1⟩
theorem k36_openM {w : World} {base : Nat} {ok : Nat → Prop} {x : S36} {cs : List Value} (h : k36.M w base ok x cs) : ∃ v0 v1, cs = [v0, v1] ∧ kU8.R 5 w base ok v0 x.f0 ∧ kU8.R 5 w base ok v1 x.f1 := by
  obtain ⟨_, _, rfl, ⟨v0, rfl, g0⟩, ⟨v1, rfl, g1⟩⟩ := h
  exact ⟨v0, v1, rfl, g0, g1⟩
theorem k36_mk (w : World) (x : S36) {A0 : Option Addr} {c0 : Nat} (l0 : x.f0.length ≤ c0) (g0 : kU8.C w A0 x.f0.length x.f0) {A1 : Option Addr} {c1 : Nat} (l1 : x.f1.length ≤ c1) (g1 : kU8.C w A1 x.f1.length x.f1) : k36.K w x [.slice A0 x.f0.length c0, .slice A1 x.f1.length c1] := ⟨[.slice A0 x.f0.length c0], [.slice A1 x.f1.length c1], rfl, ⟨A0, c0, rfl, l0, g0⟩, ⟨A1, c1, rfl, l1, g1⟩⟩
theorem k36_mkM (w : World) (base : Nat) (ok : Nat → Prop) (x : S36) {v0 : Value} (g0 : kU8.R 5 w base ok v0 x.f0) {v1 : Value} (g1 : kU8.R 5 w base ok v1 x.f1) : k36.M w base ok x [v0, v1] := ⟨[v0], [v1], rfl, ⟨v0, rfl, g0⟩, ⟨v1, rfl, g1⟩⟩
theorem k36_openF {W : World} {ok : Nat → Prop} {x : S36} {cs : List Value} (h : Kd.FK k36 W ok x cs) : ∃ A0 c0 A1 c1, cs = [.slice A0 x.f0.length c0, .slice A1 x.f1.length c1] ∧ x.f0.length ≤ c0 ∧ Kd.F kU8 W ok A0 x.f0.length x.f0 ∧ x.f1.length ≤ c1 ∧ Kd.F kU8 W ok A1 x.f1.length x.f1 := by
  obtain ⟨A0, c0, A1, c1, rfl, l0, _, l1, _⟩ := k36_open (Kd.FK_now h)
  exact ⟨A0, c0, A1, c1, rfl, l0, (fun W' hW => by obtain ⟨A0_, c0_, A1_, c1_, he, l0_, g0_, l1_, g1_⟩ := k36_open (h W' hW); injection (Option.some.inj (show some (Value.slice A0 x.f0.length c0) = some (Value.slice A0_ x.f0.length c0_) from congrArg (fun l => l[0]?) he)) with ha_ _ _; rw [ha_]; exact g0_), l1, (fun W' hW => by obtain ⟨A0_, c0_, A1_, c1_, he, l0_, g0_, l1_, g1_⟩ := k36_open (h W' hW); injection (Option.some.inj (show some (Value.slice A1 x.f1.length c1) = some (Value.slice A1_ x.f1.length c1_) from congrArg (fun l => l[1]?) he)) with ha_ _ _; rw [ha_]; exact g1_)⟩
theorem k36_mkF (W : World) (ok : Nat → Prop) (x : S36) {A0 : Option Addr} {c0 : Nat} (l0 : x.f0.length ≤ c0) (g0 : Kd.F kU8 W ok A0 x.f0.length x.f0) {A1 : Option Addr} {c1 : Nat} (l1 : x.f1.length ≤ c1) (g1 : Kd.F kU8 W ok A1 x.f1.length x.f1) : Kd.FK k36 W ok x [.slice A0 x.f0.length c0, .slice A1 x.f1.length c1] := fun W2 hW => k36_mk W2 x l0 (g0 W2 hW) l1 (g1 W2 hW)
def rd_T36 (xs : List S36) (i : Int) : S36 := xs.getD i.toNat z36
theorem at_T36 {w : World} {A : Option Addr} {n : Nat} {xs : List S36} (h : Kd.C k36 w A n xs) (i : Int) (h0 : 0 ≤ i) (h1 : i < n) : ∃ ad A0 c0 A1 c1, A = some ad ∧ w.cell? (ad.add (i.toNat * 2)) = some (.slice A0 (rd_T36 xs i).f0.length c0) ∧ w.cell? ⟨(ad.add (i.toNat * 2)).block, (ad.add (i.toNat * 2)).off + 1, none⟩ = some (.slice A1 (rd_T36 xs i).f1.length c1) ∧ (rd_T36 xs i).f0.length ≤ c0 ∧ kU8.C w A0 (rd_T36 xs i).f0.length (rd_T36 xs i).f0 ∧ (rd_T36 xs i).f1.length ≤ c1 ∧ kU8.C w A1 (rd_T36 xs i).f1.length (rd_T36 xs i).f1 := by
  obtain ⟨ad, c, e, _, hK, hc0⟩ := Kd.C_get h z36 i h0 h1
  have hc : ∀ j u, c[j]? = some u → w.cell? (ad.add (i.toNat * 2 + j)) = some u := hc0
  obtain ⟨A0, c0, A1, c1, rfl, l0, g0, l1, g1⟩ := k36_open hK
  exact ⟨ad, A0, c0, A1, c1, e, hc 0 _ rfl, by rw [← add_field _ _ 1 (by omega)]; exact hc 1 _ rfl, l0, g0, l1, g1⟩

/-! #### struct type 38 -/
structure S38 where
  f0 : Int
  f1 : S36
def z38 : S38 := ⟨(0 : Int), z36⟩
def k38 : Kd S38 := Kd.iso (Kd.pair (Kd.int .i64) k36) (fun x : S38 => (x.f0, x.f1))
theorem k38_heap : Kd.Heap k38 := Kd.heap_iso _ (Kd.heap_pair (Kd.heap_int .i64) k36_heap)
theorem k38_open {w : World} {x : S38} {cs : List Value} (h : k38.K w x cs) : ∃ A1 c1 A2 c2, cs = [.int .i64 x.f0, .slice A1 x.f1.f0.length c1, .slice A2 x.f1.f1.length c2] ∧ x.f1.f0.length ≤ c1 ∧ kU8.C w A1 x.f1.f0.length x.f1.f0 ∧ x.f1.f1.length ≤ c2 ∧ kU8.C w A2 x.f1.f1.length x.f1.f1 := by
  obtain ⟨_, _, rfl, rfl, s1⟩ := h
  obtain ⟨A1, c1, A2, c2, rfl, l1, g1, l2, g2⟩ := k36_open s1
  exact ⟨A1, c1, A2, c2, rfl, l1, g1, l2, g2⟩
theorem k38_openM {w : World} {base : Nat} {ok : Nat → Prop} {x : S38} {cs : List Value} (h : k38.M w base ok x cs) : ∃ v1 v2, cs = [.int .i64 x.f0, v1, v2] ∧ kU8.R 5 w base ok v1 x.f1.f0 ∧ kU8.R 5 w base ok v2 x.f1.f1 := by
  obtain ⟨_, _, rfl, rfl, s1⟩ := h
  obtain ⟨v1, v2, rfl, g1, g2⟩ := k36_openM s1
  exact ⟨v1, v2, rfl, g1, g2⟩
theorem k38_mk (w : World) (x : S38) {A1 : Option Addr} {c1 : Nat} (l1 : x.f1.f0.length ≤ c1) (g1 : kU8.C w A1 x.f1.f0.length x.f1.f0) {A2 : Option Addr} {c2 : Nat} (l2 : x.f1.f1.length ≤ c2) (g2 : kU8.C w A2 x.f1.f1.length x.f1.f1) : k38.K w x [.int .i64 x.f0, .slice A1 x.f1.f0.length c1, .slice A2 x.f1.f1.length c2] := ⟨[.int .i64 x.f0], [.slice A1 x.f1.f0.length c1, .slice A2 x.f1.f1.length c2], rfl, rfl, (k36_mk w x.f1 l1 g1 l2 g2)⟩
theorem k38_mkM (w : World) (base : Nat) (ok : Nat → Prop) (x : S38) {v1 : Value} (g1 : kU8.R 5 w base ok v1 x.f1.f0) {v2 : Value} (g2 : kU8.R 5 w base ok v2 x.f1.f1) : k38.M w base ok x [.int .i64 x.f0, v1, v2] := ⟨[.int .i64 x.f0], [v1, v2], rfl, rfl, (k36_mkM w base ok x.f1 g1 g2)⟩
theorem k38_openF {W : World} {ok : Nat → Prop} {x : S38} {cs : List Value} (h : Kd.FK k38 W ok x cs) : ∃ A1 c1 A2 c2, cs = [.int .i64 x.f0, .slice A1 x.f1.f0.length c1, .slice A2 x.f1.f1.length c2] ∧ x.f1.f0.length ≤ c1 ∧ Kd.F kU8 W ok A1 x.f1.f0.length x.f1.f0 ∧ x.f1.f1.length ≤ c2 ∧ Kd.F kU8 W ok A2 x.f1.f1.length x.f1.f1 := by
  obtain ⟨A1, c1, A2, c2, rfl, l1, _, l2, _⟩ := k38_open (Kd.FK_now h)
  exact ⟨A1, c1, A2, c2, rfl, l1, (fun W' hW => by obtain ⟨A1_, c1_, A2_, c2_, he, l1_, g1_, l2_, g2_⟩ := k38_open (h W' hW); injection (Option.some.inj (show some (Value.slice A1 x.f1.f0.length c1) = some (Value.slice A1_ x.f1.f0.length c1_) from congrArg (fun l => l[1]?) he)) with ha_ _ _; rw [ha_]; exact g1_), l2, (fun W' hW => by obtain ⟨A1_, c1_, A2_, c2_, he, l1_, g1_, l2_, g2_⟩ := k38_open (h W' hW); injection (Option.some.inj (show some (Value.slice A2 x.f1.f1.length c2) = some (Value.slice A2_ x.f1.f1.length c2_) from congrArg (fun l => l[2]?) he)) with ha_ _ _; rw [ha_]; exact g2_)⟩
theorem k38_mkF (W : World) (ok : Nat → Prop) (x : S38) {A1 : Option Addr} {c1 : Nat} (l1 : x.f1.f0.length ≤ c1) (g1 : Kd.F kU8 W ok A1 x.f1.f0.length x.f1.f0) {A2 : Option Addr} {c2 : Nat} (l2 : x.f1.f1.length ≤ c2) (g2 : Kd.F kU8 W ok A2 x.f1.f1.length x.f1.f1) : Kd.FK k38 W ok x [.int .i64 x.f0, .slice A1 x.f1.f0.length c1, .slice A2 x.f1.f1.length c2] := fun W2 hW => k38_mk W2 x l1 (g1 W2 hW) l2 (g2 W2 hW)
def rd_T38 (xs : List S38) (i : Int) : S38 := xs.getD i.toNat z38
theorem at_T38 {w : World} {A : Option Addr} {n : Nat} {xs : List S38} (h : Kd.C k38 w A n xs) (i : Int) (h0 : 0 ≤ i) (h1 : i < n) : ∃ ad A1 c1 A2 c2, A = some ad ∧ w.cell? (ad.add (i.toNat * 3)) = some (.int .i64 (rd_T38 xs i).f0) ∧ w.cell? ⟨(ad.add (i.toNat * 3)).block, (ad.add (i.toNat * 3)).off + 1, none⟩ = some (.slice A1 (rd_T38 xs i).f1.f0.length c1) ∧ w.cell? ⟨(ad.add (i.toNat * 3)).block, (ad.add (i.toNat * 3)).off + 2, none⟩ = some (.slice A2 (rd_T38 xs i).f1.f1.length c2) ∧ (rd_T38 xs i).f1.f0.length ≤ c1 ∧ kU8.C w A1 (rd_T38 xs i).f1.f0.length (rd_T38 xs i).f1.f0 ∧ (rd_T38 xs i).f1.f1.length ≤ c2 ∧ kU8.C w A2 (rd_T38 xs i).f1.f1.length (rd_T38 xs i).f1.f1 := by
  obtain ⟨ad, c, e, _, hK, hc0⟩ := Kd.C_get h z38 i h0 h1
  have hc : ∀ j u, c[j]? = some u → w.cell? (ad.add (i.toNat * 3 + j)) = some u := hc0
  obtain ⟨A1, c1, A2, c2, rfl, l1, g1, l2, g2⟩ := k38_open hK
  exact ⟨ad, A1, c1, A2, c2, e, hc 0 _ rfl, by rw [← add_field _ _ 1 (by omega)]; exact hc 1 _ rfl, by rw [← add_field _ _ 2 (by omega)]; exact hc 2 _ rfl, l1, g1, l2, g2⟩

/-! #### struct type 49 -/
structure S49 where
  f0 : Int
  f1 : Int
  f2 : Int
  f3 : (List UInt8)
  f4 : (List UInt8)
def z49 : S49 := ⟨(0 : Int), (0 : Int), (0 : Int), ([] : List UInt8), ([] : List UInt8)⟩
def k49 : Kd S49 := Kd.iso (Kd.pair (Kd.int .u64) (Kd.pair (Kd.int .i64) (Kd.pair (Kd.int .i64) (Kd.pair (Kd.slice 5 kU8) (Kd.slice 5 kU8))))) (fun x : S49 => (x.f0, x.f1, x.f2, x.f3, x.f4))
theorem k49_heap : Kd.Heap k49 := Kd.heap_iso _ (Kd.heap_pair (Kd.heap_int .u64) (Kd.heap_pair (Kd.heap_int .i64) (Kd.heap_pair (Kd.heap_int .i64) (Kd.heap_pair (Kd.heap_slice 5 kU8_heap) (Kd.heap_slice 5 kU8_heap)))))
theorem k49_open {w : World} {x : S49} {cs : List Value} (h : k49.K w x cs) : ∃ A3 c3 A4 c4, cs = [.int .u64 x.f0, .int .i64 x.f1, .int .i64 x.f2, .slice A3 x.f3.length c3, .slice A4 x.f4.length c4] ∧ x.f3.length ≤ c3 ∧ kU8.C w A3 x.f3.length x.f3 ∧ x.f4.length ≤ c4 ∧ kU8.C w A4 x.f4.length x.f4 := by
  obtain ⟨_, _, rfl, rfl, ⟨_, _, rfl, rfl, ⟨_, _, rfl, rfl, ⟨_, _, rfl, ⟨A3, c3, rfl, l3, g3⟩, ⟨A4, c4, rfl, l4, g4⟩⟩⟩⟩⟩ := h
  exact ⟨A3, c3, A4, c4, rfl, l3, g3, l4, g4⟩
theorem k49_openM {w : World} {base : Nat} {ok : Nat → Prop} {x : S49} {cs : List Value} (h : k49.M w base ok x cs) : ∃ v3 v4, cs = [.int .u64 x.f0, .int .i64 x.f1, .int .i64 x.f2, v3, v4] ∧ kU8.R 5 w base ok v3 x.f3 ∧ kU8.R 5 w base ok v4 x.f4 := by
  obtain ⟨_, _, rfl, rfl, ⟨_, _, rfl, rfl, ⟨_, _, rfl, rfl, ⟨_, _, rfl, ⟨v3, rfl, g3⟩, ⟨v4, rfl, g4⟩⟩⟩⟩⟩ := h
  exact ⟨v3, v4, rfl, g3, g4⟩
theorem k49_mk (w : World) (x : S49) {A3 : Option Addr} {c3 : Nat} (l3 : x.f3.length ≤ c3) (g3 : kU8.C w A3 x.f3.length x.f3) {A4 : Option Addr} {c4 : Nat} (l4 : x.f4.length ≤ c4) (g4 : kU8.C w A4 x.f4.length x.f4) : k49.K w x [.int .u64 x.f0, .int .i64 x.f1, .int .i64 x.f2, .slice A3 x.f3.length c3, .slice A4 x.f4.length c4] := ⟨[.int .u64 x.f0], [.int .i64 x.f1, .int .i64 x.f2, .slice A3 x.f3.length c3, .slice A4 x.f4.length c4], rfl, rfl, ⟨[.int .i64 x.f1], [.int .i64 x.f2, .slice A3 x.f3.length c3, .slice A4 x.f4.length c4], rfl, rfl, ⟨[.int .i64 x.f2], [.slice A3 x.f3.length c3, .slice A4 x.f4.length c4], rfl, rfl, ⟨[.slice A3 x.f3.length c3], [.slice A4 x.f4.length c4], rfl, ⟨A3, c3, rfl, l3, g3⟩, ⟨A4, c4, rfl, l4, g4⟩⟩⟩⟩⟩
theorem k49_mkM (w : World) (base : Nat) (ok : Nat → Prop) (x : S49) {v3 : Value} (g3 : kU8.R 5 w base ok v3 x.f3) {v4 : Value} (g4 : kU8.R 5 w base ok v4 x.f4) : k49.M w base ok x [.int .u64 x.f0, .int .i64 x.f1, .int .i64 x.f2, v3, v4] := ⟨[.int .u64 x.f0], [.int .i64 x.f1, .int .i64 x.f2, v3, v4], rfl, rfl, ⟨[.int .i64 x.f1], [.int .i64 x.f2, v3, v4], rfl, rfl, ⟨[.int .i64 x.f2], [v3, v4], rfl, rfl, ⟨[v3], [v4], rfl, ⟨v3, rfl, g3⟩, ⟨v4, rfl, g4⟩⟩⟩⟩⟩
theorem k49_openF {W : World} {ok : Nat → Prop} {x : S49} {cs : List Value} (h : Kd.FK k49 W ok x cs) : ∃ A3 c3 A4 c4, cs = [.int .u64 x.f0, .int .i64 x.f1, .int .i64 x.f2, .slice A3 x.f3.length c3, .slice A4 x.f4.length c4] ∧ x.f3.length ≤ c3 ∧ Kd.F kU8 W ok A3 x.f3.length x.f3 ∧ x.f4.length ≤ c4 ∧ Kd.F kU8 W ok A4 x.f4.length x.f4 := by
  obtain ⟨A3, c3, A4, c4, rfl, l3, _, l4, _⟩ := k49_open (Kd.FK_now h)
  exact ⟨A3, c3, A4, c4, rfl, l3, (fun W' hW => by obtain ⟨A3_, c3_, A4_, c4_, he, l3_, g3_, l4_, g4_⟩ := k49_open (h W' hW); injection (Option.some.inj (show some (Value.slice A3 x.f3.length c3) = some (Value.slice A3_ x.f3.length c3_) from congrArg (fun l => l[3]?) he)) with ha_ _ _; rw [ha_]; exact g3_), l4, (fun W' hW => by obtain ⟨A3_, c3_, A4_, c4_, he, l3_, g3_, l4_, g4_⟩ := k49_open (h W' hW); injection (Option.some.inj (show some (Value.slice A4 x.f4.length c4) = some (Value.slice A4_ x.f4.length c4_) from congrArg (fun l => l[4]?) he)) with ha_ _ _; rw [ha_]; exact g4_)⟩
theorem k49_mkF (W : World) (ok : Nat → Prop) (x : S49) {A3 : Option Addr} {c3 : Nat} (l3 : x.f3.length ≤ c3) (g3 : Kd.F kU8 W ok A3 x.f3.length x.f3) {A4 : Option Addr} {c4 : Nat} (l4 : x.f4.length ≤ c4) (g4 : Kd.F kU8 W ok A4 x.f4.length x.f4) : Kd.FK k49 W ok x [.int .u64 x.f0, .int .i64 x.f1, .int .i64 x.f2, .slice A3 x.f3.length c3, .slice A4 x.f4.length c4] := fun W2 hW => k49_mk W2 x l3 (g3 W2 hW) l4 (g4 W2 hW)
def rd_T49 (xs : List S49) (i : Int) : S49 := xs.getD i.toNat z49
theorem at_T49 {w : World} {A : Option Addr} {n : Nat} {xs : List S49} (h : Kd.C k49 w A n xs) (i : Int) (h0 : 0 ≤ i) (h1 : i < n) : ∃ ad A3 c3 A4 c4, A = some ad ∧ w.cell? (ad.add (i.toNat * 5)) = some (.int .u64 (rd_T49 xs i).f0) ∧ w.cell? ⟨(ad.add (i.toNat * 5)).block, (ad.add (i.toNat * 5)).off + 1, none⟩ = some (.int .i64 (rd_T49 xs i).f1) ∧ w.cell? ⟨(ad.add (i.toNat * 5)).block, (ad.add (i.toNat * 5)).off + 2, none⟩ = some (.int .i64 (rd_T49 xs i).f2) ∧ w.cell? ⟨(ad.add (i.toNat * 5)).block, (ad.add (i.toNat * 5)).off + 3, none⟩ = some (.slice A3 (rd_T49 xs i).f3.length c3) ∧ w.cell? ⟨(ad.add (i.toNat * 5)).block, (ad.add (i.toNat * 5)).off + 4, none⟩ = some (.slice A4 (rd_T49 xs i).f4.length c4) ∧ (rd_T49 xs i).f3.length ≤ c3 ∧ kU8.C w A3 (rd_T49 xs i).f3.length (rd_T49 xs i).f3 ∧ (rd_T49 xs i).f4.length ≤ c4 ∧ kU8.C w A4 (rd_T49 xs i).f4.length (rd_T49 xs i).f4 := by
  obtain ⟨ad, c, e, _, hK, hc0⟩ := Kd.C_get h z49 i h0 h1
  have hc : ∀ j u, c[j]? = some u → w.cell? (ad.add (i.toNat * 5 + j)) = some u := hc0
  obtain ⟨A3, c3, A4, c4, rfl, l3, g3, l4, g4⟩ := k49_open hK
  exact ⟨ad, A3, c3, A4, c4, e, hc 0 _ rfl, by rw [← add_field _ _ 1 (by omega)]; exact hc 1 _ rfl, by rw [← add_field _ _ 2 (by omega)]; exact hc 2 _ rfl, by rw [← add_field _ _ 3 (by omega)]; exact hc 3 _ rfl, by rw [← add_field _ _ 4 (by omega)]; exact hc 4 _ rfl, l3, g3, l4, g4⟩

def rd_L21 (xs : List (List S49)) (i : Int) : (List S49) := xs.getD i.toNat ([] : List S49)
theorem at_L21 {w : World} {A : Option Addr} {n : Nat} {xs : List (List S49)} (h : Kd.C (Kd.slice 49 k49) w A n xs) (i : Int) (h0 : 0 ≤ i) (h1 : i < n) : ∃ ad A0 c0, A = some ad ∧ w.cell? (ad.add i.toNat) = some (.slice A0 (rd_L21 xs i).length c0) ∧ (rd_L21 xs i).length ≤ c0 ∧ k49.C w A0 (rd_L21 xs i).length (rd_L21 xs i) := by
  obtain ⟨ad, c, e, _, hK, hc0⟩ := Kd.C_get h ([] : List S49) i h0 h1
  have hc : ∀ j u, c[j]? = some u → w.cell? (ad.add (i.toNat * 1 + j)) = some u := hc0
  obtain ⟨A0, c0, rfl, l0, g0⟩ := hK
  exact ⟨ad, A0, c0, e, by have hq := hc 0 _ rfl; rwa [Nat.mul_one, Nat.add_zero] at hq, l0, g0⟩

/-! #### struct type 58 -/
structure S58 where
  f0 : Bool
  f1 : S49
def z58 : S58 := ⟨false, z49⟩
def k58 : Kd S58 := Kd.iso (Kd.pair Kd.bool k49) (fun x : S58 => (x.f0, x.f1))
theorem k58_heap : Kd.Heap k58 := Kd.heap_iso _ (Kd.heap_pair Kd.heap_bool k49_heap)
theorem k58_open {w : World} {x : S58} {cs : List Value} (h : k58.K w x cs) : ∃ A4 c4 A5 c5, cs = [.bool x.f0, .int .u64 x.f1.f0, .int .i64 x.f1.f1, .int .i64 x.f1.f2, .slice A4 x.f1.f3.length c4, .slice A5 x.f1.f4.length c5] ∧ x.f1.f3.length ≤ c4 ∧ kU8.C w A4 x.f1.f3.length x.f1.f3 ∧ x.f1.f4.length ≤ c5 ∧ kU8.C w A5 x.f1.f4.length x.f1.f4 := by
  obtain ⟨_, _, rfl, rfl, s1⟩ := h
  obtain ⟨A4, c4, A5, c5, rfl, l4, g4, l5, g5⟩ := k49_open s1
  exact ⟨A4, c4, A5, c5, rfl, l4, g4, l5, g5⟩
theorem k58_openM {w : World} {base : Nat} {ok : Nat → Prop} {x : S58} {cs : List Value} (h : k58.M w base ok x cs) : ∃ v4 v5, cs = [.bool x.f0, .int .u64 x.f1.f0, .int .i64 x.f1.f1, .int .i64 x.f1.f2, v4, v5] ∧ kU8.R 5 w base ok v4 x.f1.f3 ∧ kU8.R 5 w base ok v5 x.f1.f4 := by
  obtain ⟨_, _, rfl, rfl, s1⟩ := h
  obtain ⟨v4, v5, rfl, g4, g5⟩ := k49_openM s1
  exact ⟨v4, v5, rfl, g4, g5⟩
theorem k58_mk (w : World) (x : S58) {A4 : Option Addr} {c4 : Nat} (l4 : x.f1.f3.length ≤ c4) (g4 : kU8.C w A4 x.f1.f3.length x.f1.f3) {A5 : Option Addr} {c5 : Nat} (l5 : x.f1.f4.length ≤ c5) (g5 : kU8.C w A5 x.f1.f4.length x.f1.f4) : k58.K w x [.bool x.f0, .int .u64 x.f1.f0, .int .i64 x.f1.f1, .int .i64 x.f1.f2, .slice A4 x.f1.f3.length c4, .slice A5 x.f1.f4.length c5] := ⟨[.bool x.f0], [.int .u64 x.f1.f0, .int .i64 x.f1.f1, .int .i64 x.f1.f2, .slice A4 x.f1.f3.length c4, .slice A5 x.f1.f4.length c5], rfl, rfl, (k49_mk w x.f1 l4 g4 l5 g5)⟩
theorem k58_mkM (w : World) (base : Nat) (ok : Nat → Prop) (x : S58) {v4 : Value} (g4 : kU8.R 5 w base ok v4 x.f1.f3) {v5 : Value} (g5 : kU8.R 5 w base ok v5 x.f1.f4) : k58.M w base ok x [.bool x.f0, .int .u64 x.f1.f0, .int .i64 x.f1.f1, .int .i64 x.f1.f2, v4, v5] := ⟨[.bool x.f0], [.int .u64 x.f1.f0, .int .i64 x.f1.f1, .int .i64 x.f1.f2, v4, v5], rfl, rfl, (k49_mkM w base ok x.f1 g4 g5)⟩
theorem k58_openF {W : World} {ok : Nat → Prop} {x : S58} {cs : List Value} (h : Kd.FK k58 W ok x cs) : ∃ A4 c4 A5 c5, cs = [.bool x.f0, .int .u64 x.f1.f0, .int .i64 x.f1.f1, .int .i64 x.f1.f2, .slice A4 x.f1.f3.length c4, .slice A5 x.f1.f4.length c5] ∧ x.f1.f3.length ≤ c4 ∧ Kd.F kU8 W ok A4 x.f1.f3.length x.f1.f3 ∧ x.f1.f4.length ≤ c5 ∧ Kd.F kU8 W ok A5 x.f1.f4.length x.f1.f4 := by
  obtain ⟨A4, c4, A5, c5, rfl, l4, _, l5, _⟩ := k58_open (Kd.FK_now h)
  exact ⟨A4, c4, A5, c5, rfl, l4, (fun W' hW => by obtain ⟨A4_, c4_, A5_, c5_, he, l4_, g4_, l5_, g5_⟩ := k58_open (h W' hW); injection (Option.some.inj (show some (Value.slice A4 x.f1.f3.length c4) = some (Value.slice A4_ x.f1.f3.length c4_) from congrArg (fun l => l[4]?) he)) with ha_ _ _; rw [ha_]; exact g4_), l5, (fun W' hW => by obtain ⟨A4_, c4_, A5_, c5_, he, l4_, g4_, l5_, g5_⟩ := k58_open (h W' hW); injection (Option.some.inj (show some (Value.slice A5 x.f1.f4.length c5) = some (Value.slice A5_ x.f1.f4.length c5_) from congrArg (fun l => l[5]?) he)) with ha_ _ _; rw [ha_]; exact g5_)⟩
theorem k58_mkF (W : World) (ok : Nat → Prop) (x : S58) {A4 : Option Addr} {c4 : Nat} (l4 : x.f1.f3.length ≤ c4) (g4 : Kd.F kU8 W ok A4 x.f1.f3.length x.f1.f3) {A5 : Option Addr} {c5 : Nat} (l5 : x.f1.f4.length ≤ c5) (g5 : Kd.F kU8 W ok A5 x.f1.f4.length x.f1.f4) : Kd.FK k58 W ok x [.bool x.f0, .int .u64 x.f1.f0, .int .i64 x.f1.f1, .int .i64 x.f1.f2, .slice A4 x.f1.f3.length c4, .slice A5 x.f1.f4.length c5] := fun W2 hW => k58_mk W2 x l4 (g4 W2 hW) l5 (g5 W2 hW)
def rd_T58 (xs : List S58) (i : Int) : S58 := xs.getD i.toNat z58
theorem at_T58 {w : World} {A : Option Addr} {n : Nat} {xs : List S58} (h : Kd.C k58 w A n xs) (i : Int) (h0 : 0 ≤ i) (h1 : i < n) : ∃ ad A4 c4 A5 c5, A = some ad ∧ w.cell? (ad.add (i.toNat * 6)) = some (.bool (rd_T58 xs i).f0) ∧ w.cell? ⟨(ad.add (i.toNat * 6)).block, (ad.add (i.toNat * 6)).off + 1, none⟩ = some (.int .u64 (rd_T58 xs i).f1.f0) ∧ w.cell? ⟨(ad.add (i.toNat * 6)).block, (ad.add (i.toNat * 6)).off + 2, none⟩ = some (.int .i64 (rd_T58 xs i).f1.f1) ∧ w.cell? ⟨(ad.add (i.toNat * 6)).block, (ad.add (i.toNat * 6)).off + 3, none⟩ = some (.int .i64 (rd_T58 xs i).f1.f2) ∧ w.cell? ⟨(ad.add (i.toNat * 6)).block, (ad.add (i.toNat * 6)).off + 4, none⟩ = some (.slice A4 (rd_T58 xs i).f1.f3.length c4) ∧ w.cell? ⟨(ad.add (i.toNat * 6)).block, (ad.add (i.toNat * 6)).off + 5, none⟩ = some (.slice A5 (rd_T58 xs i).f1.f4.length c5) ∧ (rd_T58 xs i).f1.f3.length ≤ c4 ∧ kU8.C w A4 (rd_T58 xs i).f1.f3.length (rd_T58 xs i).f1.f3 ∧ (rd_T58 xs i).f1.f4.length ≤ c5 ∧ kU8.C w A5 (rd_T58 xs i).f1.f4.length (rd_T58 xs i).f1.f4 := by
  obtain ⟨ad, c, e, _, hK, hc0⟩ := Kd.C_get h z58 i h0 h1
  have hc : ∀ j u, c[j]? = some u → w.cell? (ad.add (i.toNat * 6 + j)) = some u := hc0
  obtain ⟨A4, c4, A5, c5, rfl, l4, g4, l5, g5⟩ := k58_open hK
  exact ⟨ad, A4, c4, A5, c5, e, hc 0 _ rfl, by rw [← add_field _ _ 1 (by omega)]; exact hc 1 _ rfl, by rw [← add_field _ _ 2 (by omega)]; exact hc 2 _ rfl, by rw [← add_field _ _ 3 (by omega)]; exact hc 3 _ rfl, by rw [← add_field _ _ 4 (by omega)]; exact hc 4 _ rfl, by rw [← add_field _ _ 5 (by omega)]; exact hc 5 _ rfl, l4, g4, l5, g5⟩

def rd_L23 (xs : List (List S58)) (i : Int) : (List S58) := xs.getD i.toNat ([] : List S58)
theorem at_L23 {w : World} {A : Option Addr} {n : Nat} {xs : List (List S58)} (h : Kd.C (Kd.slice 58 k58) w A n xs) (i : Int) (h0 : 0 ≤ i) (h1 : i < n) : ∃ ad A0 c0, A = some ad ∧ w.cell? (ad.add i.toNat) = some (.slice A0 (rd_L23 xs i).length c0) ∧ (rd_L23 xs i).length ≤ c0 ∧ k58.C w A0 (rd_L23 xs i).length (rd_L23 xs i) := by
  obtain ⟨ad, c, e, _, hK, hc0⟩ := Kd.C_get h ([] : List S58) i h0 h1
  have hc : ∀ j u, c[j]? = some u → w.cell? (ad.add (i.toNat * 1 + j)) = some u := hc0
  obtain ⟨A0, c0, rfl, l0, g0⟩ := hK
  exact ⟨ad, A0, c0, e, by have hq := hc 0 _ rfl; rwa [Nat.mul_one, Nat.add_zero] at hq, l0, g0⟩

/-! #### struct type 166 -/
structure S166 where
  f0 : Int
  f1 : Int
def z166 : S166 := ⟨(0 : Int), (0 : Int)⟩
def k166 : Kd S166 := Kd.iso (Kd.pair (Kd.int .u64) (Kd.int .u64)) (fun x : S166 => (x.f0, x.f1))
theorem k166_heap : Kd.Heap k166 := Kd.heap_iso _ (Kd.heap_pair (Kd.heap_int .u64) (Kd.heap_int .u64))
theorem k166_open {w : World} {x : S166} {cs : List Value} (h : k166.K w x cs) : cs = [.int .u64 x.f0, .int .u64 x.f1] := by
  obtain ⟨_, _, rfl, rfl, rfl⟩ := h
  exact rfl
theorem k166_openM {w : World} {base : Nat} {ok : Nat → Prop} {x : S166} {cs : List Value} (h : k166.M w base ok x cs) : cs = [.int .u64 x.f0, .int .u64 x.f1] := by
  obtain ⟨_, _, rfl, rfl, rfl⟩ := h
  exact rfl
theorem k166_mk (w : World) (x : S166)  : k166.K w x [.int .u64 x.f0, .int .u64 x.f1] := ⟨[.int .u64 x.f0], [.int .u64 x.f1], rfl, rfl, rfl⟩
theorem k166_mkM (w : World) (base : Nat) (ok : Nat → Prop) (x : S166)  : k166.M w base ok x [.int .u64 x.f0, .int .u64 x.f1] := ⟨[.int .u64 x.f0], [.int .u64 x.f1], rfl, rfl, rfl⟩
theorem k166_mkF (W : World) (ok : Nat → Prop) (x : S166) : Kd.FK k166 W ok x [.int .u64 x.f0, .int .u64 x.f1] := fun W2 _ => k166_mk W2 x
def rd_T166 (xs : List S166) (i : Int) : S166 := xs.getD i.toNat z166
theorem at_T166 {w : World} {A : Option Addr} {n : Nat} {xs : List S166} (h : Kd.C k166 w A n xs) (i : Int) (h0 : 0 ≤ i) (h1 : i < n) : ∃ ad , A = some ad ∧ w.cell? (ad.add (i.toNat * 2)) = some (.int .u64 (rd_T166 xs i).f0) ∧ w.cell? ⟨(ad.add (i.toNat * 2)).block, (ad.add (i.toNat * 2)).off + 1, none⟩ = some (.int .u64 (rd_T166 xs i).f1) := by
  obtain ⟨ad, c, e, _, hK, hc0⟩ := Kd.C_get h z166 i h0 h1
  have hc : ∀ j u, c[j]? = some u → w.cell? (ad.add (i.toNat * 2 + j)) = some u := hc0
  obtain rfl := k166_open hK
  exact ⟨ad, e, hc 0 _ rfl, by rw [← add_field _ _ 1 (by omega)]; exact hc 1 _ rfl⟩

def rd_L25 (xs : List (List S166)) (i : Int) : (List S166) := xs.getD i.toNat ([] : List S166)
theorem at_L25 {w : World} {A : Option Addr} {n : Nat} {xs : List (List S166)} (h : Kd.C (Kd.slice 166 k166) w A n xs) (i : Int) (h0 : 0 ≤ i) (h1 : i < n) : ∃ ad A0 c0, A = some ad ∧ w.cell? (ad.add i.toNat) = some (.slice A0 (rd_L25 xs i).length c0) ∧ (rd_L25 xs i).length ≤ c0 ∧ k166.C w A0 (rd_L25 xs i).length (rd_L25 xs i) := by
  obtain ⟨ad, c, e, _, hK, hc0⟩ := Kd.C_get h ([] : List S166) i h0 h1
  have hc : ∀ j u, c[j]? = some u → w.cell? (ad.add (i.toNat * 1 + j)) = some u := hc0
  obtain ⟨A0, c0, rfl, l0, g0⟩ := hK
  exact ⟨ad, A0, c0, e, by have hq := hc 0 _ rfl; rwa [Nat.mul_one, Nat.add_zero] at hq, l0, g0⟩

/-! #### struct type 108 -/
structure S108 where
  f0 : Int
  f1 : Int
  f2 : Int
def z108 : S108 := ⟨(0 : Int), (0 : Int), (0 : Int)⟩
def k108 : Kd S108 := Kd.iso (Kd.pair (Kd.int .u64) (Kd.pair (Kd.int .i64) (Kd.int .u64))) (fun x : S108 => (x.f0, x.f1, x.f2))
theorem k108_heap : Kd.Heap k108 := Kd.heap_iso _ (Kd.heap_pair (Kd.heap_int .u64) (Kd.heap_pair (Kd.heap_int .i64) (Kd.heap_int .u64)))
theorem k108_open {w : World} {x : S108} {cs : List Value} (h : k108.K w x cs) : cs = [.int .u64 x.f0, .int .i64 x.f1, .int .u64 x.f2] := by
  obtain ⟨_, _, rfl, rfl, ⟨_, _, rfl, rfl, rfl⟩⟩ := h
  exact rfl
theorem k108_openM {w : World} {base : Nat} {ok : Nat → Prop} {x : S108} {cs : List Value} (h : k108.M w base ok x cs) : cs = [.int .u64 x.f0, .int .i64 x.f1, .int .u64 x.f2] := by
  obtain ⟨_, _, rfl, rfl, ⟨_, _, rfl, rfl, rfl⟩⟩ := h
  exact rfl
theorem k108_mk (w : World) (x : S108)  : k108.K w x [.int .u64 x.f0, .int .i64 x.f1, .int .u64 x.f2] := ⟨[.int .u64 x.f0], [.int .i64 x.f1, .int .u64 x.f2], rfl, rfl, ⟨[.int .i64 x.f1], [.int .u64 x.f2], rfl, rfl, rfl⟩⟩
theorem k108_mkM (w : World) (base : Nat) (ok : Nat → Prop) (x : S108)  : k108.M w base ok x [.int .u64 x.f0, .int .i64 x.f1, .int .u64 x.f2] := ⟨[.int .u64 x.f0], [.int .i64 x.f1, .int .u64 x.f2], rfl, rfl, ⟨[.int .i64 x.f1], [.int .u64 x.f2], rfl, rfl, rfl⟩⟩
theorem k108_mkF (W : World) (ok : Nat → Prop) (x : S108) : Kd.FK k108 W ok x [.int .u64 x.f0, .int .i64 x.f1, .int .u64 x.f2] := fun W2 _ => k108_mk W2 x
def rd_T108 (xs : List S108) (i : Int) : S108 := xs.getD i.toNat z108
theorem at_T108 {w : World} {A : Option Addr} {n : Nat} {xs : List S108} (h : Kd.C k108 w A n xs) (i : Int) (h0 : 0 ≤ i) (h1 : i < n) : ∃ ad , A = some ad ∧ w.cell? (ad.add (i.toNat * 3)) = some (.int .u64 (rd_T108 xs i).f0) ∧ w.cell? ⟨(ad.add (i.toNat * 3)).block, (ad.add (i.toNat * 3)).off + 1, none⟩ = some (.int .i64 (rd_T108 xs i).f1) ∧ w.cell? ⟨(ad.add (i.toNat * 3)).block, (ad.add (i.toNat * 3)).off + 2, none⟩ = some (.int .u64 (rd_T108 xs i).f2) := by
  obtain ⟨ad, c, e, _, hK, hc0⟩ := Kd.C_get h z108 i h0 h1
  have hc : ∀ j u, c[j]? = some u → w.cell? (ad.add (i.toNat * 3 + j)) = some u := hc0
  obtain rfl := k108_open hK
  exact ⟨ad, e, hc 0 _ rfl, by rw [← add_field _ _ 1 (by omega)]; exact hc 1 _ rfl, by rw [← add_field _ _ 2 (by omega)]; exact hc 2 _ rfl⟩

def rd_L27 (xs : List (List S108)) (i : Int) : (List S108) := xs.getD i.toNat ([] : List S108)
theorem at_L27 {w : World} {A : Option Addr} {n : Nat} {xs : List (List S108)} (h : Kd.C (Kd.slice 108 k108) w A n xs) (i : Int) (h0 : 0 ≤ i) (h1 : i < n) : ∃ ad A0 c0, A = some ad ∧ w.cell? (ad.add i.toNat) = some (.slice A0 (rd_L27 xs i).length c0) ∧ (rd_L27 xs i).length ≤ c0 ∧ k108.C w A0 (rd_L27 xs i).length (rd_L27 xs i) := by
  obtain ⟨ad, c, e, _, hK, hc0⟩ := Kd.C_get h ([] : List S108) i h0 h1
  have hc : ∀ j u, c[j]? = some u → w.cell? (ad.add (i.toNat * 1 + j)) = some u := hc0
  obtain ⟨A0, c0, rfl, l0, g0⟩ := hK
  exact ⟨ad, A0, c0, e, by have hq := hc 0 _ rfl; rwa [Nat.mul_one, Nat.add_zero] at hq, l0, g0⟩

def rd_L28 (xs : List (List (List UInt8))) (i : Int) : (List (List UInt8)) := xs.getD i.toNat ([] : List (List UInt8))
theorem at_L28 {w : World} {A : Option Addr} {n : Nat} {xs : List (List (List UInt8))} (h : Kd.C (Kd.slice 34 (Kd.slice 5 kU8)) w A n xs) (i : Int) (h0 : 0 ≤ i) (h1 : i < n) : ∃ ad A0 c0, A = some ad ∧ w.cell? (ad.add i.toNat) = some (.slice A0 (rd_L28 xs i).length c0) ∧ (rd_L28 xs i).length ≤ c0 ∧ (Kd.slice 5 kU8).C w A0 (rd_L28 xs i).length (rd_L28 xs i) := by
  obtain ⟨ad, c, e, _, hK, hc0⟩ := Kd.C_get h ([] : List (List UInt8)) i h0 h1
  have hc : ∀ j u, c[j]? = some u → w.cell? (ad.add (i.toNat * 1 + j)) = some u := hc0
  obtain ⟨A0, c0, rfl, l0, g0⟩ := hK
  exact ⟨ad, A0, c0, e, by have hq := hc 0 _ rfl; rwa [Nat.mul_one, Nat.add_zero] at hq, l0, g0⟩

/-! #### struct type 194 -/
structure S194 where
  f0 : Int
  f1 : Int
  f2 : Bool
  f3 : (List UInt8)
  f4 : (List (List UInt8))
def z194 : S194 := ⟨(0 : Int), (0 : Int), false, ([] : List UInt8), ([] : List (List UInt8))⟩
def k194 : Kd S194 := Kd.iso (Kd.pair (Kd.int .u64) (Kd.pair (Kd.int .u64) (Kd.pair Kd.bool (Kd.pair (Kd.slice 5 kU8) (Kd.slice 34 (Kd.slice 5 kU8)))))) (fun x : S194 => (x.f0, x.f1, x.f2, x.f3, x.f4))
theorem k194_heap : Kd.Heap k194 := Kd.heap_iso _ (Kd.heap_pair (Kd.heap_int .u64) (Kd.heap_pair (Kd.heap_int .u64) (Kd.heap_pair Kd.heap_bool (Kd.heap_pair (Kd.heap_slice 5 kU8_heap) (Kd.heap_slice 34 (Kd.heap_slice 5 kU8_heap))))))
theorem k194_open {w : World} {x : S194} {cs : List Value} (h : k194.K w x cs) : ∃ A3 c3 A4 c4, cs = [.int .u64 x.f0, .int .u64 x.f1, .bool x.f2, .slice A3 x.f3.length c3, .slice A4 x.f4.length c4] ∧ x.f3.length ≤ c3 ∧ kU8.C w A3 x.f3.length x.f3 ∧ x.f4.length ≤ c4 ∧ (Kd.slice 5 kU8).C w A4 x.f4.length x.f4 := by
  obtain ⟨_, _, rfl, rfl, ⟨_, _, rfl, rfl, ⟨_, _, rfl, rfl, ⟨_, _, rfl, ⟨A3, c3, rfl, l3, g3⟩, ⟨A4, c4, rfl, l4, g4⟩⟩⟩⟩⟩ := h
  exact ⟨A3, c3, A4, c4, rfl, l3, g3, l4, g4⟩
theorem k194_openM {w : World} {base : Nat} {ok : Nat → Prop} {x : S194} {cs : List Value} (h : k194.M w base ok x cs) : ∃ v3 v4, cs = [.int .u64 x.f0, .int .u64 x.f1, .bool x.f2, v3, v4] ∧ kU8.R 5 w base ok v3 x.f3 ∧ (Kd.slice 5 kU8).R 34 w base ok v4 x.f4 := by
  obtain ⟨_, _, rfl, rfl, ⟨_, _, rfl, rfl, ⟨_, _, rfl, rfl, ⟨_, _, rfl, ⟨v3, rfl, g3⟩, ⟨v4, rfl, g4⟩⟩⟩⟩⟩ := h
  exact ⟨v3, v4, rfl, g3, g4⟩
theorem k194_mk (w : World) (x : S194) {A3 : Option Addr} {c3 : Nat} (l3 : x.f3.length ≤ c3) (g3 : kU8.C w A3 x.f3.length x.f3) {A4 : Option Addr} {c4 : Nat} (l4 : x.f4.length ≤ c4) (g4 : (Kd.slice 5 kU8).C w A4 x.f4.length x.f4) : k194.K w x [.int .u64 x.f0, .int .u64 x.f1, .bool x.f2, .slice A3 x.f3.length c3, .slice A4 x.f4.length c4] := ⟨[.int .u64 x.f0], [.int .u64 x.f1, .bool x.f2, .slice A3 x.f3.length c3, .slice A4 x.f4.length c4], rfl, rfl, ⟨[.int .u64 x.f1], [.bool x.f2, .slice A3 x.f3.length c3, .slice A4 x.f4.length c4], rfl, rfl, ⟨[.bool x.f2], [.slice A3 x.f3.length c3, .slice A4 x.f4.length c4], rfl, rfl, ⟨[.slice A3 x.f3.length c3], [.slice A4 x.f4.length c4], rfl, ⟨A3, c3, rfl, l3, g3⟩, ⟨A4, c4, rfl, l4, g4⟩⟩⟩⟩⟩
theorem k194_mkM (w : World) (base : Nat) (ok : Nat → Prop) (x : S194) {v3 : Value} (g3 : kU8.R 5 w base ok v3 x.f3) {v4 : Value} (g4 : (Kd.slice 5 kU8).R 34 w base ok v4 x.f4) : k194.M w base ok x [.int .u64 x.f0, .int .u64 x.f1, .bool x.f2, v3, v4] := ⟨[.int .u64 x.f0], [.int .u64 x.f1, .bool x.f2, v3, v4], rfl, rfl, ⟨[.int .u64 x.f1], [.bool x.f2, v3, v4], rfl, rfl, ⟨[.bool x.f2], [v3, v4], rfl, rfl, ⟨[v3], [v4], rfl, ⟨v3, rfl, g3⟩, ⟨v4, rfl, g4⟩⟩⟩⟩⟩
theorem k194_openF {W : World} {ok : Nat → Prop} {x : S194} {cs : List Value} (h : Kd.FK k194 W ok x cs) : ∃ A3 c3 A4 c4, cs = [.int .u64 x.f0, .int .u64 x.f1, .bool x.f2, .slice A3 x.f3.length c3, .slice A4 x.f4.length c4] ∧ x.f3.length ≤ c3 ∧ Kd.F kU8 W ok A3 x.f3.length x.f3 ∧ x.f4.length ≤ c4 ∧ Kd.F (Kd.slice 5 kU8) W ok A4 x.f4.length x.f4 := by
  obtain ⟨A3, c3, A4, c4, rfl, l3, _, l4, _⟩ := k194_open (Kd.FK_now h)
  exact ⟨A3, c3, A4, c4, rfl, l3, (fun W' hW => by obtain ⟨A3_, c3_, A4_, c4_, he, l3_, g3_, l4_, g4_⟩ := k194_open (h W' hW); injection (Option.some.inj (show some (Value.slice A3 x.f3.length c3) = some (Value.slice A3_ x.f3.length c3_) from congrArg (fun l => l[3]?) he)) with ha_ _ _; rw [ha_]; exact g3_), l4, (fun W' hW => by obtain ⟨A3_, c3_, A4_, c4_, he, l3_, g3_, l4_, g4_⟩ := k194_open (h W' hW); injection (Option.some.inj (show some (Value.slice A4 x.f4.length c4) = some (Value.slice A4_ x.f4.length c4_) from congrArg (fun l => l[4]?) he)) with ha_ _ _; rw [ha_]; exact g4_)⟩
theorem k194_mkF (W : World) (ok : Nat → Prop) (x : S194) {A3 : Option Addr} {c3 : Nat} (l3 : x.f3.length ≤ c3) (g3 : Kd.F kU8 W ok A3 x.f3.length x.f3) {A4 : Option Addr} {c4 : Nat} (l4 : x.f4.length ≤ c4) (g4 : Kd.F (Kd.slice 5 kU8) W ok A4 x.f4.length x.f4) : Kd.FK k194 W ok x [.int .u64 x.f0, .int .u64 x.f1, .bool x.f2, .slice A3 x.f3.length c3, .slice A4 x.f4.length c4] := fun W2 hW => k194_mk W2 x l3 (g3 W2 hW) l4 (g4 W2 hW)
def rd_T194 (xs : List S194) (i : Int) : S194 := xs.getD i.toNat z194
theorem at_T194 {w : World} {A : Option Addr} {n : Nat} {xs : List S194} (h : Kd.C k194 w A n xs) (i : Int) (h0 : 0 ≤ i) (h1 : i < n) : ∃ ad A3 c3 A4 c4, A = some ad ∧ w.cell? (ad.add (i.toNat * 5)) = some (.int .u64 (rd_T194 xs i).f0) ∧ w.cell? ⟨(ad.add (i.toNat * 5)).block, (ad.add (i.toNat * 5)).off + 1, none⟩ = some (.int .u64 (rd_T194 xs i).f1) ∧ w.cell? ⟨(ad.add (i.toNat * 5)).block, (ad.add (i.toNat * 5)).off + 2, none⟩ = some (.bool (rd_T194 xs i).f2) ∧ w.cell? ⟨(ad.add (i.toNat * 5)).block, (ad.add (i.toNat * 5)).off + 3, none⟩ = some (.slice A3 (rd_T194 xs i).f3.length c3) ∧ w.cell? ⟨(ad.add (i.toNat * 5)).block, (ad.add (i.toNat * 5)).off + 4, none⟩ = some (.slice A4 (rd_T194 xs i).f4.length c4) ∧ (rd_T194 xs i).f3.length ≤ c3 ∧ kU8.C w A3 (rd_T194 xs i).f3.length (rd_T194 xs i).f3 ∧ (rd_T194 xs i).f4.length ≤ c4 ∧ (Kd.slice 5 kU8).C w A4 (rd_T194 xs i).f4.length (rd_T194 xs i).f4 := by
  obtain ⟨ad, c, e, _, hK, hc0⟩ := Kd.C_get h z194 i h0 h1
  have hc : ∀ j u, c[j]? = some u → w.cell? (ad.add (i.toNat * 5 + j)) = some u := hc0
  obtain ⟨A3, c3, A4, c4, rfl, l3, g3, l4, g4⟩ := k194_open hK
  exact ⟨ad, A3, c3, A4, c4, e, hc 0 _ rfl, by rw [← add_field _ _ 1 (by omega)]; exact hc 1 _ rfl, by rw [← add_field _ _ 2 (by omega)]; exact hc 2 _ rfl, by rw [← add_field _ _ 3 (by omega)]; exact hc 3 _ rfl, by rw [← add_field _ _ 4 (by omega)]; exact hc 4 _ rfl, l3, g3, l4, g4⟩

def rd_L30 (xs : List (List S194)) (i : Int) : (List S194) := xs.getD i.toNat ([] : List S194)
theorem at_L30 {w : World} {A : Option Addr} {n : Nat} {xs : List (List S194)} (h : Kd.C (Kd.slice 194 k194) w A n xs) (i : Int) (h0 : 0 ≤ i) (h1 : i < n) : ∃ ad A0 c0, A = some ad ∧ w.cell? (ad.add i.toNat) = some (.slice A0 (rd_L30 xs i).length c0) ∧ (rd_L30 xs i).length ≤ c0 ∧ k194.C w A0 (rd_L30 xs i).length (rd_L30 xs i) := by
  obtain ⟨ad, c, e, _, hK, hc0⟩ := Kd.C_get h ([] : List S194) i h0 h1
  have hc : ∀ j u, c[j]? = some u → w.cell? (ad.add (i.toNat * 1 + j)) = some u := hc0
  obtain ⟨A0, c0, rfl, l0, g0⟩ := hK
  exact ⟨ad, A0, c0, e, by have hq := hc 0 _ rfl; rwa [Nat.mul_one, Nat.add_zero] at hq, l0, g0⟩

/-! #### struct type 196 -/
structure S196 where
  f0 : (List UInt8)
  f1 : (List S194)
  f2 : S194
def z196 : S196 := ⟨([] : List UInt8), ([] : List S194), z194⟩
def k196 : Kd S196 := Kd.iso (Kd.pair (Kd.slice 5 kU8) (Kd.pair (Kd.slice 194 k194) k194)) (fun x : S196 => (x.f0, x.f1, x.f2))
theorem k196_heap : Kd.Heap k196 := Kd.heap_iso _ (Kd.heap_pair (Kd.heap_slice 5 kU8_heap) (Kd.heap_pair (Kd.heap_slice 194 k194_heap) k194_heap))
theorem k196_open {w : World} {x : S196} {cs : List Value} (h : k196.K w x cs) : ∃ A0 c0 A1 c1 A5 c5 A6 c6, cs = [.slice A0 x.f0.length c0, .slice A1 x.f1.length c1, .int .u64 x.f2.f0, .int .u64 x.f2.f1, .bool x.f2.f2, .slice A5 x.f2.f3.length c5, .slice A6 x.f2.f4.length c6] ∧ x.f0.length ≤ c0 ∧ kU8.C w A0 x.f0.length x.f0 ∧ x.f1.length ≤ c1 ∧ k194.C w A1 x.f1.length x.f1 ∧ x.f2.f3.length ≤ c5 ∧ kU8.C w A5 x.f2.f3.length x.f2.f3 ∧ x.f2.f4.length ≤ c6 ∧ (Kd.slice 5 kU8).C w A6 x.f2.f4.length x.f2.f4 := by
  obtain ⟨_, _, rfl, ⟨A0, c0, rfl, l0, g0⟩, ⟨_, _, rfl, ⟨A1, c1, rfl, l1, g1⟩, s2⟩⟩ := h
  obtain ⟨A5, c5, A6, c6, rfl, l5, g5, l6, g6⟩ := k194_open s2
  exact ⟨A0, c0, A1, c1, A5, c5, A6, c6, rfl, l0, g0, l1, g1, l5, g5, l6, g6⟩
theorem k196_openM {w : World} {base : Nat} {ok : Nat → Prop} {x : S196} {cs : List Value} (h : k196.M w base ok x cs) : ∃ v0 v1 v5 v6, cs = [v0, v1, .int .u64 x.f2.f0, .int .u64 x.f2.f1, .bool x.f2.f2, v5, v6] ∧ kU8.R 5 w base ok v0 x.f0 ∧ k194.R 194 w base ok v1 x.f1 ∧ kU8.R 5 w base ok v5 x.f2.f3 ∧ (Kd.slice 5 kU8).R 34 w base ok v6 x.f2.f4 := by
  obtain ⟨_, _, rfl, ⟨v0, rfl, g0⟩, ⟨_, _, rfl, ⟨v1, rfl, g1⟩, s2⟩⟩ := h
  obtain ⟨v5, v6, rfl, g5, g6⟩ := k194_openM s2
  exact ⟨v0, v1, v5, v6, rfl, g0, g1, g5, g6⟩
theorem k196_mk (w : World) (x : S196) {A0 : Option Addr} {c0 : Nat} (l0 : x.f0.length ≤ c0) (g0 : kU8.C w A0 x.f0.length x.f0) {A1 : Option Addr} {c1 : Nat} (l1 : x.f1.length ≤ c1) (g1 : k194.C w A1 x.f1.length x.f1) {A5 : Option Addr} {c5 : Nat} (l5 : x.f2.f3.length ≤ c5) (g5 : kU8.C w A5 x.f2.f3.length x.f2.f3) {A6 : Option Addr} {c6 : Nat} (l6 : x.f2.f4.length ≤ c6) (g6 : (Kd.slice 5 kU8).C w A6 x.f2.f4.length x.f2.f4) : k196.K w x [.slice A0 x.f0.length c0, .slice A1 x.f1.length c1, .int .u64 x.f2.f0, .int .u64 x.f2.f1, .bool x.f2.f2, .slice A5 x.f2.f3.length c5, .slice A6 x.f2.f4.length c6] := ⟨[.slice A0 x.f0.length c0], [.slice A1 x.f1.length c1, .int .u64 x.f2.f0, .int .u64 x.f2.f1, .bool x.f2.f2, .slice A5 x.f2.f3.length c5, .slice A6 x.f2.f4.length c6], rfl, ⟨A0, c0, rfl, l0, g0⟩, ⟨[.slice A1 x.f1.length c1], [.int .u64 x.f2.f0, .int .u64 x.f2.f1, .bool x.f2.f2, .slice A5 x.f2.f3.length c5, .slice A6 x.f2.f4.length c6], rfl, ⟨A1, c1, rfl, l1, g1⟩, (k194_mk w x.f2 l5 g5 l6 g6)⟩⟩
theorem k196_mkM (w : World) (base : Nat) (ok : Nat → Prop) (x : S196) {v0 : Value} (g0 : kU8.R 5 w base ok v0 x.f0) {v1 : Value} (g1 : k194.R 194 w base ok v1 x.f1) {v5 : Value} (g5 : kU8.R 5 w base ok v5 x.f2.f3) {v6 : Value} (g6 : (Kd.slice 5 kU8).R 34 w base ok v6 x.f2.f4) : k196.M w base ok x [v0, v1, .int .u64 x.f2.f0, .int .u64 x.f2.f1, .bool x.f2.f2, v5, v6] := ⟨[v0], [v1, .int .u64 x.f2.f0, .int .u64 x.f2.f1, .bool x.f2.f2, v5, v6], rfl, ⟨v0, rfl, g0⟩, ⟨[v1], [.int .u64 x.f2.f0, .int .u64 x.f2.f1, .bool x.f2.f2, v5, v6], rfl, ⟨v1, rfl, g1⟩, (k194_mkM w base ok x.f2 g5 g6)⟩⟩
theorem k196_openF {W : World} {ok : Nat → Prop} {x : S196} {cs : List Value} (h : Kd.FK k196 W ok x cs) : ∃ A0 c0 A1 c1 A5 c5 A6 c6, cs = [.slice A0 x.f0.length c0, .slice A1 x.f1.length c1, .int .u64 x.f2.f0, .int .u64 x.f2.f1, .bool x.f2.f2, .slice A5 x.f2.f3.length c5, .slice A6 x.f2.f4.length c6] ∧ x.f0.length ≤ c0 ∧ Kd.F kU8 W ok A0 x.f0.length x.f0 ∧ x.f1.length ≤ c1 ∧ Kd.F k194 W ok A1 x.f1.length x.f1 ∧ x.f2.f3.length ≤ c5 ∧ Kd.F kU8 W ok A5 x.f2.f3.length x.f2.f3 ∧ x.f2.f4.length ≤ c6 ∧ Kd.F (Kd.slice 5 kU8) W ok A6 x.f2.f4.length x.f2.f4 := by
  obtain ⟨A0, c0, A1, c1, A5, c5, A6, c6, rfl, l0, _, l1, _, l5, _, l6, _⟩ := k196_open (Kd.FK_now h)
  exact ⟨A0, c0, A1, c1, A5, c5, A6, c6, rfl, l0, (fun W' hW => by obtain ⟨A0_, c0_, A1_, c1_, A5_, c5_, A6_, c6_, he, l0_, g0_, l1_, g1_, l5_, g5_, l6_, g6_⟩ := k196_open (h W' hW); injection (Option.some.inj (show some (Value.slice A0 x.f0.length c0) = some (Value.slice A0_ x.f0.length c0_) from congrArg (fun l => l[0]?) he)) with ha_ _ _; rw [ha_]; exact g0_), l1, (fun W' hW => by obtain ⟨A0_, c0_, A1_, c1_, A5_, c5_, A6_, c6_, he, l0_, g0_, l1_, g1_, l5_, g5_, l6_, g6_⟩ := k196_open (h W' hW); injection (Option.some.inj (show some (Value.slice A1 x.f1.length c1) = some (Value.slice A1_ x.f1.length c1_) from congrArg (fun l => l[1]?) he)) with ha_ _ _; rw [ha_]; exact g1_), l5, (fun W' hW => by obtain ⟨A0_, c0_, A1_, c1_, A5_, c5_, A6_, c6_, he, l0_, g0_, l1_, g1_, l5_, g5_, l6_, g6_⟩ := k196_open (h W' hW); injection (Option.some.inj (show some (Value.slice A5 x.f2.f3.length c5) = some (Value.slice A5_ x.f2.f3.length c5_) from congrArg (fun l => l[5]?) he)) with ha_ _ _; rw [ha_]; exact g5_), l6, (fun W' hW => by obtain ⟨A0_, c0_, A1_, c1_, A5_, c5_, A6_, c6_, he, l0_, g0_, l1_, g1_, l5_, g5_, l6_, g6_⟩ := k196_open (h W' hW); injection (Option.some.inj (show some (Value.slice A6 x.f2.f4.length c6) = some (Value.slice A6_ x.f2.f4.length c6_) from congrArg (fun l => l[6]?) he)) with ha_ _ _; rw [ha_]; exact g6_)⟩
theorem k196_mkF (W : World) (ok : Nat → Prop) (x : S196) {A0 : Option Addr} {c0 : Nat} (l0 : x.f0.length ≤ c0) (g0 : Kd.F kU8 W ok A0 x.f0.length x.f0) {A1 : Option Addr} {c1 : Nat} (l1 : x.f1.length ≤ c1) (g1 : Kd.F k194 W ok A1 x.f1.length x.f1) {A5 : Option Addr} {c5 : Nat} (l5 : x.f2.f3.length ≤ c5) (g5 : Kd.F kU8 W ok A5 x.f2.f3.length x.f2.f3) {A6 : Option Addr} {c6 : Nat} (l6 : x.f2.f4.length ≤ c6) (g6 : Kd.F (Kd.slice 5 kU8) W ok A6 x.f2.f4.length x.f2.f4) : Kd.FK k196 W ok x [.slice A0 x.f0.length c0, .slice A1 x.f1.length c1, .int .u64 x.f2.f0, .int .u64 x.f2.f1, .bool x.f2.f2, .slice A5 x.f2.f3.length c5, .slice A6 x.f2.f4.length c6] := fun W2 hW => k196_mk W2 x l0 (g0 W2 hW) l1 (g1 W2 hW) l5 (g5 W2 hW) l6 (g6 W2 hW)
def rd_T196 (xs : List S196) (i : Int) : S196 := xs.getD i.toNat z196
theorem at_T196 {w : World} {A : Option Addr} {n : Nat} {xs : List S196} (h : Kd.C k196 w A n xs) (i : Int) (h0 : 0 ≤ i) (h1 : i < n) : ∃ ad A0 c0 A1 c1 A5 c5 A6 c6, A = some ad ∧ w.cell? (ad.add (i.toNat * 7)) = some (.slice A0 (rd_T196 xs i).f0.length c0) ∧ w.cell? ⟨(ad.add (i.toNat * 7)).block, (ad.add (i.toNat * 7)).off + 1, none⟩ = some (.slice A1 (rd_T196 xs i).f1.length c1) ∧ w.cell? ⟨(ad.add (i.toNat * 7)).block, (ad.add (i.toNat * 7)).off + 2, none⟩ = some (.int .u64 (rd_T196 xs i).f2.f0) ∧ w.cell? ⟨(ad.add (i.toNat * 7)).block, (ad.add (i.toNat * 7)).off + 3, none⟩ = some (.int .u64 (rd_T196 xs i).f2.f1) ∧ w.cell? ⟨(ad.add (i.toNat * 7)).block, (ad.add (i.toNat * 7)).off + 4, none⟩ = some (.bool (rd_T196 xs i).f2.f2) ∧ w.cell? ⟨(ad.add (i.toNat * 7)).block, (ad.add (i.toNat * 7)).off + 5, none⟩ = some (.slice A5 (rd_T196 xs i).f2.f3.length c5) ∧ w.cell? ⟨(ad.add (i.toNat * 7)).block, (ad.add (i.toNat * 7)).off + 6, none⟩ = some (.slice A6 (rd_T196 xs i).f2.f4.length c6) ∧ (rd_T196 xs i).f0.length ≤ c0 ∧ kU8.C w A0 (rd_T196 xs i).f0.length (rd_T196 xs i).f0 ∧ (rd_T196 xs i).f1.length ≤ c1 ∧ k194.C w A1 (rd_T196 xs i).f1.length (rd_T196 xs i).f1 ∧ (rd_T196 xs i).f2.f3.length ≤ c5 ∧ kU8.C w A5 (rd_T196 xs i).f2.f3.length (rd_T196 xs i).f2.f3 ∧ (rd_T196 xs i).f2.f4.length ≤ c6 ∧ (Kd.slice 5 kU8).C w A6 (rd_T196 xs i).f2.f4.length (rd_T196 xs i).f2.f4 := by
  obtain ⟨ad, c, e, _, hK, hc0⟩ := Kd.C_get h z196 i h0 h1
  have hc : ∀ j u, c[j]? = some u → w.cell? (ad.add (i.toNat * 7 + j)) = some u := hc0
  obtain ⟨A0, c0, A1, c1, A5, c5, A6, c6, rfl, l0, g0, l1, g1, l5, g5, l6, g6⟩ := k196_open hK
  exact ⟨ad, A0, c0, A1, c1, A5, c5, A6, c6, e, hc 0 _ rfl, by rw [← add_field _ _ 1 (by omega)]; exact hc 1 _ rfl, by rw [← add_field _ _ 2 (by omega)]; exact hc 2 _ rfl, by rw [← add_field _ _ 3 (by omega)]; exact hc 3 _ rfl, by rw [← add_field _ _ 4 (by omega)]; exact hc 4 _ rfl, by rw [← add_field _ _ 5 (by omega)]; exact hc 5 _ rfl, by rw [← add_field _ _ 6 (by omega)]; exact hc 6 _ rfl, l0, g0, l1, g1, l5, g5, l6, g6⟩

def rd_L32 (xs : List (List S196)) (i : Int) : (List S196) := xs.getD i.toNat ([] : List S196)
theorem at_L32 {w : World} {A : Option Addr} {n : Nat} {xs : List (List S196)} (h : Kd.C (Kd.slice 196 k196) w A n xs) (i : Int) (h0 : 0 ≤ i) (h1 : i < n) : ∃ ad A0 c0, A = some ad ∧ w.cell? (ad.add i.toNat) = some (.slice A0 (rd_L32 xs i).length c0) ∧ (rd_L32 xs i).length ≤ c0 ∧ k196.C w A0 (rd_L32 xs i).length (rd_L32 xs i) := by
  obtain ⟨ad, c, e, _, hK, hc0⟩ := Kd.C_get h ([] : List S196) i h0 h1
  have hc : ∀ j u, c[j]? = some u → w.cell? (ad.add (i.toNat * 1 + j)) = some u := hc0
  obtain ⟨A0, c0, rfl, l0, g0⟩ := hK
  exact ⟨ad, A0, c0, e, by have hq := hc 0 _ rfl; rwa [Nat.mul_one, Nat.add_zero] at hq, l0, g0⟩

/-! #### struct type 178 -/
structure S178 where
  f0 : (List UInt8)
  f1 : Bool
  f2 : (List UInt8)
def z178 : S178 := ⟨([] : List UInt8), false, ([] : List UInt8)⟩
def k178 : Kd S178 := Kd.iso (Kd.pair (Kd.slice 5 kU8) (Kd.pair Kd.bool (Kd.slice 5 kU8))) (fun x : S178 => (x.f0, x.f1, x.f2))
theorem k178_heap : Kd.Heap k178 := Kd.heap_iso _ (Kd.heap_pair (Kd.heap_slice 5 kU8_heap) (Kd.heap_pair Kd.heap_bool (Kd.heap_slice 5 kU8_heap)))
theorem k178_open {w : World} {x : S178} {cs : List Value} (h : k178.K w x cs) : ∃ A0 c0 A2 c2, cs = [.slice A0 x.f0.length c0, .bool x.f1, .slice A2 x.f2.length c2] ∧ x.f0.length ≤ c0 ∧ kU8.C w A0 x.f0.length x.f0 ∧ x.f2.length ≤ c2 ∧ kU8.C w A2 x.f2.length x.f2 := by
  obtain ⟨_, _, rfl, ⟨A0, c0, rfl, l0, g0⟩, ⟨_, _, rfl, rfl, ⟨A2, c2, rfl, l2, g2⟩⟩⟩ := h
  exact ⟨A0, c0, A2, c2, rfl, l0, g0, l2, g2⟩
theorem k178_openM {w : World} {base : Nat} {ok : Nat → Prop} {x : S178} {cs : List Value} (h : k178.M w base ok x cs) : ∃ v0 v2, cs = [v0, .bool x.f1, v2] ∧ kU8.R 5 w base ok v0 x.f0 ∧ kU8.R 5 w base ok v2 x.f2 := by
  obtain ⟨_, _, rfl, ⟨v0, rfl, g0⟩, ⟨_, _, rfl, rfl, ⟨v2, rfl, g2⟩⟩⟩ := h
  exact ⟨v0, v2, rfl, g0, g2⟩
theorem k178_mk (w : World) (x : S178) {A0 : Option Addr} {c0 : Nat} (l0 : x.f0.length ≤ c0) (g0 : kU8.C w A0 x.f0.length x.f0) {A2 : Option Addr} {c2 : Nat} (l2 : x.f2.length ≤ c2) (g2 : kU8.C w A2 x.f2.length x.f2) : k178.K w x [.slice A0 x.f0.length c0, .bool x.f1, .slice A2 x.f2.length c2] := ⟨[.slice A0 x.f0.length c0], [.bool x.f1, .slice A2 x.f2.length c2], rfl, ⟨A0, c0, rfl, l0, g0⟩, ⟨[.bool x.f1], [.slice A2 x.f2.length c2], rfl, rfl, ⟨A2, c2, rfl, l2, g2⟩⟩⟩
theorem k178_mkM (w : World) (base : Nat) (ok : Nat → Prop) (x : S178) {v0 : Value} (g0 : kU8.R 5 w base ok v0 x.f0) {v2 : Value} (g2 : kU8.R 5 w base ok v2 x.f2) : k178.M w base ok x [v0, .bool x.f1, v2] := ⟨[v0], [.bool x.f1, v2], rfl, ⟨v0, rfl, g0⟩, ⟨[.bool x.f1], [v2], rfl, rfl, ⟨v2, rfl, g2⟩⟩⟩
theorem k178_openF {W : World} {ok : Nat → Prop} {x : S178} {cs : List Value} (h : Kd.FK k178 W ok x cs) : ∃ A0 c0 A2 c2, cs = [.slice A0 x.f0.length c0, .bool x.f1, .slice A2 x.f2.length c2] ∧ x.f0.length ≤ c0 ∧ Kd.F kU8 W ok A0 x.f0.length x.f0 ∧ x.f2.length ≤ c2 ∧ Kd.F kU8 W ok A2 x.f2.length x.f2 := by
  obtain ⟨A0, c0, A2, c2, rfl, l0, _, l2, _⟩ := k178_open (Kd.FK_now h)
  exact ⟨A0, c0, A2, c2, rfl, l0, (fun W' hW => by obtain ⟨A0_, c0_, A2_, c2_, he, l0_, g0_, l2_, g2_⟩ := k178_open (h W' hW); injection (Option.some.inj (show some (Value.slice A0 x.f0.length c0) = some (Value.slice A0_ x.f0.length c0_) from congrArg (fun l => l[0]?) he)) with ha_ _ _; rw [ha_]; exact g0_), l2, (fun W' hW => by obtain ⟨A0_, c0_, A2_, c2_, he, l0_, g0_, l2_, g2_⟩ := k178_open (h W' hW); injection (Option.some.inj (show some (Value.slice A2 x.f2.length c2) = some (Value.slice A2_ x.f2.length c2_) from congrArg (fun l => l[2]?) he)) with ha_ _ _; rw [ha_]; exact g2_)⟩
theorem k178_mkF (W : World) (ok : Nat → Prop) (x : S178) {A0 : Option Addr} {c0 : Nat} (l0 : x.f0.length ≤ c0) (g0 : Kd.F kU8 W ok A0 x.f0.length x.f0) {A2 : Option Addr} {c2 : Nat} (l2 : x.f2.length ≤ c2) (g2 : Kd.F kU8 W ok A2 x.f2.length x.f2) : Kd.FK k178 W ok x [.slice A0 x.f0.length c0, .bool x.f1, .slice A2 x.f2.length c2] := fun W2 hW => k178_mk W2 x l0 (g0 W2 hW) l2 (g2 W2 hW)
def rd_T178 (xs : List S178) (i : Int) : S178 := xs.getD i.toNat z178
theorem at_T178 {w : World} {A : Option Addr} {n : Nat} {xs : List S178} (h : Kd.C k178 w A n xs) (i : Int) (h0 : 0 ≤ i) (h1 : i < n) : ∃ ad A0 c0 A2 c2, A = some ad ∧ w.cell? (ad.add (i.toNat * 3)) = some (.slice A0 (rd_T178 xs i).f0.length c0) ∧ w.cell? ⟨(ad.add (i.toNat * 3)).block, (ad.add (i.toNat * 3)).off + 1, none⟩ = some (.bool (rd_T178 xs i).f1) ∧ w.cell? ⟨(ad.add (i.toNat * 3)).block, (ad.add (i.toNat * 3)).off + 2, none⟩ = some (.slice A2 (rd_T178 xs i).f2.length c2) ∧ (rd_T178 xs i).f0.length ≤ c0 ∧ kU8.C w A0 (rd_T178 xs i).f0.length (rd_T178 xs i).f0 ∧ (rd_T178 xs i).f2.length ≤ c2 ∧ kU8.C w A2 (rd_T178 xs i).f2.length (rd_T178 xs i).f2 := by
  obtain ⟨ad, c, e, _, hK, hc0⟩ := Kd.C_get h z178 i h0 h1
  have hc : ∀ j u, c[j]? = some u → w.cell? (ad.add (i.toNat * 3 + j)) = some u := hc0
  obtain ⟨A0, c0, A2, c2, rfl, l0, g0, l2, g2⟩ := k178_open hK
  exact ⟨ad, A0, c0, A2, c2, e, hc 0 _ rfl, by rw [← add_field _ _ 1 (by omega)]; exact hc 1 _ rfl, by rw [← add_field _ _ 2 (by omega)]; exact hc 2 _ rfl, l0, g0, l2, g2⟩

def rd_L34 (xs : List (List S178)) (i : Int) : (List S178) := xs.getD i.toNat ([] : List S178)
theorem at_L34 {w : World} {A : Option Addr} {n : Nat} {xs : List (List S178)} (h : Kd.C (Kd.slice 178 k178) w A n xs) (i : Int) (h0 : 0 ≤ i) (h1 : i < n) : ∃ ad A0 c0, A = some ad ∧ w.cell? (ad.add i.toNat) = some (.slice A0 (rd_L34 xs i).length c0) ∧ (rd_L34 xs i).length ≤ c0 ∧ k178.C w A0 (rd_L34 xs i).length (rd_L34 xs i) := by
  obtain ⟨ad, c, e, _, hK, hc0⟩ := Kd.C_get h ([] : List S178) i h0 h1
  have hc : ∀ j u, c[j]? = some u → w.cell? (ad.add (i.toNat * 1 + j)) = some u := hc0
  obtain ⟨A0, c0, rfl, l0, g0⟩ := hK
  exact ⟨ad, A0, c0, e, by have hq := hc 0 _ rfl; rwa [Nat.mul_one, Nat.add_zero] at hq, l0, g0⟩

/-! #### struct type 101 -/
structure S101 where
  f0 : Int
  f1 : Int
  f2 : Int
  f3 : Int
  f4 : Int
  f5 : Bool
  f6 : S49
  f7 : (List UInt8)
  f8 : (List UInt8)
  f9 : (List Int)
  f10 : (List S178)
  f11 : (List (List UInt8))
  f12 : S25
def z101 : S101 := ⟨(0 : Int), (0 : Int), (0 : Int), (0 : Int), (0 : Int), false, z49, ([] : List UInt8), ([] : List UInt8), ([] : List Int), ([] : List S178), ([] : List (List UInt8)), z25⟩
def k101 : Kd S101 := Kd.iso (Kd.pair (Kd.int .u64) (Kd.pair (Kd.int .u64) (Kd.pair (Kd.int .i64) (Kd.pair (Kd.int .u64) (Kd.pair (Kd.int .u64) (Kd.pair Kd.bool (Kd.pair k49 (Kd.pair (Kd.slice 5 kU8) (Kd.pair (Kd.slice 5 kU8) (Kd.pair (Kd.slice 47 (Kd.int .u64)) (Kd.pair (Kd.slice 178 k178) (Kd.pair (Kd.slice 34 (Kd.slice 5 kU8)) k25)))))))))))) (fun x : S101 => (x.f0, x.f1, x.f2, x.f3, x.f4, x.f5, x.f6, x.f7, x.f8, x.f9, x.f10, x.f11, x.f12))
theorem k101_heap : Kd.Heap k101 := Kd.heap_iso _ (Kd.heap_pair (Kd.heap_int .u64) (Kd.heap_pair (Kd.heap_int .u64) (Kd.heap_pair (Kd.heap_int .i64) (Kd.heap_pair (Kd.heap_int .u64) (Kd.heap_pair (Kd.heap_int .u64) (Kd.heap_pair Kd.heap_bool (Kd.heap_pair k49_heap (Kd.heap_pair (Kd.heap_slice 5 kU8_heap) (Kd.heap_pair (Kd.heap_slice 5 kU8_heap) (Kd.heap_pair (Kd.heap_slice 47 (Kd.heap_int .u64)) (Kd.heap_pair (Kd.heap_slice 178 k178_heap) (Kd.heap_pair (Kd.heap_slice 34 (Kd.heap_slice 5 kU8_heap)) k25_heap))))))))))))
theorem k101_open {w : World} {x : S101} {cs : List Value} (h : k101.K w x cs) : ∃ A9 c9 A10 c10 A11 c11 A12 c12 A13 c13 A14 c14 A15 c15 A18 c18 A20 c20, cs = [.int .u64 x.f0, .int .u64 x.f1, .int .i64 x.f2, .int .u64 x.f3, .int .u64 x.f4, .bool x.f5, .int .u64 x.f6.f0, .int .i64 x.f6.f1, .int .i64 x.f6.f2, .slice A9 x.f6.f3.length c9, .slice A10 x.f6.f4.length c10, .slice A11 x.f7.length c11, .slice A12 x.f8.length c12, .slice A13 x.f9.length c13, .slice A14 x.f10.length c14, .slice A15 x.f11.length c15, .int .i64 x.f12.f0, .string x.f12.f1, .slice A18 x.f12.f2.length c18, .int .i64 x.f12.f3, .slice A20 x.f12.f4.length c20] ∧ x.f6.f3.length ≤ c9 ∧ kU8.C w A9 x.f6.f3.length x.f6.f3 ∧ x.f6.f4.length ≤ c10 ∧ kU8.C w A10 x.f6.f4.length x.f6.f4 ∧ x.f7.length ≤ c11 ∧ kU8.C w A11 x.f7.length x.f7 ∧ x.f8.length ≤ c12 ∧ kU8.C w A12 x.f8.length x.f8 ∧ x.f9.length ≤ c13 ∧ (Kd.int .u64).C w A13 x.f9.length x.f9 ∧ x.f10.length ≤ c14 ∧ k178.C w A14 x.f10.length x.f10 ∧ x.f11.length ≤ c15 ∧ (Kd.slice 5 kU8).C w A15 x.f11.length x.f11 ∧ x.f12.f2.length ≤ c18 ∧ k87.C w A18 x.f12.f2.length x.f12.f2 ∧ x.f12.f4.length ≤ c20 ∧ (Kd.int .i64).C w A20 x.f12.f4.length x.f12.f4 := by
  obtain ⟨_, _, rfl, rfl, ⟨_, _, rfl, rfl, ⟨_, _, rfl, rfl, ⟨_, _, rfl, rfl, ⟨_, _, rfl, rfl, ⟨_, _, rfl, rfl, ⟨_, _, rfl, s6, ⟨_, _, rfl, ⟨A11, c11, rfl, l11, g11⟩, ⟨_, _, rfl, ⟨A12, c12, rfl, l12, g12⟩, ⟨_, _, rfl, ⟨A13, c13, rfl, l13, g13⟩, ⟨_, _, rfl, ⟨A14, c14, rfl, l14, g14⟩, ⟨_, _, rfl, ⟨A15, c15, rfl, l15, g15⟩, s16⟩⟩⟩⟩⟩⟩⟩⟩⟩⟩⟩⟩ := h
  obtain ⟨A9, c9, A10, c10, rfl, l9, g9, l10, g10⟩ := k49_open s6
  obtain ⟨A18, c18, A20, c20, rfl, l18, g18, l20, g20⟩ := k25_open s16
  exact ⟨A9, c9, A10, c10, A11, c11, A12, c12, A13, c13, A14, c14, A15, c15, A18, c18, A20, c20, rfl, l9, g9, l10, g10, l11, g11, l12, g12, l13, g13, l14, g14, l15, g15, l18, g18, l20, g20⟩
theorem k101_openM {w : World} {base : Nat} {ok : Nat → Prop} {x : S101} {cs : List Value} (h : k101.M w base ok x cs) : ∃ v9 v10 v11 v12 v13 v14 v15 v18 v20, cs = [.int .u64 x.f0, .int .u64 x.f1, .int .i64 x.f2, .int .u64 x.f3, .int .u64 x.f4, .bool x.f5, .int .u64 x.f6.f0, .int .i64 x.f6.f1, .int .i64 x.f6.f2, v9, v10, v11, v12, v13, v14, v15, .int .i64 x.f12.f0, .string x.f12.f1, v18, .int .i64 x.f12.f3, v20] ∧ kU8.R 5 w base ok v9 x.f6.f3 ∧ kU8.R 5 w base ok v10 x.f6.f4 ∧ kU8.R 5 w base ok v11 x.f7 ∧ kU8.R 5 w base ok v12 x.f8 ∧ (Kd.int .u64).R 47 w base ok v13 x.f9 ∧ k178.R 178 w base ok v14 x.f10 ∧ (Kd.slice 5 kU8).R 34 w base ok v15 x.f11 ∧ k87.R 87 w base ok v18 x.f12.f2 ∧ (Kd.int .i64).R 3 w base ok v20 x.f12.f4 := by
  obtain ⟨_, _, rfl, rfl, ⟨_, _, rfl, rfl, ⟨_, _, rfl, rfl, ⟨_, _, rfl, rfl, ⟨_, _, rfl, rfl, ⟨_, _, rfl, rfl, ⟨_, _, rfl, s6, ⟨_, _, rfl, ⟨v11, rfl, g11⟩, ⟨_, _, rfl, ⟨v12, rfl, g12⟩, ⟨_, _, rfl, ⟨v13, rfl, g13⟩, ⟨_, _, rfl, ⟨v14, rfl, g14⟩, ⟨_, _, rfl, ⟨v15, rfl, g15⟩, s16⟩⟩⟩⟩⟩⟩⟩⟩⟩⟩⟩⟩ := h
  obtain ⟨v9, v10, rfl, g9, g10⟩ := k49_openM s6
  obtain ⟨v18, v20, rfl, g18, g20⟩ := k25_openM s16
  exact ⟨v9, v10, v11, v12, v13, v14, v15, v18, v20, rfl, g9, g10, g11, g12, g13, g14, g15, g18, g20⟩
theorem k101_mk (w : World) (x : S101) {A9 : Option Addr} {c9 : Nat} (l9 : x.f6.f3.length ≤ c9) (g9 : kU8.C w A9 x.f6.f3.length x.f6.f3) {A10 : Option Addr} {c10 : Nat} (l10 : x.f6.f4.length ≤ c10) (g10 : kU8.C w A10 x.f6.f4.length x.f6.f4) {A11 : Option Addr} {c11 : Nat} (l11 : x.f7.length ≤ c11) (g11 : kU8.C w A11 x.f7.length x.f7) {A12 : Option Addr} {c12 : Nat} (l12 : x.f8.length ≤ c12) (g12 : kU8.C w A12 x.f8.length x.f8) {A13 : Option Addr} {c13 : Nat} (l13 : x.f9.length ≤ c13) (g13 : (Kd.int .u64).C w A13 x.f9.length x.f9) {A14 : Option Addr} {c14 : Nat} (l14 : x.f10.length ≤ c14) (g14 : k178.C w A14 x.f10.length x.f10) {A15 : Option Addr} {c15 : Nat} (l15 : x.f11.length ≤ c15) (g15 : (Kd.slice 5 kU8).C w A15 x.f11.length x.f11) {A18 : Option Addr} {c18 : Nat} (l18 : x.f12.f2.length ≤ c18) (g18 : k87.C w A18 x.f12.f2.length x.f12.f2) {A20 : Option Addr} {c20 : Nat} (l20 : x.f12.f4.length ≤ c20) (g20 : (Kd.int .i64).C w A20 x.f12.f4.length x.f12.f4) : k101.K w x [.int .u64 x.f0, .int .u64 x.f1, .int .i64 x.f2, .int .u64 x.f3, .int .u64 x.f4, .bool x.f5, .int .u64 x.f6.f0, .int .i64 x.f6.f1, .int .i64 x.f6.f2, .slice A9 x.f6.f3.length c9, .slice A10 x.f6.f4.length c10, .slice A11 x.f7.length c11, .slice A12 x.f8.length c12, .slice A13 x.f9.length c13, .slice A14 x.f10.length c14, .slice A15 x.f11.length c15, .int .i64 x.f12.f0, .string x.f12.f1, .slice A18 x.f12.f2.length c18, .int .i64 x.f12.f3, .slice A20 x.f12.f4.length c20] := ⟨[.int .u64 x.f0], [.int .u64 x.f1, .int .i64 x.f2, .int .u64 x.f3, .int .u64 x.f4, .bool x.f5, .int .u64 x.f6.f0, .int .i64 x.f6.f1, .int .i64 x.f6.f2, .slice A9 x.f6.f3.length c9, .slice A10 x.f6.f4.length c10, .slice A11 x.f7.length c11, .slice A12 x.f8.length c12, .slice A13 x.f9.length c13, .slice A14 x.f10.length c14, .slice A15 x.f11.length c15, .int .i64 x.f12.f0, .string x.f12.f1, .slice A18 x.f12.f2.length c18, .int .i64 x.f12.f3, .slice A20 x.f12.f4.length c20], rfl, rfl, ⟨[.int .u64 x.f1], [.int .i64 x.f2, .int .u64 x.f3, .int .u64 x.f4, .bool x.f5, .int .u64 x.f6.f0, .int .i64 x.f6.f1, .int .i64 x.f6.f2, .slice A9 x.f6.f3.length c9, .slice A10 x.f6.f4.length c10, .slice A11 x.f7.length c11, .slice A12 x.f8.length c12, .slice A13 x.f9.length c13, .slice A14 x.f10.length c14, .slice A15 x.f11.length c15, .int .i64 x.f12.f0, .string x.f12.f1, .slice A18 x.f12.f2.length c18, .int .i64 x.f12.f3, .slice A20 x.f12.f4.length c20], rfl, rfl, ⟨[.int .i64 x.f2], [.int .u64 x.f3, .int .u64 x.f4, .bool x.f5, .int .u64 x.f6.f0, .int .i64 x.f6.f1, .int .i64 x.f6.f2, .slice A9 x.f6.f3.length c9, .slice A10 x.f6.f4.length c10, .slice A11 x.f7.length c11, .slice A12 x.f8.length c12, .slice A13 x.f9.length c13, .slice A14 x.f10.length c14, .slice A15 x.f11.length c15, .int .i64 x.f12.f0, .string x.f12.f1, .slice A18 x.f12.f2.length c18, .int .i64 x.f12.f3, .slice A20 x.f12.f4.length c20], rfl, rfl, ⟨[.int .u64 x.f3], [.int .u64 x.f4, .bool x.f5, .int .u64 x.f6.f0, .int .i64 x.f6.f1, .int .i64 x.f6.f2, .slice A9 x.f6.f3.length c9, .slice A10 x.f6.f4.length c10, .slice A11 x.f7.length c11, .slice A12 x.f8.length c12, .slice A13 x.f9.length c13, .slice A14 x.f10.length c14, .slice A15 x.f11.length c15, .int .i64 x.f12.f0, .string x.f12.f1, .slice A18 x.f12.f2.length c18, .int .i64 x.f12.f3, .slice A20 x.f12.f4.length c20], rfl, rfl, ⟨[.int .u64 x.f4], [.bool x.f5, .int .u64 x.f6.f0, .int .i64 x.f6.f1, .int .i64 x.f6.f2, .slice A9 x.f6.f3.length c9, .slice A10 x.f6.f4.length c10, .slice A11 x.f7.length c11, .slice A12 x.f8.length c12, .slice A13 x.f9.length c13, .slice A14 x.f10.length c14, .slice A15 x.f11.length c15, .int .i64 x.f12.f0, .string x.f12.f1, .slice A18 x.f12.f2.length c18, .int .i64 x.f12.f3, .slice A20 x.f12.f4.length c20], rfl, rfl, ⟨[.bool x.f5], [.int .u64 x.f6.f0, .int .i64 x.f6.f1, .int .i64 x.f6.f2, .slice A9 x.f6.f3.length c9, .slice A10 x.f6.f4.length c10, .slice A11 x.f7.length c11, .slice A12 x.f8.length c12, .slice A13 x.f9.length c13, .slice A14 x.f10.length c14, .slice A15 x.f11.length c15, .int .i64 x.f12.f0, .string x.f12.f1, .slice A18 x.f12.f2.length c18, .int .i64 x.f12.f3, .slice A20 x.f12.f4.length c20], rfl, rfl, ⟨[.int .u64 x.f6.f0, .int .i64 x.f6.f1, .int .i64 x.f6.f2, .slice A9 x.f6.f3.length c9, .slice A10 x.f6.f4.length c10], [.slice A11 x.f7.length c11, .slice A12 x.f8.length c12, .slice A13 x.f9.length c13, .slice A14 x.f10.length c14, .slice A15 x.f11.length c15, .int .i64 x.f12.f0, .string x.f12.f1, .slice A18 x.f12.f2.length c18, .int .i64 x.f12.f3, .slice A20 x.f12.f4.length c20], rfl, (k49_mk w x.f6 l9 g9 l10 g10), ⟨[.slice A11 x.f7.length c11], [.slice A12 x.f8.length c12, .slice A13 x.f9.length c13, .slice A14 x.f10.length c14, .slice A15 x.f11.length c15, .int .i64 x.f12.f0, .string x.f12.f1, .slice A18 x.f12.f2.length c18, .int .i64 x.f12.f3, .slice A20 x.f12.f4.length c20], rfl, ⟨A11, c11, rfl, l11, g11⟩, ⟨[.slice A12 x.f8.length c12], [.slice A13 x.f9.length c13, .slice A14 x.f10.length c14, .slice A15 x.f11.length c15, .int .i64 x.f12.f0, .string x.f12.f1, .slice A18 x.f12.f2.length c18, .int .i64 x.f12.f3, .slice A20 x.f12.f4.length c20], rfl, ⟨A12, c12, rfl, l12, g12⟩, ⟨[.slice A13 x.f9.length c13], [.slice A14 x.f10.length c14, .slice A15 x.f11.length c15, .int .i64 x.f12.f0, .string x.f12.f1, .slice A18 x.f12.f2.length c18, .int .i64 x.f12.f3, .slice A20 x.f12.f4.length c20], rfl, ⟨A13, c13, rfl, l13, g13⟩, ⟨[.slice A14 x.f10.length c14], [.slice A15 x.f11.length c15, .int .i64 x.f12.f0, .string x.f12.f1, .slice A18 x.f12.f2.length c18, .int .i64 x.f12.f3, .slice A20 x.f12.f4.length c20], rfl, ⟨A14, c14, rfl, l14, g14⟩, ⟨[.slice A15 x.f11.length c15], [.int .i64 x.f12.f0, .string x.f12.f1, .slice A18 x.f12.f2.length c18, .int .i64 x.f12.f3, .slice A20 x.f12.f4.length c20], rfl, ⟨A15, c15, rfl, l15, g15⟩, (k25_mk w x.f12 l18 g18 l20 g20)⟩⟩⟩⟩⟩⟩⟩⟩⟩⟩⟩⟩
theorem k101_mkM (w : World) (base : Nat) (ok : Nat → Prop) (x : S101) {v9 : Value} (g9 : kU8.R 5 w base ok v9 x.f6.f3) {v10 : Value} (g10 : kU8.R 5 w base ok v10 x.f6.f4) {v11 : Value} (g11 : kU8.R 5 w base ok v11 x.f7) {v12 : Value} (g12 : kU8.R 5 w base ok v12 x.f8) {v13 : Value} (g13 : (Kd.int .u64).R 47 w base ok v13 x.f9) {v14 : Value} (g14 : k178.R 178 w base ok v14 x.f10) {v15 : Value} (g15 : (Kd.slice 5 kU8).R 34 w base ok v15 x.f11) {v18 : Value} (g18 : k87.R 87 w base ok v18 x.f12.f2) {v20 : Value} (g20 : (Kd.int .i64).R 3 w base ok v20 x.f12.f4) : k101.M w base ok x [.int .u64 x.f0, .int .u64 x.f1, .int .i64 x.f2, .int .u64 x.f3, .int .u64 x.f4, .bool x.f5, .int .u64 x.f6.f0, .int .i64 x.f6.f1, .int .i64 x.f6.f2, v9, v10, v11, v12, v13, v14, v15, .int .i64 x.f12.f0, .string x.f12.f1, v18, .int .i64 x.f12.f3, v20] := ⟨[.int .u64 x.f0], [.int .u64 x.f1, .int .i64 x.f2, .int .u64 x.f3, .int .u64 x.f4, .bool x.f5, .int .u64 x.f6.f0, .int .i64 x.f6.f1, .int .i64 x.f6.f2, v9, v10, v11, v12, v13, v14, v15, .int .i64 x.f12.f0, .string x.f12.f1, v18, .int .i64 x.f12.f3, v20], rfl, rfl, ⟨[.int .u64 x.f1], [.int .i64 x.f2, .int .u64 x.f3, .int .u64 x.f4, .bool x.f5, .int .u64 x.f6.f0, .int .i64 x.f6.f1, .int .i64 x.f6.f2, v9, v10, v11, v12, v13, v14, v15, .int .i64 x.f12.f0, .string x.f12.f1, v18, .int .i64 x.f12.f3, v20], rfl, rfl, ⟨[.int .i64 x.f2], [.int .u64 x.f3, .int .u64 x.f4, .bool x.f5, .int .u64 x.f6.f0, .int .i64 x.f6.f1, .int .i64 x.f6.f2, v9, v10, v11, v12, v13, v14, v15, .int .i64 x.f12.f0, .string x.f12.f1, v18, .int .i64 x.f12.f3, v20], rfl, rfl, ⟨[.int .u64 x.f3], [.int .u64 x.f4, .bool x.f5, .int .u64 x.f6.f0, .int .i64 x.f6.f1, .int .i64 x.f6.f2, v9, v10, v11, v12, v13, v14, v15, .int .i64 x.f12.f0, .string x.f12.f1, v18, .int .i64 x.f12.f3, v20], rfl, rfl, ⟨[.int .u64 x.f4], [.bool x.f5, .int .u64 x.f6.f0, .int .i64 x.f6.f1, .int .i64 x.f6.f2, v9, v10, v11, v12, v13, v14, v15, .int .i64 x.f12.f0, .string x.f12.f1, v18, .int .i64 x.f12.f3, v20], rfl, rfl, ⟨[.bool x.f5], [.int .u64 x.f6.f0, .int .i64 x.f6.f1, .int .i64 x.f6.f2, v9, v10, v11, v12, v13, v14, v15, .int .i64 x.f12.f0, .string x.f12.f1, v18, .int .i64 x.f12.f3, v20], rfl, rfl, ⟨[.int .u64 x.f6.f0, .int .i64 x.f6.f1, .int .i64 x.f6.f2, v9, v10], [v11, v12, v13, v14, v15, .int .i64 x.f12.f0, .string x.f12.f1, v18, .int .i64 x.f12.f3, v20], rfl, (k49_mkM w base ok x.f6 g9 g10), ⟨[v11], [v12, v13, v14, v15, .int .i64 x.f12.f0, .string x.f12.f1, v18, .int .i64 x.f12.f3, v20], rfl, ⟨v11, rfl, g11⟩, ⟨[v12], [v13, v14, v15, .int .i64 x.f12.f0, .string x.f12.f1, v18, .int .i64 x.f12.f3, v20], rfl, ⟨v12, rfl, g12⟩, ⟨[v13], [v14, v15, .int .i64 x.f12.f0, .string x.f12.f1, v18, .int .i64 x.f12.f3, v20], rfl, ⟨v13, rfl, g13⟩, ⟨[v14], [v15, .int .i64 x.f12.f0, .string x.f12.f1, v18, .int .i64 x.f12.f3, v20], rfl, ⟨v14, rfl, g14⟩, ⟨[v15], [.int .i64 x.f12.f0, .string x.f12.f1, v18, .int .i64 x.f12.f3, v20], rfl, ⟨v15, rfl, g15⟩, (k25_mkM w base ok x.f12 g18 g20)⟩⟩⟩⟩⟩⟩⟩⟩⟩⟩⟩⟩
theorem k101_openF {W : World} {ok : Nat → Prop} {x : S101} {cs : List Value} (h : Kd.FK k101 W ok x cs) : ∃ A9 c9 A10 c10 A11 c11 A12 c12 A13 c13 A14 c14 A15 c15 A18 c18 A20 c20, cs = [.int .u64 x.f0, .int .u64 x.f1, .int .i64 x.f2, .int .u64 x.f3, .int .u64 x.f4, .bool x.f5, .int .u64 x.f6.f0, .int .i64 x.f6.f1, .int .i64 x.f6.f2, .slice A9 x.f6.f3.length c9, .slice A10 x.f6.f4.length c10, .slice A11 x.f7.length c11, .slice A12 x.f8.length c12, .slice A13 x.f9.length c13, .slice A14 x.f10.length c14, .slice A15 x.f11.length c15, .int .i64 x.f12.f0, .string x.f12.f1, .slice A18 x.f12.f2.length c18, .int .i64 x.f12.f3, .slice A20 x.f12.f4.length c20] ∧ x.f6.f3.length ≤ c9 ∧ Kd.F kU8 W ok A9 x.f6.f3.length x.f6.f3 ∧ x.f6.f4.length ≤ c10 ∧ Kd.F kU8 W ok A10 x.f6.f4.length x.f6.f4 ∧ x.f7.length ≤ c11 ∧ Kd.F kU8 W ok A11 x.f7.length x.f7 ∧ x.f8.length ≤ c12 ∧ Kd.F kU8 W ok A12 x.f8.length x.f8 ∧ x.f9.length ≤ c13 ∧ Kd.F (Kd.int .u64) W ok A13 x.f9.length x.f9 ∧ x.f10.length ≤ c14 ∧ Kd.F k178 W ok A14 x.f10.length x.f10 ∧ x.f11.length ≤ c15 ∧ Kd.F (Kd.slice 5 kU8) W ok A15 x.f11.length x.f11 ∧ x.f12.f2.length ≤ c18 ∧ Kd.F k87 W ok A18 x.f12.f2.length x.f12.f2 ∧ x.f12.f4.length ≤ c20 ∧ Kd.F (Kd.int .i64) W ok A20 x.f12.f4.length x.f12.f4 := by
  obtain ⟨A9, c9, A10, c10, A11, c11, A12, c12, A13, c13, A14, c14, A15, c15, A18, c18, A20, c20, rfl, l9, _, l10, _, l11, _, l12, _, l13, _, l14, _, l15, _, l18, _, l20, _⟩ := k101_open (Kd.FK_now h)
  exact ⟨A9, c9, A10, c10, A11, c11, A12, c12, A13, c13, A14, c14, A15, c15, A18, c18, A20, c20, rfl, l9, (fun W' hW => by obtain ⟨A9_, c9_, A10_, c10_, A11_, c11_, A12_, c12_, A13_, c13_, A14_, c14_, A15_, c15_, A18_, c18_, A20_, c20_, he, l9_, g9_, l10_, g10_, l11_, g11_, l12_, g12_, l13_, g13_, l14_, g14_, l15_, g15_, l18_, g18_, l20_, g20_⟩ := k101_open (h W' hW); injection (Option.some.inj (show some (Value.slice A9 x.f6.f3.length c9) = some (Value.slice A9_ x.f6.f3.length c9_) from congrArg (fun l => l[9]?) he)) with ha_ _ _; rw [ha_]; exact g9_), l10, (fun W' hW => by obtain ⟨A9_, c9_, A10_, c10_, A11_, c11_, A12_, c12_, A13_, c13_, A14_, c14_, A15_, c15_, A18_, c18_, A20_, c20_, he, l9_, g9_, l10_, g10_, l11_, g11_, l12_, g12_, l13_, g13_, l14_, g14_, l15_, g15_, l18_, g18_, l20_, g20_⟩ := k101_open (h W' hW); injection (Option.some.inj (show some (Value.slice A10 x.f6.f4.length c10) = some (Value.slice A10_ x.f6.f4.length c10_) from congrArg (fun l => l[10]?) he)) with ha_ _ _; rw [ha_]; exact g10_), l11, (fun W' hW => by obtain ⟨A9_, c9_, A10_, c10_, A11_, c11_, A12_, c12_, A13_, c13_, A14_, c14_, A15_, c15_, A18_, c18_, A20_, c20_, he, l9_, g9_, l10_, g10_, l11_, g11_, l12_, g12_, l13_, g13_, l14_, g14_, l15_, g15_, l18_, g18_, l20_, g20_⟩ := k101_open (h W' hW); injection (Option.some.inj (show some (Value.slice A11 x.f7.length c11) = some (Value.slice A11_ x.f7.length c11_) from congrArg (fun l => l[11]?) he)) with ha_ _ _; rw [ha_]; exact g11_), l12, (fun W' hW => by obtain ⟨A9_, c9_, A10_, c10_, A11_, c11_, A12_, c12_, A13_, c13_, A14_, c14_, A15_, c15_, A18_, c18_, A20_, c20_, he, l9_, g9_, l10_, g10_, l11_, g11_, l12_, g12_, l13_, g13_, l14_, g14_, l15_, g15_, l18_, g18_, l20_, g20_⟩ := k101_open (h W' hW); injection (Option.some.inj (show some (Value.slice A12 x.f8.length c12) = some (Value.slice A12_ x.f8.length c12_) from congrArg (fun l => l[12]?) he)) with ha_ _ _; rw [ha_]; exact g12_), l13, (fun W' hW => by obtain ⟨A9_, c9_, A10_, c10_, A11_, c11_, A12_, c12_, A13_, c13_, A14_, c14_, A15_, c15_, A18_, c18_, A20_, c20_, he, l9_, g9_, l10_, g10_, l11_, g11_, l12_, g12_, l13_, g13_, l14_, g14_, l15_, g15_, l18_, g18_, l20_, g20_⟩ := k101_open (h W' hW); injection (Option.some.inj (show some (Value.slice A13 x.f9.length c13) = some (Value.slice A13_ x.f9.length c13_) from congrArg (fun l => l[13]?) he)) with ha_ _ _; rw [ha_]; exact g13_), l14, (fun W' hW => by obtain ⟨A9_, c9_, A10_, c10_, A11_, c11_, A12_, c12_, A13_, c13_, A14_, c14_, A15_, c15_, A18_, c18_, A20_, c20_, he, l9_, g9_, l10_, g10_, l11_, g11_, l12_, g12_, l13_, g13_, l14_, g14_, l15_, g15_, l18_, g18_, l20_, g20_⟩ := k101_open (h W' hW); injection (Option.some.inj (show some (Value.slice A14 x.f10.length c14) = some (Value.slice A14_ x.f10.length c14_) from congrArg (fun l => l[14]?) he)) with ha_ _ _; rw [ha_]; exact g14_), l15, (fun W' hW => by obtain ⟨A9_, c9_, A10_, c10_, A11_, c11_, A12_, c12_, A13_, c13_, A14_, c14_, A15_, c15_, A18_, c18_, A20_, c20_, he, l9_, g9_, l10_, g10_, l11_, g11_, l12_, g12_, l13_, g13_, l14_, g14_, l15_, g15_, l18_, g18_, l20_, g20_⟩ := k101_open (h W' hW); injection (Option.some.inj (show some (Value.slice A15 x.f11.length c15) = some (Value.slice A15_ x.f11.length c15_) from congrArg (fun l => l[15]?) he)) with ha_ _ _; rw [ha_]; exact g15_), l18, (fun W' hW => by obtain ⟨A9_, c9_, A10_, c10_, A11_, c11_, A12_, c12_, A13_, c13_, A14_, c14_, A15_, c15_, A18_, c18_, A20_, c20_, he, l9_, g9_, l10_, g10_, l11_, g11_, l12_, g12_, l13_, g13_, l14_, g14_, l15_, g15_, l18_, g18_, l20_, g20_⟩ := k101_open (h W' hW); injection (Option.some.inj (show some (Value.slice A18 x.f12.f2.length c18) = some (Value.slice A18_ x.f12.f2.length c18_) from congrArg (fun l => l[18]?) he)) with ha_ _ _; rw [ha_]; exact g18_), l20, (fun W' hW => by obtain ⟨A9_, c9_, A10_, c10_, A11_, c11_, A12_, c12_, A13_, c13_, A14_, c14_, A15_, c15_, A18_, c18_, A20_, c20_, he, l9_, g9_, l10_, g10_, l11_, g11_, l12_, g12_, l13_, g13_, l14_, g14_, l15_, g15_, l18_, g18_, l20_, g20_⟩ := k101_open (h W' hW); injection (Option.some.inj (show some (Value.slice A20 x.f12.f4.length c20) = some (Value.slice A20_ x.f12.f4.length c20_) from congrArg (fun l => l[20]?) he)) with ha_ _ _; rw [ha_]; exact g20_)⟩
theorem k101_mkF (W : World) (ok : Nat → Prop) (x : S101) {A9 : Option Addr} {c9 : Nat} (l9 : x.f6.f3.length ≤ c9) (g9 : Kd.F kU8 W ok A9 x.f6.f3.length x.f6.f3) {A10 : Option Addr} {c10 : Nat} (l10 : x.f6.f4.length ≤ c10) (g10 : Kd.F kU8 W ok A10 x.f6.f4.length x.f6.f4) {A11 : Option Addr} {c11 : Nat} (l11 : x.f7.length ≤ c11) (g11 : Kd.F kU8 W ok A11 x.f7.length x.f7) {A12 : Option Addr} {c12 : Nat} (l12 : x.f8.length ≤ c12) (g12 : Kd.F kU8 W ok A12 x.f8.length x.f8) {A13 : Option Addr} {c13 : Nat} (l13 : x.f9.length ≤ c13) (g13 : Kd.F (Kd.int .u64) W ok A13 x.f9.length x.f9) {A14 : Option Addr} {c14 : Nat} (l14 : x.f10.length ≤ c14) (g14 : Kd.F k178 W ok A14 x.f10.length x.f10) {A15 : Option Addr} {c15 : Nat} (l15 : x.f11.length ≤ c15) (g15 : Kd.F (Kd.slice 5 kU8) W ok A15 x.f11.length x.f11) {A18 : Option Addr} {c18 : Nat} (l18 : x.f12.f2.length ≤ c18) (g18 : Kd.F k87 W ok A18 x.f12.f2.length x.f12.f2) {A20 : Option Addr} {c20 : Nat} (l20 : x.f12.f4.length ≤ c20) (g20 : Kd.F (Kd.int .i64) W ok A20 x.f12.f4.length x.f12.f4) : Kd.FK k101 W ok x [.int .u64 x.f0, .int .u64 x.f1, .int .i64 x.f2, .int .u64 x.f3, .int .u64 x.f4, .bool x.f5, .int .u64 x.f6.f0, .int .i64 x.f6.f1, .int .i64 x.f6.f2, .slice A9 x.f6.f3.length c9, .slice A10 x.f6.f4.length c10, .slice A11 x.f7.length c11, .slice A12 x.f8.length c12, .slice A13 x.f9.length c13, .slice A14 x.f10.length c14, .slice A15 x.f11.length c15, .int .i64 x.f12.f0, .string x.f12.f1, .slice A18 x.f12.f2.length c18, .int .i64 x.f12.f3, .slice A20 x.f12.f4.length c20] := fun W2 hW => k101_mk W2 x l9 (g9 W2 hW) l10 (g10 W2 hW) l11 (g11 W2 hW) l12 (g12 W2 hW) l13 (g13 W2 hW) l14 (g14 W2 hW) l15 (g15 W2 hW) l18 (g18 W2 hW) l20 (g20 W2 hW)
def rd_T101 (xs : List S101) (i : Int) : S101 := xs.getD i.toNat z101
theorem at_T101 {w : World} {A : Option Addr} {n : Nat} {xs : List S101} (h : Kd.C k101 w A n xs) (i : Int) (h0 : 0 ≤ i) (h1 : i < n) : ∃ ad A9 c9 A10 c10 A11 c11 A12 c12 A13 c13 A14 c14 A15 c15 A18 c18 A20 c20, A = some ad ∧ w.cell? (ad.add (i.toNat * 21)) = some (.int .u64 (rd_T101 xs i).f0) ∧ w.cell? ⟨(ad.add (i.toNat * 21)).block, (ad.add (i.toNat * 21)).off + 1, none⟩ = some (.int .u64 (rd_T101 xs i).f1) ∧ w.cell? ⟨(ad.add (i.toNat * 21)).block, (ad.add (i.toNat * 21)).off + 2, none⟩ = some (.int .i64 (rd_T101 xs i).f2) ∧ w.cell? ⟨(ad.add (i.toNat * 21)).block, (ad.add (i.toNat * 21)).off + 3, none⟩ = some (.int .u64 (rd_T101 xs i).f3) ∧ w.cell? ⟨(ad.add (i.toNat * 21)).block, (ad.add (i.toNat * 21)).off + 4, none⟩ = some (.int .u64 (rd_T101 xs i).f4) ∧ w.cell? ⟨(ad.add (i.toNat * 21)).block, (ad.add (i.toNat * 21)).off + 5, none⟩ = some (.bool (rd_T101 xs i).f5) ∧ w.cell? ⟨(ad.add (i.toNat * 21)).block, (ad.add (i.toNat * 21)).off + 6, none⟩ = some (.int .u64 (rd_T101 xs i).f6.f0) ∧ w.cell? ⟨(ad.add (i.toNat * 21)).block, (ad.add (i.toNat * 21)).off + 7, none⟩ = some (.int .i64 (rd_T101 xs i).f6.f1) ∧ w.cell? ⟨(ad.add (i.toNat * 21)).block, (ad.add (i.toNat * 21)).off + 8, none⟩ = some (.int .i64 (rd_T101 xs i).f6.f2) ∧ w.cell? ⟨(ad.add (i.toNat * 21)).block, (ad.add (i.toNat * 21)).off + 9, none⟩ = some (.slice A9 (rd_T101 xs i).f6.f3.length c9) ∧ w.cell? ⟨(ad.add (i.toNat * 21)).block, (ad.add (i.toNat * 21)).off + 10, none⟩ = some (.slice A10 (rd_T101 xs i).f6.f4.length c10) ∧ w.cell? ⟨(ad.add (i.toNat * 21)).block, (ad.add (i.toNat * 21)).off + 11, none⟩ = some (.slice A11 (rd_T101 xs i).f7.length c11) ∧ w.cell? ⟨(ad.add (i.toNat * 21)).block, (ad.add (i.toNat * 21)).off + 12, none⟩ = some (.slice A12 (rd_T101 xs i).f8.length c12) ∧ w.cell? ⟨(ad.add (i.toNat * 21)).block, (ad.add (i.toNat * 21)).off + 13, none⟩ = some (.slice A13 (rd_T101 xs i).f9.length c13) ∧ w.cell? ⟨(ad.add (i.toNat * 21)).block, (ad.add (i.toNat * 21)).off + 14, none⟩ = some (.slice A14 (rd_T101 xs i).f10.length c14) ∧ w.cell? ⟨(ad.add (i.toNat * 21)).block, (ad.add (i.toNat * 21)).off + 15, none⟩ = some (.slice A15 (rd_T101 xs i).f11.length c15) ∧ w.cell? ⟨(ad.add (i.toNat * 21)).block, (ad.add (i.toNat * 21)).off + 16, none⟩ = some (.int .i64 (rd_T101 xs i).f12.f0) ∧ w.cell? ⟨(ad.add (i.toNat * 21)).block, (ad.add (i.toNat * 21)).off + 17, none⟩ = some (.string (rd_T101 xs i).f12.f1) ∧ w.cell? ⟨(ad.add (i.toNat * 21)).block, (ad.add (i.toNat * 21)).off + 18, none⟩ = some (.slice A18 (rd_T101 xs i).f12.f2.length c18) ∧ w.cell? ⟨(ad.add (i.toNat * 21)).block, (ad.add (i.toNat * 21)).off + 19, none⟩ = some (.int .i64 (rd_T101 xs i).f12.f3) ∧ w.cell? ⟨(ad.add (i.toNat * 21)).block, (ad.add (i.toNat * 21)).off + 20, none⟩ = some (.slice A20 (rd_T101 xs i).f12.f4.length c20) ∧ (rd_T101 xs i).f6.f3.length ≤ c9 ∧ kU8.C w A9 (rd_T101 xs i).f6.f3.length (rd_T101 xs i).f6.f3 ∧ (rd_T101 xs i).f6.f4.length ≤ c10 ∧ kU8.C w A10 (rd_T101 xs i).f6.f4.length (rd_T101 xs i).f6.f4 ∧ (rd_T101 xs i).f7.length ≤ c11 ∧ kU8.C w A11 (rd_T101 xs i).f7.length (rd_T101 xs i).f7 ∧ (rd_T101 xs i).f8.length ≤ c12 ∧ kU8.C w A12 (rd_T101 xs i).f8.length (rd_T101 xs i).f8 ∧ (rd_T101 xs i).f9.length ≤ c13 ∧ (Kd.int .u64).C w A13 (rd_T101 xs i).f9.length (rd_T101 xs i).f9 ∧ (rd_T101 xs i).f10.length ≤ c14 ∧ k178.C w A14 (rd_T101 xs i).f10.length (rd_T101 xs i).f10 ∧ (rd_T101 xs i).f11.length ≤ c15 ∧ (Kd.slice 5 kU8).C w A15 (rd_T101 xs i).f11.length (rd_T101 xs i).f11 ∧ (rd_T101 xs i).f12.f2.length ≤ c18 ∧ k87.C w A18 (rd_T101 xs i).f12.f2.length (rd_T101 xs i).f12.f2 ∧ (rd_T101 xs i).f12.f4.length ≤ c20 ∧ (Kd.int .i64).C w A20 (rd_T101 xs i).f12.f4.length (rd_T101 xs i).f12.f4 := by
  obtain ⟨ad, c, e, _, hK, hc0⟩ := Kd.C_get h z101 i h0 h1
  have hc : ∀ j u, c[j]? = some u → w.cell? (ad.add (i.toNat * 21 + j)) = some u := hc0
  obtain ⟨A9, c9, A10, c10, A11, c11, A12, c12, A13, c13, A14, c14, A15, c15, A18, c18, A20, c20, rfl, l9, g9, l10, g10, l11, g11, l12, g12, l13, g13, l14, g14, l15, g15, l18, g18, l20, g20⟩ := k101_open hK
  exact ⟨ad, A9, c9, A10, c10, A11, c11, A12, c12, A13, c13, A14, c14, A15, c15, A18, c18, A20, c20, e, hc 0 _ rfl, by rw [← add_field _ _ 1 (by omega)]; exact hc 1 _ rfl, by rw [← add_field _ _ 2 (by omega)]; exact hc 2 _ rfl, by rw [← add_field _ _ 3 (by omega)]; exact hc 3 _ rfl, by rw [← add_field _ _ 4 (by omega)]; exact hc 4 _ rfl, by rw [← add_field _ _ 5 (by omega)]; exact hc 5 _ rfl, by rw [← add_field _ _ 6 (by omega)]; exact hc 6 _ rfl, by rw [← add_field _ _ 7 (by omega)]; exact hc 7 _ rfl, by rw [← add_field _ _ 8 (by omega)]; exact hc 8 _ rfl, by rw [← add_field _ _ 9 (by omega)]; exact hc 9 _ rfl, by rw [← add_field _ _ 10 (by omega)]; exact hc 10 _ rfl, by rw [← add_field _ _ 11 (by omega)]; exact hc 11 _ rfl, by rw [← add_field _ _ 12 (by omega)]; exact hc 12 _ rfl, by rw [← add_field _ _ 13 (by omega)]; exact hc 13 _ rfl, by rw [← add_field _ _ 14 (by omega)]; exact hc 14 _ rfl, by rw [← add_field _ _ 15 (by omega)]; exact hc 15 _ rfl, by rw [← add_field _ _ 16 (by omega)]; exact hc 16 _ rfl, by rw [← add_field _ _ 17 (by omega)]; exact hc 17 _ rfl, by rw [← add_field _ _ 18 (by omega)]; exact hc 18 _ rfl, by rw [← add_field _ _ 19 (by omega)]; exact hc 19 _ rfl, by rw [← add_field _ _ 20 (by omega)]; exact hc 20 _ rfl, l9, g9, l10, g10, l11, g11, l12, g12, l13, g13, l14, g14, l15, g15, l18, g18, l20, g20⟩

def rd_L36 (xs : List (List S101)) (i : Int) : (List S101) := xs.getD i.toNat ([] : List S101)
theorem at_L36 {w : World} {A : Option Addr} {n : Nat} {xs : List (List S101)} (h : Kd.C (Kd.slice 101 k101) w A n xs) (i : Int) (h0 : 0 ≤ i) (h1 : i < n) : ∃ ad A0 c0, A = some ad ∧ w.cell? (ad.add i.toNat) = some (.slice A0 (rd_L36 xs i).length c0) ∧ (rd_L36 xs i).length ≤ c0 ∧ k101.C w A0 (rd_L36 xs i).length (rd_L36 xs i) := by
  obtain ⟨ad, c, e, _, hK, hc0⟩ := Kd.C_get h ([] : List S101) i h0 h1
  have hc : ∀ j u, c[j]? = some u → w.cell? (ad.add (i.toNat * 1 + j)) = some u := hc0
  obtain ⟨A0, c0, rfl, l0, g0⟩ := hK
  exact ⟨ad, A0, c0, e, by have hq := hc 0 _ rfl; rwa [Nat.mul_one, Nat.add_zero] at hq, l0, g0⟩

/-! #### struct type 105 -/
structure S105 where
  f0 : Int
  f1 : Int
  f2 : Int
  f3 : Bool
  f4 : (List S108)
  f5 : (List S196)
  f6 : (List S25)
def z105 : S105 := ⟨(0 : Int), (0 : Int), (0 : Int), false, ([] : List S108), ([] : List S196), ([] : List S25)⟩
def k105 : Kd S105 := Kd.iso (Kd.pair (Kd.int .i64) (Kd.pair (Kd.int .u64) (Kd.pair (Kd.int .u64) (Kd.pair Kd.bool (Kd.pair (Kd.slice 108 k108) (Kd.pair (Kd.slice 196 k196) (Kd.slice 25 k25))))))) (fun x : S105 => (x.f0, x.f1, x.f2, x.f3, x.f4, x.f5, x.f6))
theorem k105_heap : Kd.Heap k105 := Kd.heap_iso _ (Kd.heap_pair (Kd.heap_int .i64) (Kd.heap_pair (Kd.heap_int .u64) (Kd.heap_pair (Kd.heap_int .u64) (Kd.heap_pair Kd.heap_bool (Kd.heap_pair (Kd.heap_slice 108 k108_heap) (Kd.heap_pair (Kd.heap_slice 196 k196_heap) (Kd.heap_slice 25 k25_heap)))))))
theorem k105_open {w : World} {x : S105} {cs : List Value} (h : k105.K w x cs) : ∃ A4 c4 A5 c5 A6 c6, cs = [.int .i64 x.f0, .int .u64 x.f1, .int .u64 x.f2, .bool x.f3, .slice A4 x.f4.length c4, .slice A5 x.f5.length c5, .slice A6 x.f6.length c6] ∧ x.f4.length ≤ c4 ∧ k108.C w A4 x.f4.length x.f4 ∧ x.f5.length ≤ c5 ∧ k196.C w A5 x.f5.length x.f5 ∧ x.f6.length ≤ c6 ∧ k25.C w A6 x.f6.length x.f6 := by
  obtain ⟨_, _, rfl, rfl, ⟨_, _, rfl, rfl, ⟨_, _, rfl, rfl, ⟨_, _, rfl, rfl, ⟨_, _, rfl, ⟨A4, c4, rfl, l4, g4⟩, ⟨_, _, rfl, ⟨A5, c5, rfl, l5, g5⟩, ⟨A6, c6, rfl, l6, g6⟩⟩⟩⟩⟩⟩⟩ := h
  exact ⟨A4, c4, A5, c5, A6, c6, rfl, l4, g4, l5, g5, l6, g6⟩
theorem k105_openM {w : World} {base : Nat} {ok : Nat → Prop} {x : S105} {cs : List Value} (h : k105.M w base ok x cs) : ∃ v4 v5 v6, cs = [.int .i64 x.f0, .int .u64 x.f1, .int .u64 x.f2, .bool x.f3, v4, v5, v6] ∧ k108.R 108 w base ok v4 x.f4 ∧ k196.R 196 w base ok v5 x.f5 ∧ k25.R 25 w base ok v6 x.f6 := by
  obtain ⟨_, _, rfl, rfl, ⟨_, _, rfl, rfl, ⟨_, _, rfl, rfl, ⟨_, _, rfl, rfl, ⟨_, _, rfl, ⟨v4, rfl, g4⟩, ⟨_, _, rfl, ⟨v5, rfl, g5⟩, ⟨v6, rfl, g6⟩⟩⟩⟩⟩⟩⟩ := h
  exact ⟨v4, v5, v6, rfl, g4, g5, g6⟩
theorem k105_mk (w : World) (x : S105) {A4 : Option Addr} {c4 : Nat} (l4 : x.f4.length ≤ c4) (g4 : k108.C w A4 x.f4.length x.f4) {A5 : Option Addr} {c5 : Nat} (l5 : x.f5.length ≤ c5) (g5 : k196.C w A5 x.f5.length x.f5) {A6 : Option Addr} {c6 : Nat} (l6 : x.f6.length ≤ c6) (g6 : k25.C w A6 x.f6.length x.f6) : k105.K w x [.int .i64 x.f0, .int .u64 x.f1, .int .u64 x.f2, .bool x.f3, .slice A4 x.f4.length c4, .slice A5 x.f5.length c5, .slice A6 x.f6.length c6] := ⟨[.int .i64 x.f0], [.int .u64 x.f1, .int .u64 x.f2, .bool x.f3, .slice A4 x.f4.length c4, .slice A5 x.f5.length c5, .slice A6 x.f6.length c6], rfl, rfl, ⟨[.int .u64 x.f1], [.int .u64 x.f2, .bool x.f3, .slice A4 x.f4.length c4, .slice A5 x.f5.length c5, .slice A6 x.f6.length c6], rfl, rfl, ⟨[.int .u64 x.f2], [.bool x.f3, .slice A4 x.f4.length c4, .slice A5 x.f5.length c5, .slice A6 x.f6.length c6], rfl, rfl, ⟨[.bool x.f3], [.slice A4 x.f4.length c4, .slice A5 x.f5.length c5, .slice A6 x.f6.length c6], rfl, rfl, ⟨[.slice A4 x.f4.length c4], [.slice A5 x.f5.length c5, .slice A6 x.f6.length c6], rfl, ⟨A4, c4, rfl, l4, g4⟩, ⟨[.slice A5 x.f5.length c5], [.slice A6 x.f6.length c6], rfl, ⟨A5, c5, rfl, l5, g5⟩, ⟨A6, c6, rfl, l6, g6⟩⟩⟩⟩⟩⟩⟩
theorem k105_mkM (w : World) (base : Nat) (ok : Nat → Prop) (x : S105) {v4 : Value} (g4 : k108.R 108 w base ok v4 x.f4) {v5 : Value} (g5 : k196.R 196 w base ok v5 x.f5) {v6 : Value} (g6 : k25.R 25 w base ok v6 x.f6) : k105.M w base ok x [.int .i64 x.f0, .int .u64 x.f1, .int .u64 x.f2, .bool x.f3, v4, v5, v6] := ⟨[.int .i64 x.f0], [.int .u64 x.f1, .int .u64 x.f2, .bool x.f3, v4, v5, v6], rfl, rfl, ⟨[.int .u64 x.f1], [.int .u64 x.f2, .bool x.f3, v4, v5, v6], rfl, rfl, ⟨[.int .u64 x.f2], [.bool x.f3, v4, v5, v6], rfl, rfl, ⟨[.bool x.f3], [v4, v5, v6], rfl, rfl, ⟨[v4], [v5, v6], rfl, ⟨v4, rfl, g4⟩, ⟨[v5], [v6], rfl, ⟨v5, rfl, g5⟩, ⟨v6, rfl, g6⟩⟩⟩⟩⟩⟩⟩
theorem k105_openF {W : World} {ok : Nat → Prop} {x : S105} {cs : List Value} (h : Kd.FK k105 W ok x cs) : ∃ A4 c4 A5 c5 A6 c6, cs = [.int .i64 x.f0, .int .u64 x.f1, .int .u64 x.f2, .bool x.f3, .slice A4 x.f4.length c4, .slice A5 x.f5.length c5, .slice A6 x.f6.length c6] ∧ x.f4.length ≤ c4 ∧ Kd.F k108 W ok A4 x.f4.length x.f4 ∧ x.f5.length ≤ c5 ∧ Kd.F k196 W ok A5 x.f5.length x.f5 ∧ x.f6.length ≤ c6 ∧ Kd.F k25 W ok A6 x.f6.length x.f6 := by
  obtain ⟨A4, c4, A5, c5, A6, c6, rfl, l4, _, l5, _, l6, _⟩ := k105_open (Kd.FK_now h)
  exact ⟨A4, c4, A5, c5, A6, c6, rfl, l4, (fun W' hW => by obtain ⟨A4_, c4_, A5_, c5_, A6_, c6_, he, l4_, g4_, l5_, g5_, l6_, g6_⟩ := k105_open (h W' hW); injection (Option.some.inj (show some (Value.slice A4 x.f4.length c4) = some (Value.slice A4_ x.f4.length c4_) from congrArg (fun l => l[4]?) he)) with ha_ _ _; rw [ha_]; exact g4_), l5, (fun W' hW => by obtain ⟨A4_, c4_, A5_, c5_, A6_, c6_, he, l4_, g4_, l5_, g5_, l6_, g6_⟩ := k105_open (h W' hW); injection (Option.some.inj (show some (Value.slice A5 x.f5.length c5) = some (Value.slice A5_ x.f5.length c5_) from congrArg (fun l => l[5]?) he)) with ha_ _ _; rw [ha_]; exact g5_), l6, (fun W' hW => by obtain ⟨A4_, c4_, A5_, c5_, A6_, c6_, he, l4_, g4_, l5_, g5_, l6_, g6_⟩ := k105_open (h W' hW); injection (Option.some.inj (show some (Value.slice A6 x.f6.length c6) = some (Value.slice A6_ x.f6.length c6_) from congrArg (fun l => l[6]?) he)) with ha_ _ _; rw [ha_]; exact g6_)⟩
theorem k105_mkF (W : World) (ok : Nat → Prop) (x : S105) {A4 : Option Addr} {c4 : Nat} (l4 : x.f4.length ≤ c4) (g4 : Kd.F k108 W ok A4 x.f4.length x.f4) {A5 : Option Addr} {c5 : Nat} (l5 : x.f5.length ≤ c5) (g5 : Kd.F k196 W ok A5 x.f5.length x.f5) {A6 : Option Addr} {c6 : Nat} (l6 : x.f6.length ≤ c6) (g6 : Kd.F k25 W ok A6 x.f6.length x.f6) : Kd.FK k105 W ok x [.int .i64 x.f0, .int .u64 x.f1, .int .u64 x.f2, .bool x.f3, .slice A4 x.f4.length c4, .slice A5 x.f5.length c5, .slice A6 x.f6.length c6] := fun W2 hW => k105_mk W2 x l4 (g4 W2 hW) l5 (g5 W2 hW) l6 (g6 W2 hW)
def rd_T105 (xs : List S105) (i : Int) : S105 := xs.getD i.toNat z105
theorem at_T105 {w : World} {A : Option Addr} {n : Nat} {xs : List S105} (h : Kd.C k105 w A n xs) (i : Int) (h0 : 0 ≤ i) (h1 : i < n) : ∃ ad A4 c4 A5 c5 A6 c6, A = some ad ∧ w.cell? (ad.add (i.toNat * 7)) = some (.int .i64 (rd_T105 xs i).f0) ∧ w.cell? ⟨(ad.add (i.toNat * 7)).block, (ad.add (i.toNat * 7)).off + 1, none⟩ = some (.int .u64 (rd_T105 xs i).f1) ∧ w.cell? ⟨(ad.add (i.toNat * 7)).block, (ad.add (i.toNat * 7)).off + 2, none⟩ = some (.int .u64 (rd_T105 xs i).f2) ∧ w.cell? ⟨(ad.add (i.toNat * 7)).block, (ad.add (i.toNat * 7)).off + 3, none⟩ = some (.bool (rd_T105 xs i).f3) ∧ w.cell? ⟨(ad.add (i.toNat * 7)).block, (ad.add (i.toNat * 7)).off + 4, none⟩ = some (.slice A4 (rd_T105 xs i).f4.length c4) ∧ w.cell? ⟨(ad.add (i.toNat * 7)).block, (ad.add (i.toNat * 7)).off + 5, none⟩ = some (.slice A5 (rd_T105 xs i).f5.length c5) ∧ w.cell? ⟨(ad.add (i.toNat * 7)).block, (ad.add (i.toNat * 7)).off + 6, none⟩ = some (.slice A6 (rd_T105 xs i).f6.length c6) ∧ (rd_T105 xs i).f4.length ≤ c4 ∧ k108.C w A4 (rd_T105 xs i).f4.length (rd_T105 xs i).f4 ∧ (rd_T105 xs i).f5.length ≤ c5 ∧ k196.C w A5 (rd_T105 xs i).f5.length (rd_T105 xs i).f5 ∧ (rd_T105 xs i).f6.length ≤ c6 ∧ k25.C w A6 (rd_T105 xs i).f6.length (rd_T105 xs i).f6 := by
  obtain ⟨ad, c, e, _, hK, hc0⟩ := Kd.C_get h z105 i h0 h1
  have hc : ∀ j u, c[j]? = some u → w.cell? (ad.add (i.toNat * 7 + j)) = some u := hc0
  obtain ⟨A4, c4, A5, c5, A6, c6, rfl, l4, g4, l5, g5, l6, g6⟩ := k105_open hK
  exact ⟨ad, A4, c4, A5, c5, A6, c6, e, hc 0 _ rfl, by rw [← add_field _ _ 1 (by omega)]; exact hc 1 _ rfl, by rw [← add_field _ _ 2 (by omega)]; exact hc 2 _ rfl, by rw [← add_field _ _ 3 (by omega)]; exact hc 3 _ rfl, by rw [← add_field _ _ 4 (by omega)]; exact hc 4 _ rfl, by rw [← add_field _ _ 5 (by omega)]; exact hc 5 _ rfl, by rw [← add_field _ _ 6 (by omega)]; exact hc 6 _ rfl, l4, g4, l5, g5, l6, g6⟩

end Go.Proofs.Ytfneopcbnlfkiaa.Kin
