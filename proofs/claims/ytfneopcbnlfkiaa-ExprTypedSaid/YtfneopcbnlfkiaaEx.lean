/-
What the program's package expr does with values: each call returns what a Lean function says, and turns nothing that was there.
-/
import Derived.Test.YtfneopcbnlfkiaaNum
namespace Go.Proofs.Ytfneopcbnlfkiaa.Ex
open Go.RowKit Go.Proofs.YtfneopcbnlfkiaaW.PrintWords Go.Proofs.Ytfneopcbnlfkiaa.Kin Go.Proofs.Ytfneopcbnlfkiaa.Num
set_option linter.unusedVariables false

abbrev enV (x : S30) : Value := .agg #[.int .i64 x.f0, .int .i64 x.f1, .string x.f2]
theorem ret_V {a b : S30} (h : a = b) : Ending.returned (enV a) = .returned (enV b) := by rw [h]
theorem bcell {W w1 : World} (hb : Below W.heap.size W w1) : (∀ b o, b < W.heap.size → w1.cell? ⟨b, o, none⟩ = W.cell? ⟨b, o, none⟩) ∧ (∀ b o, b < W.heap.size → w1.frozen? ⟨b, o, none⟩ = W.frozen? ⟨b, o, none⟩) :=
  ⟨fun b o h => hb.cell (p := ⟨b, o, none⟩) h, fun b o h => hb.frozen (p := ⟨b, o, none⟩) h⟩

def truthV (b : Bool) : S30 := ⟨1, if b then 1 else 0, ⟨#[]⟩⟩
theorem two_blocks (w : World) (o o' : Obj) : Below w.heap.size w ((w.alloc o).alloc o') := (((Below.refl _ _).alloc (Nat.le_refl _) _).alloc (by simp) _)

set_option maxHeartbeats 400000 in
theorem truth_calls (b : Bool) (w : World) :
    Calls Try.prog 108 #[.bool b] w fun e w' => e = .returned (enV (truthV b)) ∧ Below w.heap.size w w' := by
  have hu := Try.underlying30
  cases b
  · go_enter Try.func108, Try.ntmps108
    go_wp2
    exact bodyPost_ret (v := enV (truthV false)) (by simp [results, Try.results108, go_sem, truthV]) rfl ⟨rfl, two_blocks _ _ _⟩
  · go_enter Try.func108, Try.ntmps108
    go_wp2
    exact bodyPost_ret (v := enV (truthV true)) (by simp [results, Try.results108, go_sem, truthV]) rfl ⟨rfl, two_blocks _ _ _⟩

def whole (x : S30) : S30 := if x.f0 = 1 then x else z30
set_option maxHeartbeats 400000 in
theorem whole_calls (x : S30) (w : World) :
    Calls Try.prog 112 #[enV x] w fun e w' => e = .returned (enV (whole x)) ∧ Below w.heap.size w w' := by
  have hu := Try.underlying30
  obtain ⟨a, b, c⟩ := x
  by_cases h : a = 1
  · subst h
    go_enter Try.func112, Try.ntmps112
    go_wp2
    exact bodyPost_ret (v := enV ⟨1, b, c⟩) (by simp [results, Try.results112, go_sem]) rfl ⟨rfl, two_blocks _ _ _⟩
  · have h1 : (a != 1) = true := by simp [h]
    go_enter Try.func112, Try.ntmps112
    go_wp2
    exact bodyPost_ret (v := enV z30) (by simp [results, Try.results112, go_sem, z30]) rfl ⟨by simp [whole, h], two_blocks _ _ _⟩

def parts (op : Int) : Int := if op = 1 ∨ op = 2 ∨ op = 3 ∨ op = 20 then 0 else if op = 4 ∨ op = 16 ∨ op = 19 ∨ (21 ≤ op ∧ op ≤ 23) then 1 else if 5 ≤ op ∧ op ≤ 18 then 2 else -1
set_option maxHeartbeats 1000000 in
theorem parts_calls (op : Int) (w : World) :
    Calls Try.prog 106 #[.int .i64 op] w fun e w' => e = .returned (.int .i64 (parts op)) ∧ w = w' := by
  go_enter Try.func106, Try.ntmps106
  go_wp2
  all_goals go_ret
  all_goals refine ⟨ret_int ?_, rfl⟩
  all_goals unfold parts
  all_goals (repeat' split) <;> simp_all <;> omega
def sumOp (op : Int) : Bool := decide (20 ≤ op ∧ op ≤ 23)
set_option maxHeartbeats 400000 in
theorem sum_calls (op : Int) (w : World) :
    Calls Try.prog 107 #[.int .i64 op] w fun e w' => e = .returned (.bool (sumOp op)) ∧ w = w' := by
  by_cases h : 20 ≤ op
  all_goals
    go_enter Try.func107, Try.ntmps107
    go_wp2
    go_ret
    exact ⟨ret_bool (by unfold sumOp; simp; omega), rfl⟩
def cmpOp (op : Int) : Bool := decide (10 ≤ op ∧ op ≤ 15)
set_option maxHeartbeats 400000 in
theorem compares_calls (op : Int) (w : World) :
    Calls Try.prog 109 #[.int .i64 op] w fun e w' => e = .returned (.bool (cmpOp op)) ∧ w = w' := by
  by_cases h : 10 ≤ op
  all_goals
    go_enter Try.func109, Try.ntmps109
    go_wp2
    go_ret
    exact ⟨ret_bool (by unfold cmpOp; simp; omega), rfl⟩

def order (x y : S30) : Int := if x.f0 ≠ y.f0 then cmpI x.f0 y.f0 else if x.f0 = 1 then cmpI x.f1 y.f1 else if x.f0 = 2 then Lib.compareBytes x.f2.data.toList y.f2.data.toList else 0
set_option maxHeartbeats 1000000 in
set_option maxRecDepth 100000 in
theorem order_calls (x y : S30) (w : World) :
    Calls Try.prog 217 #[enV x, enV y] w fun e w' => e = .returned (.int .i64 (order x y)) ∧ Below w.heap.size w w' := by
  have hu := Try.underlying30
  obtain ⟨a, b, c⟩ := x
  obtain ⟨a', b', c'⟩ := y
  go_enter Try.func217, Try.ntmps217
  go_wp2_with (first | (go_at_call 234; refine (cmpI_calls _ _ _).mono ?_; rintro e w' ⟨rfl, rfl⟩) | (go_at_call 235; refine (cmpI64_calls _ _ _).mono ?_; rintro e w' ⟨rfl, rfl⟩) | (go_at_call 236; refine (cmpStr_calls _ _ _).mono ?_; rintro e w' ⟨rfl, rfl⟩))
  all_goals go_ret
  all_goals refine ⟨ret_int ?_, two_blocks _ _ _⟩
  all_goals simp_all [order]
def less (x y : S30) : Bool := decide (order x y < 0)
set_option maxHeartbeats 400000 in
theorem less_calls (x y : S30) (w : World) :
    Calls Try.prog 182 #[enV x, enV y] w fun e w' => e = .returned (.bool (less x y)) ∧ Below w.heap.size w w' := by
  have hu := Try.underlying30
  go_enter Try.func182, Try.ntmps182
  go_wp2_with (first | (go_at_call 217; refine (order_calls x y _).mono ?_; rintro e w' ⟨rfl, hb⟩))
  go_ret
  exact ⟨rfl, ((two_blocks _ _ _).trans (hb.mono (by simp; omega)))⟩
theorem three_blocks (w : World) (o o' o'' : Obj) : Below w.heap.size w (((w.alloc o).alloc o').alloc o'') := (two_blocks w o o').alloc (by simp; omega) _
theorem set3 {B b : Nat} {w W : World} (h : Below B w W) (hp : B ≤ b) (u0 u1 u2 : Value) : Below B w (((W.setCell ⟨b, 0, none⟩ u0).setCell ⟨b, 1, none⟩ u1).setCell ⟨b, 2, none⟩ u2) := ((h.setCell hp _).setCell hp _).setCell hp _
def compareV (op : Int) (x y : S30) : S30 :=
  if x.f0 = 0 ∨ y.f0 = 0 then z30 else truthV (if op = 10 then !less x y && !less y x else if op = 11 then less x y || less y x else if op = 12 then less x y else if op = 13 then !less y x else if op = 14 then less y x else !less x y)
set_option maxHeartbeats 1000000 in
set_option maxRecDepth 100000 in
theorem compare_calls (op : Int) (x y : S30) (w : World) :
    Calls Try.prog 110 #[.int .i64 op, enV x, enV y] w fun e w' => e = .returned (enV (compareV op x y)) ∧ Below w.heap.size w w' := by
  have hu := Try.underlying30
  by_cases e0 : x.f0 = 0
  · have e1 : (x.f0 == 0) = true := by simp [e0]
    have HE : Aside0 (x.f0 = 0) := ⟨e0⟩
    clear e0
    go_enter Try.func110, Try.ntmps110
    go_wp2
    exact bodyPost_ret (v := enV z30) (by simp [results, Try.results110, go_sem, z30]) rfl ⟨ret_V (by have := HE.out; simp [compareV, this]), three_blocks _ _ _ _⟩
  by_cases e0' : y.f0 = 0
  · have e1 : (x.f0 == 0) = false := by simp [e0]
    have e2 : (y.f0 == 0) = true := by simp [e0']
    have HE : Aside0 (y.f0 = 0) := ⟨e0'⟩
    clear e0 e0'
    go_enter Try.func110, Try.ntmps110
    go_wp2
    exact bodyPost_ret (v := enV z30) (by simp [results, Try.results110, go_sem, z30]) rfl ⟨ret_V (by have := HE.out; simp [compareV, this]), three_blocks _ _ _ _⟩
  have e1 : (x.f0 == 0) = false := by simp [e0]
  have e2 : (y.f0 == 0) = false := by simp [e0']
  have HE : Aside0 (¬ (x.f0 = 0 ∨ y.f0 = 0)) := ⟨by simp [e0, e0']⟩
  clear e0 e0'
  go_enter Try.func110, Try.ntmps110
  go_wp2_with fail
  go_region_held3 (fun w' => Below w.heap.size w w' ∧ w.heap.size + 2 < w'.heap.size ∧ w'.cell? ⟨w.heap.size, 0, none⟩ = some (.int .i64 x.f0) ∧ w'.cell? ⟨w.heap.size, 1, none⟩ = some (.int .i64 x.f1) ∧ w'.cell? ⟨w.heap.size, 2, none⟩ = some (.string x.f2)
     ∧ w'.cell? ⟨w.heap.size + 1, 0, none⟩ = some (.int .i64 y.f0) ∧ w'.cell? ⟨w.heap.size + 1, 1, none⟩ = some (.int .i64 y.f1) ∧ w'.cell? ⟨w.heap.size + 1, 2, none⟩ = some (.string y.f2)
     ∧ w'.cell? ⟨w.heap.size + 1 + 1, 0, none⟩ = some (.int .i64 0) ∧ w'.cell? ⟨w.heap.size + 1 + 1, 1, none⟩ = some (.int .i64 0) ∧ w'.cell? ⟨w.heap.size + 1 + 1, 2, none⟩ = some (.string ⟨#[]⟩)
     ∧ w'.frozen? ⟨w.heap.size + 1 + 1, 0, none⟩ = false ∧ w'.frozen? ⟨w.heap.size + 1 + 1, 1, none⟩ = false ∧ w'.frozen? ⟨w.heap.size + 1 + 1, 2, none⟩ = false)
    (first | (go_split_ands; refine ⟨Below.trans (by assumption) (hb.mono (by omega)), by omega, ?_, ?_, ?_, ?_, ?_, ?_, ?_, ?_, ?_, ?_, ?_, ?_⟩ <;> first | (rw [hc _ _ (by omega)]; assumption) | (rw [hf _ _ (by omega)]; assumption)) | (refine ⟨(three_blocks _ _ _ _).drew, (by first | (simp; done) | (simp; omega)), ?_, ?_, ?_, ?_, ?_, ?_, ?_, ?_, ?_, ?_, ?_, ?_⟩ <;> go_simp))
    (first | (go_at_call 182; refine (less_calls _ _ _).mono ?_; rintro e w' ⟨rfl, hb⟩; obtain ⟨hc, hf⟩ := bcell hb; have hz := hb.size))
  rename_i hS
  obtain ⟨hB, hz, c0, c1, c2, d0, d1, d2, r0, r1, r2, f0, f1, f2⟩ := hS
  go_wp2_with (first | (go_at_call 108; refine (truth_calls _ _).mono ?_; rintro e w2 ⟨rfl, hb⟩; obtain ⟨hc, hf⟩ := bcell hb; have hz2 := hb.size))
  · refine bodyPost_ret (v := enV (truthV false)) (by simp [results, Try.results110]; go_simp) rfl ⟨ret_V ?_, set3 (hB.trans (hb.mono (by omega))) (by omega) _ _ _⟩
    have := HE.out; simp_all [compareV]
  · refine bodyPost_ret (v := enV (truthV (!less y x))) (by simp [results, Try.results110]; go_simp) rfl ⟨ret_V ?_, set3 (hB.trans (hb.mono (by omega))) (by omega) _ _ _⟩
    have := HE.out; simp_all [compareV]
  · refine bodyPost_ret (v := enV (truthV true)) (by simp [results, Try.results110]; go_simp) rfl ⟨ret_V ?_, set3 (hB.trans (hb.mono (by omega))) (by omega) _ _ _⟩
    have := HE.out; simp_all [compareV]
  · refine bodyPost_ret (v := enV (truthV (less y x))) (by simp [results, Try.results110]; go_simp) rfl ⟨ret_V ?_, set3 (hB.trans (hb.mono (by omega))) (by omega) _ _ _⟩
    have := HE.out; simp_all [compareV]
  · refine bodyPost_ret (v := enV (truthV (less x y))) (by simp [results, Try.results110]; go_simp) rfl ⟨ret_V ?_, set3 (hB.trans (hb.mono (by omega))) (by omega) _ _ _⟩
    have := HE.out; simp_all [compareV]
  · refine bodyPost_ret (v := enV (truthV (!less y x))) (by simp [results, Try.results110]; go_simp) rfl ⟨ret_V ?_, set3 (hB.trans (hb.mono (by omega))) (by omega) _ _ _⟩
    have := HE.out; simp_all [compareV]
  · refine bodyPost_ret (v := enV (truthV (less y x))) (by simp [results, Try.results110]; go_simp) rfl ⟨ret_V ?_, set3 (hB.trans (hb.mono (by omega))) (by omega) _ _ _⟩
    have := HE.out; simp_all [compareV]
  · refine bodyPost_ret (v := enV (truthV (!less x y))) (by simp [results, Try.results110]; go_simp) rfl ⟨ret_V ?_, set3 (hB.trans (hb.mono (by omega))) (by omega) _ _ _⟩
    have := HE.out; simp_all [compareV]
end Go.Proofs.Ytfneopcbnlfkiaa.Ex
