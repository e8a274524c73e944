/-
plenumlaw22.not and two: operators that are made.
-/
import Derived.Test.YtfneopcbnlfkiaaFew
namespace Go.Proofs.Ytfneopcbnlfkiaa.Ex
open Go.RowKit Go.Proofs.YtfneopcbnlfkiaaW.PrintWords Go.Proofs.Ytfneopcbnlfkiaa.Kin Go.Proofs.Ytfneopcbnlfkiaa.Num Go.Proofs.Ytfneopcbnlfkiaa.Base Go.Proofs.YtfneopcbnlfkiaaW.PrintLast
set_option linter.unusedVariables false
set_option linter.unusedSimpArgs false
/-- An operator that was made: its parts lie in memory. -/
def madeE (y : S32) (e : Ending) (w : World) : Prop := ∃ B c, e = .returned (enE y (some ⟨B, 0, none⟩) c) ∧ y.f5.length ≤ c ∧ k32.C w (some ⟨B, 0, none⟩) y.f5.length y.f5
set_option maxHeartbeats 4000000 in
set_option maxRecDepth 100000 in
theorem not_calls (y : S32) (A : Option Addr) (c : Nat) (w : World) (hl : y.f5.length ≤ c) (ha : k32.C w A y.f5.length y.f5) :
    Calls Try.prog 41 #[enE y A c] w fun e w' => madeE (one 16 y) e w' ∧ Below w.heap.size w w' := by
  have hu := Try.underlying30
  have hu32 := Try.underlying32
  have HA := Aside0.mk ha
  have HL := Aside0.mk hl
  clear ha hl
  go_enter Try.func41, Try.ntmps41
  go_wp2
  refine ret_ex rfl ?_
  apply Exists.intro
  refine ⟨?_, ⟨w.heap.size + 1 + 1, 1, ?_, Nat.le_refl _, ?_⟩, ?_⟩
  · simp [results, Try.results41]; (try go_simp); rfl
  · rfl
  · refine mk1 HL.out (Kd.C_below HA.out ?_) (by go_simp <;> rfl) (by go_simp <;> rfl) (by go_simp <;> rfl) (by go_simp <;> rfl) (by go_simp <;> rfl) (by go_simp <;> rfl) (by go_simp <;> rfl) (by go_simp <;> rfl)
    repeat (first | assumption | exact Below.refl _ _ | apply below_alloc | apply pw_below_drewN | apply below_drew1 | (refine setC ?_ (by omega) _))
  · repeat (first | assumption | exact Below.refl _ _ | apply below_alloc | apply pw_below_drewN | apply below_drew1 | (refine setC ?_ (by omega) _))
set_option maxHeartbeats 4000000 in
set_option maxRecDepth 100000 in
theorem two_calls (op : Int) (x : S32) (A : Option Addr) (c : Nat) (y : S32) (B : Option Addr) (d : Nat) (w : World) (hl : x.f5.length ≤ c) (ha : k32.C w A x.f5.length x.f5) (hl2 : y.f5.length ≤ d) (hb : k32.C w B y.f5.length y.f5) :
    Calls Try.prog 42 #[.int .i64 op, enE x A c, enE y B d] w fun e w' => madeE (two op x y) e w' ∧ Below w.heap.size w w' := by
  have hu := Try.underlying30
  have hu32 := Try.underlying32
  have HA := Aside0.mk ha
  have HL := Aside0.mk hl
  have HB := Aside0.mk hb
  have HM := Aside0.mk hl2
  clear ha hl hb hl2
  go_enter Try.func42, Try.ntmps42
  go_wp2
  refine ret_ex rfl ?_
  apply Exists.intro
  refine ⟨?_, ⟨w.heap.size + 1 + 1 + 1, 2, ?_, Nat.le_refl _, ?_⟩, ?_⟩
  · simp [results, Try.results42]; (try go_simp); rfl
  · rfl
  · refine mk2 HL.out (Kd.C_below HA.out ?_) HM.out (Kd.C_below HB.out ?_) (by go_simp <;> rfl) (by go_simp <;> rfl) (by go_simp <;> rfl) (by go_simp <;> rfl) (by go_simp <;> rfl) (by go_simp <;> rfl) (by go_simp <;> rfl) (by go_simp <;> rfl) (by go_simp <;> rfl) (by go_simp <;> rfl) (by go_simp <;> rfl) (by go_simp <;> rfl) (by go_simp <;> rfl) (by go_simp <;> rfl) (by go_simp <;> rfl) (by go_simp <;> rfl)
    all_goals (repeat (first | assumption | exact Below.refl _ _ | apply below_alloc | apply pw_below_drewN | apply below_drew1 | (refine setC ?_ (by omega) _)))
  · repeat (first | assumption | exact Below.refl _ _ | apply below_alloc | apply pw_below_drewN | apply below_drew1 | (refine setC ?_ (by omega) _))
end Go.Proofs.Ytfneopcbnlfkiaa.Ex
