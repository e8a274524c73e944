/-
A bound expression without sums comes to a value of its kind, or to Null, or numbers end: plenumlaw22.ExprTyped returns true at every input.
-/
import Derived.Test.YtfneopcbnlfkiaaLiftExprTyped
namespace Go.Proofs.Ytfneopcbnlfkiaa.exprTyped
open Go.ChangeShapes Go.WideShapes Go.ChangeAt Go.RowKit
set_option linter.unusedVariables false
theorem j1 : (Rows.exprTypedRow.inPlace == Try.pinned.checked.prog.inPlace 13) = true := by kernel_rfl
theorem j2 : (Rows.exprTypedRow.unfollowed == Try.pinned.checked.prog.unfollowed 13) = true := by kernel_rfl
theorem j3 : (Rows.exprTypedRow.recurses == Try.pinned.checked.prog.recurses 13) = true := by kernel_rfl
theorem j4 : (Rows.exprTypedRow.named == Try.pinned.checked.prog.varsNamed 13) = true := by kernel_rfl
theorem j5 : laidOutB Try.pinned.checked.prog = true := by kernel_rfl
theorem j6 : mapsRowed Try.pinned.checked.prog = true := by kernel_rfl
theorem j7 : Rows.exprTypedRow.wf (OpenSpec.ofChange Rows.exprTypedSpec) = true := by kernel_rfl
theorem closed : joinedFacts Try.pinned.checked.prog 13 Try.f13 Rows.exprTypedSpec Rows.exprTypedRow = true := by
  simp only [joinedFacts, Bool.and_eq_true]
  repeat' apply And.intro
  all_goals first | (with_reducible exact j1) | (with_reducible exact j2) | (with_reducible exact j3) | (with_reducible exact j4) | (with_reducible exact j5) | (with_reducible exact j6) | (with_reducible exact j7) | kernel_rfl
theorem named : Try.pinned.checked.prog.funcNamed Rows.exprTypedRow.func = some 13 := by kernel_rfl
theorem over : Rows.exprTypedRow.holds Try.pinned (OpenSpec.ofChange Rows.exprTypedSpec) :=
  OpenClaim.holds_of_wide 13 Try.f13 rfl rfl rfl rfl rfl rfl rfl ⟨rfl, rfl, rfl, rfl, rfl⟩ rfl rfl rfl rfl rfl named Try.func13 closed
    (of_decide_eq_true (by kernel_rfl)) (by unfold Func.isWrapper; first | (rw [if_pos (by decide +kernel)]; kernel_rfl) | (rw [if_neg (by decide +kernel)]; exact ⟨rfl, rfl⟩))
    (fun os started H enc _ => lifted os started H enc)
end Go.Proofs.Ytfneopcbnlfkiaa.exprTyped
namespace Go.Proofs.Ytfneopcbnlfkiaa
/-- The row. -/
theorem exprTyped_holds : Rows.ExprTypedSaid := exprTyped.over
#print axioms exprTyped_holds
end Go.Proofs.Ytfneopcbnlfkiaa
