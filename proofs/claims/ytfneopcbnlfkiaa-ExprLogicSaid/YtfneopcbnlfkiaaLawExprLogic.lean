/-
What is not both is not the one, or not the other: plenumlaw22.ExprLogic returns true at every input.
-/
import Derived.Test.YtfneopcbnlfkiaaLiftExprLogic
namespace Go.Proofs.Ytfneopcbnlfkiaa.exprLogic
open Go.ChangeShapes Go.WideShapes Go.ChangeAt Go.RowKit
set_option linter.unusedVariables false
theorem j1 : (Rows.exprLogicRow.inPlace == Try.pinned.checked.prog.inPlace 8) = true := by kernel_rfl
theorem j2 : (Rows.exprLogicRow.unfollowed == Try.pinned.checked.prog.unfollowed 8) = true := by kernel_rfl
theorem j3 : (Rows.exprLogicRow.recurses == Try.pinned.checked.prog.recurses 8) = true := by kernel_rfl
theorem j4 : (Rows.exprLogicRow.named == Try.pinned.checked.prog.varsNamed 8) = true := by kernel_rfl
theorem j5 : laidOutB Try.pinned.checked.prog = true := by kernel_rfl
theorem j6 : mapsRowed Try.pinned.checked.prog = true := by kernel_rfl
theorem j7 : Rows.exprLogicRow.wf (OpenSpec.ofChange Rows.exprLogicSpec) = true := by kernel_rfl
theorem closed : joinedFacts Try.pinned.checked.prog 8 Try.f8 Rows.exprLogicSpec Rows.exprLogicRow = true := by
  simp only [joinedFacts, Bool.and_eq_true]
  repeat' apply And.intro
  all_goals first | (with_reducible exact j1) | (with_reducible exact j2) | (with_reducible exact j3) | (with_reducible exact j4) | (with_reducible exact j5) | (with_reducible exact j6) | (with_reducible exact j7) | kernel_rfl
theorem named : Try.pinned.checked.prog.funcNamed Rows.exprLogicRow.func = some 8 := by kernel_rfl
theorem over : Rows.exprLogicRow.holds Try.pinned (OpenSpec.ofChange Rows.exprLogicSpec) :=
  OpenClaim.holds_of_wide 8 Try.f8 rfl rfl rfl rfl rfl rfl rfl ⟨rfl, rfl, rfl, rfl, rfl⟩ rfl rfl rfl rfl rfl named Try.func8 closed
    (of_decide_eq_true (by kernel_rfl)) (by unfold Func.isWrapper; first | (rw [if_pos (by decide +kernel)]; kernel_rfl) | (rw [if_neg (by decide +kernel)]; exact ⟨rfl, rfl⟩))
    (fun os started H enc _ => lifted os started H enc)
end Go.Proofs.Ytfneopcbnlfkiaa.exprLogic
namespace Go.Proofs.Ytfneopcbnlfkiaa
/-- The row. -/
theorem exprLogic_holds : Rows.ExprLogicSaid := exprLogic.over
#print axioms exprLogic_holds
end Go.Proofs.Ytfneopcbnlfkiaa
