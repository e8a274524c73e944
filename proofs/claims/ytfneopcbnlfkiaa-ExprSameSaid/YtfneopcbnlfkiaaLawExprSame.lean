/-
Which expressions are alike: plenumlaw22.ExprSame returns true at every input.
-/
import Derived.Test.YtfneopcbnlfkiaaLiftExprSame
namespace Go.Proofs.Ytfneopcbnlfkiaa.exprSame
open Go.ChangeShapes Go.WideShapes Go.ChangeAt Go.RowKit
set_option linter.unusedVariables false
theorem j1 : (Rows.exprSameRow.inPlace == Try.pinned.checked.prog.inPlace 12) = true := by kernel_rfl
theorem j2 : (Rows.exprSameRow.unfollowed == Try.pinned.checked.prog.unfollowed 12) = true := by kernel_rfl
theorem j3 : (Rows.exprSameRow.recurses == Try.pinned.checked.prog.recurses 12) = true := by kernel_rfl
theorem j4 : (Rows.exprSameRow.named == Try.pinned.checked.prog.varsNamed 12) = true := by kernel_rfl
theorem j5 : laidOutB Try.pinned.checked.prog = true := by kernel_rfl
theorem j6 : mapsRowed Try.pinned.checked.prog = true := by kernel_rfl
theorem j7 : Rows.exprSameRow.wf (OpenSpec.ofChange Rows.exprSameSpec) = true := by kernel_rfl
theorem closed : joinedFacts Try.pinned.checked.prog 12 Try.f12 Rows.exprSameSpec Rows.exprSameRow = true := by
  simp only [joinedFacts, Bool.and_eq_true]
  repeat' apply And.intro
  all_goals first | (with_reducible exact j1) | (with_reducible exact j2) | (with_reducible exact j3) | (with_reducible exact j4) | (with_reducible exact j5) | (with_reducible exact j6) | (with_reducible exact j7) | kernel_rfl
theorem named : Try.pinned.checked.prog.funcNamed Rows.exprSameRow.func = some 12 := by kernel_rfl
theorem over : Rows.exprSameRow.holds Try.pinned (OpenSpec.ofChange Rows.exprSameSpec) :=
  OpenClaim.holds_of_wide 12 Try.f12 rfl rfl rfl rfl rfl rfl rfl ⟨rfl, rfl, rfl, rfl, rfl⟩ rfl rfl rfl rfl rfl named Try.func12 closed
    (of_decide_eq_true (by kernel_rfl)) (by unfold Func.isWrapper; first | (rw [if_pos (by decide +kernel)]; kernel_rfl) | (rw [if_neg (by decide +kernel)]; exact ⟨rfl, rfl⟩))
    (fun os started H enc _ => lifted os started H enc)
end Go.Proofs.Ytfneopcbnlfkiaa.exprSame
namespace Go.Proofs.Ytfneopcbnlfkiaa
/-- The row. -/
theorem exprSame_holds : Rows.ExprSameSaid := exprSame.over
#print axioms exprSame_holds
end Go.Proofs.Ytfneopcbnlfkiaa
