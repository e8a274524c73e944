/-
What is not both is not the one, or not the other: of values.
-/
import Derived.Test.YtfneopcbnlfkiaaNot
namespace Go.Proofs.Ytfneopcbnlfkiaa.Ex
open Go.RowKit Go.Proofs.YtfneopcbnlfkiaaW.PrintWords Go.Proofs.Ytfneopcbnlfkiaa.Kin
set_option linter.unusedVariables false
set_option linter.unusedSimpArgs false
/-- Not. -/
def notV (x : S30) : S30 := if x.f0 = 1 then truthV (x.f1 == 0) else z30
theorem whole_truth (b : Bool) : whole (truthV b) = truthV b := by simp [whole, truthV]
theorem whole_z : whole z30 = z30 := by rfl
theorem whole_whole (x : S30) : whole (whole x) = whole x := by
  by_cases h : x.f0 = 1 <;> simp [whole, h, z30]
theorem whole_cases (x : S30) : whole x = z30 ∨ (whole x).f0 = 1 := by
  by_cases h : x.f0 = 1 <;> simp [whole, h]
theorem whole_not (x : S30) : whole (notV x) = notV x := by
  by_cases h : x.f0 = 1 <;> simp [notV, h, whole_truth, whole_z]
theorem whole_both (o : Bool) (x y : S30) : whole (bothV o x y) = bothV o x y := by
  unfold bothV
  repeat' split
  all_goals simp [whole_truth, whole_z]
theorem demorgan (o : Bool) (x y : S30) (hx : x = z30 ∨ x.f0 = 1) (hy : y = z30 ∨ y.f0 = 1) : notV (bothV o x y) = bothV (!o) (notV x) (notV y) := by
  rcases hx with rfl | hx <;> rcases hy with rfl | hy <;> cases o <;>
    first
    | rfl
    | (by_cases h1 : x.f1 = 0 <;> by_cases h2 : y.f1 = 0 <;> simp [notV, bothV, decides, truthV, z30, hx, hy, h1, h2])
    | (by_cases h1 : x.f1 = 0 <;> simp [notV, bothV, decides, truthV, z30, hx, h1])
    | (by_cases h2 : y.f1 = 0 <;> simp [notV, bothV, decides, truthV, z30, hy, h2])
theorem fin16 (x y : S30) : fin 16 x y = (notV (whole x), 0) := by simp [fin, cmpOp, applyV, notV]
theorem fin17 (x y : S30) : fin 17 x y = (bothV false (whole x) (whole y), 0) := by simp [fin, cmpOp, applyV]
theorem fin18 (x y : S30) : fin 18 x y = (bothV true (whole x) (whole y), 0) := by simp [fin, cmpOp, applyV]
theorem logic1 (p q : S30 × Int) : seq1 16 (seq2 17 p q) = seq2 18 (seq1 16 p) (seq1 16 q) := by
  by_cases hp : p.2 = 0 <;> by_cases hq : q.2 = 0 <;> simp [seq1, seq2, hp, hq, fin16, fin17, fin18, whole_both, whole_not, whole_whole, demorgan, whole_cases]
theorem logic2 (p q : S30 × Int) : seq1 16 (seq2 18 p q) = seq2 17 (seq1 16 p) (seq1 16 q) := by
  by_cases hp : p.2 = 0 <;> by_cases hq : q.2 = 0 <;> simp [seq1, seq2, hp, hq, fin16, fin17, fin18, whole_both, whole_not, whole_whole, demorgan, whole_cases]
theorem ev_one (rs : List S30) (a : S32) : evalX rs (one 16 a) = seq1 16 (evalX rs a) := by simp [evalX]
theorem ev_two (rs : List S30) (op : Int) (h : op = 17 ∨ op = 18) (a b : S32) : evalX rs (two op a b) = seq2 op (evalX rs a) (evalX rs b) := by
  rcases h with rfl | rfl <;> simp [evalX]
theorem dm1 (rs : List S30) (a b : S32) : evalX rs (one 16 (two 17 a b)) = evalX rs (two 18 (one 16 a) (one 16 b)) := by
  rw [ev_one, ev_two rs 17 (.inl rfl), ev_two rs 18 (.inr rfl), ev_one, ev_one, logic1]
theorem dm2 (rs : List S30) (a b : S32) : evalX rs (one 16 (two 18 a b)) = evalX rs (two 17 (one 16 a) (one 16 b)) := by
  rw [ev_one, ev_two rs 18 (.inr rfl), ev_two rs 17 (.inl rfl), ev_one, ev_one, logic2]
end Go.Proofs.Ytfneopcbnlfkiaa.Ex
