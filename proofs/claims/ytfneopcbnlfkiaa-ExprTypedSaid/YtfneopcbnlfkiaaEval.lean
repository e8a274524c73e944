/-
expr.Eval as a whole.
-/
import Derived.Test.YtfneopcbnlfkiaaEx6
namespace Go.Proofs.Ytfneopcbnlfkiaa.Ex
open Go.RowKit Go.Proofs.YtfneopcbnlfkiaaW.PrintWords Go.Proofs.Ytfneopcbnlfkiaa.Kin Go.Proofs.Ytfneopcbnlfkiaa.Num Go.Proofs.Ytfneopcbnlfkiaa.Base Go.Proofs.YtfneopcbnlfkiaaW.PrintLast
set_option linter.unusedVariables false
set_option linter.unusedSimpArgs false
/-- What expr.Eval returns. -/
theorem eval_calls (y : S32) (A : Option Addr) (c : Nat) (Ar : Option Addr) (rs : List S30) (cr : Nat) (w : World) (hr : k30.C w Ar rs.length rs) (ha : k32.C w A y.f5.length y.f5) :
    Calls Try.prog 40 #[enE y A c, .slice Ar rs.length cr] w fun x w' => x = .returned (enVE (evalX rs y)) ∧ Below w.heap.size w w' := by
  match y, ha with
  | ⟨op, t, n, k, v, []⟩, ha =>
    by_cases h1 : op = 1
    · subst h1
      have := eval_lit ⟨1, t, n, k, v, []⟩ A c Ar rs.length cr w rfl rfl
      simpa [evalX] using this
    · by_cases h3 : op = 3
      · subst h3
        by_cases hk : 0 ≤ k ∧ k < rs.length
        · have := eval_pos ⟨3, t, n, k, v, []⟩ A c Ar rs cr w hr rfl rfl hk.1 hk.2
          simpa [evalX, valAt, hk, rd_T30] using this
        · have := eval_none ⟨3, t, n, k, v, []⟩ A c Ar rs.length cr w rfl rfl hk
          have hv : valAt rs k = z30 := if_neg hk
          rw [show evalX rs ⟨3, t, n, k, v, []⟩ = (valAt rs k, 0) by simp [evalX], hv]; exact this
      · have := eval_bad ⟨op, t, n, k, v, []⟩ A c Ar rs.length cr w (by
          by_cases h2 : op = 2
          · exact Or.inr (Or.inl h2)
          · by_cases h20 : op = 20
            · exact Or.inr (Or.inr (by simp [h20, sumOp]))
            · refine Or.inl ?_
              simp only [parts, h1, h2, h3, h20, List.length_nil]
              split <;> (try split) <;> (try split) <;> simp_all)
        have hv : evalX rs ⟨op, t, n, k, v, []⟩ = (z30, 220) := by simp [evalX, h1, h3]
        rw [hv]; exact this
  | ⟨op, t, n, k, v, [a]⟩, ha =>
    by_cases h1 : op = 4 ∨ op = 16 ∨ op = 19
    · have := eval_one op t n k v a A c Ar rs cr w (evalX rs a) hr ha (fun A' c' W hA _ hR => eval_calls a A' c' Ar rs cr W hR hA)
        (by rcases h1 with rfl | rfl | rfl <;> decide) (by rcases h1 with rfl | rfl | rfl <;> decide) (by rcases h1 with rfl | rfl | rfl <;> decide) (by rcases h1 with rfl | rfl | rfl <;> decide) (by rcases h1 with rfl | rfl | rfl <;> decide)
      have hv : evalX rs ⟨op, t, n, k, v, [a]⟩ = seq1 op (evalX rs a) := by simp only [evalX]; exact if_pos h1
      rw [hv]; exact this
    · have := eval_bad ⟨op, t, n, k, v, [a]⟩ A c Ar rs.length cr w (by
        by_cases h2 : 21 ≤ op ∧ op ≤ 23
        · exact Or.inr (Or.inr (by simp [sumOp]; omega))
        · refine Or.inl ?_
          simp only [parts, List.length_cons, List.length_nil]
          split <;> (try split) <;> (try split) <;> omega)
      have hv : evalX rs ⟨op, t, n, k, v, [a]⟩ = (z30, 220) := by simp only [evalX]; exact if_neg h1
      rw [hv]; exact this
  | ⟨op, t, n, k, v, [a, b]⟩, ha =>
    by_cases h1 : 5 ≤ op ∧ op ≤ 18 ∧ op ≠ 16
    · have hp : parts op = 2 := by
        simp only [parts]
        split <;> (try split) <;> (try split) <;> omega
      have := eval_two op t n k v a b A c Ar rs cr w (evalX rs a) (evalX rs b) hr ha (fun A' c' W hA _ hR => eval_calls a A' c' Ar rs cr W hR hA) (fun A' c' W hA _ hR => eval_calls b A' c' Ar rs cr W hR hA)
        (by simp [hp]) (by simp; omega) (by simp [sumOp]; omega) (by simp; omega) (by simp; omega) (by omega)
      have hv : evalX rs ⟨op, t, n, k, v, [a, b]⟩ = seq2 op (evalX rs a) (evalX rs b) := by simp only [evalX]; exact if_pos h1
      rw [hv]; exact this
    · have := eval_bad ⟨op, t, n, k, v, [a, b]⟩ A c Ar rs.length cr w (by
        refine Or.inl ?_
        simp only [parts, List.length_cons, List.length_nil]
        split <;> (try split) <;> (try split) <;> omega)
      have hv : evalX rs ⟨op, t, n, k, v, [a, b]⟩ = (z30, 220) := by simp only [evalX]; exact if_neg h1
      rw [hv]; exact this
  | ⟨op, t, n, k, v, a :: b :: d :: l⟩, ha =>
    have := eval_bad ⟨op, t, n, k, v, a :: b :: d :: l⟩ A c Ar rs.length cr w (by
      refine Or.inl ?_
      simp only [parts, List.length_cons]
      split <;> (try split) <;> (try split) <;> omega)
    have hv : evalX rs ⟨op, t, n, k, v, a :: b :: d :: l⟩ = (z30, 220) := by simp only [evalX]
    rw [hv]; exact this
termination_by SizeOf.sizeOf y
decreasing_by all_goals (simp; omega)
end Go.Proofs.Ytfneopcbnlfkiaa.Ex
