/-
expr.both: an OR, or an AND.
-/
import Derived.Test.YtfneopcbnlfkiaaEx
namespace Go.Proofs.Ytfneopcbnlfkiaa.Ex
open Go.RowKit Go.Proofs.YtfneopcbnlfkiaaW.PrintWords Go.Proofs.Ytfneopcbnlfkiaa.Kin Go.Proofs.Ytfneopcbnlfkiaa.Num
set_option linter.unusedVariables false
theorem lt_chain {a b : Nat} (h : a < b) : a < b ∧ a < b + 1 ∧ a < b + 1 + 1 ∧ a < b + 1 + 1 + 1 := by omega
theorem setC {B b o : Nat} {w W : World} (h : Below B w W) (hp : B ≤ b) (u : Value) : Below B w (W.setCell ⟨b, o, none⟩ u) := h.setCell hp u
/-- A value decides an OR, or an AND. -/
def decides (or : Bool) (x : S30) : Bool := x.f0 == 1 && ((x.f1 != 0) == or)
def bothV (or : Bool) (x y : S30) : S30 := if decides or x || decides or y then truthV or else if x.f0 = 0 ∨ y.f0 = 0 then z30 else truthV (!or)
set_option maxHeartbeats 8000000 in
set_option maxRecDepth 100000 in
theorem both_calls (or : Bool) (x y : S30) (w : World) :
    Calls Try.prog 183 #[.bool or, enV x, enV y] w fun e w' => e = .returned (enV (bothV or x y)) ∧ Below w.heap.size w w' := by
  have hu := Try.underlying30
  have hu2 := Try.underlying157
  obtain ⟨a, b, c⟩ := x
  obtain ⟨a', b', c'⟩ := y
  have i0 : ∀ w : World, (Instr.index 157 (.agg #[.int .i64 a, .int .i64 b, .string c, .int .i64 a', .int .i64 b', .string c']) (.int .i64 0)).run Try.prog w = .ok (.agg #[.int .i64 a, .int .i64 b, .string c]) w := fun _ => by kernel_rfl
  have i1 : ∀ w : World, (Instr.index 157 (.agg #[.int .i64 a, .int .i64 b, .string c, .int .i64 a', .int .i64 b', .string c']) (.int .i64 1)).run Try.prog w = .ok (.agg #[.int .i64 a', .int .i64 b', .string c']) w := fun _ => by kernel_rfl
  go_enter Try.func183, Try.ntmps183
  go_wp2_with (first | (go_at_call 108; refine (truth_calls _ _).mono ?_; rintro e w2 ⟨rfl, hb⟩; have hB1 : Below w.heap.size w w2 := (three_blocks _ _ _ _).trans (hb.mono (by simp; omega)); obtain ⟨hc, hf⟩ := bcell hb; have hz2 := hb.size; (simp at hz2); obtain ⟨z0, z1, z2, z3⟩ := lt_chain (show w.heap.size < w2.heap.size by omega); obtain ⟨y0, y1, y2, y3⟩ := lt_chain (show w.heap.size + 1 < w2.heap.size by omega); obtain ⟨x0, x1, x2, x3⟩ := lt_chain (show w.heap.size + 1 + 1 < w2.heap.size by omega)))
  refine wp_loop_rounds 3 ?_
  rw [rounds_succ]
  cases or
  all_goals
    cases h1 : (a == 1)
    all_goals
      go_wp2_with (first | (go_at_call 108; refine (truth_calls _ _).mono ?_; rintro e w3 ⟨rfl, hb'⟩; obtain ⟨hc', hf'⟩ := bcell hb'; have hz2' := hb'.size; (simp at hz2')))
      all_goals (try rw [rounds_succ])
      go_wp2_with (first | (go_at_call 108; refine (truth_calls _ _).mono ?_; rintro e w3 ⟨rfl, hb'⟩; obtain ⟨hc', hf'⟩ := bcell hb'; have hz2' := hb'.size; (simp at hz2')))
      all_goals (try rw [rounds_succ])
      go_wp2_with (first | (go_at_call 108; refine (truth_calls _ _).mono ?_; rintro e w3 ⟨rfl, hb'⟩; obtain ⟨hc', hf'⟩ := bcell hb'; have hz2' := hb'.size; (simp at hz2')))
  all_goals first
    | (refine bodyPost_ret (v := enV (truthV false)) ?_ rfl ⟨ret_V ?_, ?_⟩; · (simp [results, Try.results183]; (go_simp; done)))
    | (refine bodyPost_ret (v := enV (truthV true)) ?_ rfl ⟨ret_V ?_, ?_⟩; · (simp [results, Try.results183]; (go_simp; done)))
    | (refine bodyPost_ret (v := enV z30) ?_ rfl ⟨ret_V ?_, ?_⟩; · (simp [results, Try.results183]; go_simp; simp [z30]; done))
  all_goals first
    | (apply below_alloc; repeat (first | assumption | apply below_alloc | (refine setC ?_ (by omega) _)))
    | (refine set3 (Below.trans ?_ (hb'.mono (below_size ?_))) (by omega) _ _ _ <;> (repeat (first | assumption | apply below_alloc | (refine setC ?_ (by omega) _))))
    | (simp_all [bothV, decides]; done)
end Go.Proofs.Ytfneopcbnlfkiaa.Ex
