/-
expr.Eval: what is refused, literals, places.
-/
import Derived.Test.YtfneopcbnlfkiaaEx3
namespace Go.Proofs.Ytfneopcbnlfkiaa.Ex
open Go.RowKit Go.Proofs.YtfneopcbnlfkiaaW.PrintWords Go.Proofs.Ytfneopcbnlfkiaa.Kin Go.Proofs.Ytfneopcbnlfkiaa.Num
set_option linter.unusedVariables false
/-- A row's value at a place. -/
def valAt (rs : List S30) (n : Int) : S30 := if 0 ≤ n ∧ n < rs.length then rs.getD n.toNat z30 else z30
/-- An operator's value, its parts' values being known. -/
def fin (op : Int) (x y : S30) : S30 × Int := if op = 19 then (truthV (x.f0 == 0), 0) else if cmpOp op then (compareV op x y, 0) else applyV op (whole x) (whole y)
/-- An operator of one part, its part's result being known. -/
def seq1 (op : Int) (p : S30 × Int) : S30 × Int := if p.2 = 0 then fin op p.1 z30 else (z30, p.2)
/-- An operator of two parts. -/
def seq2 (op : Int) (p q : S30 × Int) : S30 × Int := if p.2 = 0 then (if q.2 = 0 then fin op p.1 q.1 else (z30, q.2)) else (z30, p.2)
/-- What an expression comes to over a row. -/
def evalX (rs : List S30) : S32 → S30 × Int
  | ⟨op, _, _, n, v, []⟩ => if op = 1 then (v, 0) else if op = 3 then (valAt rs n, 0) else (z30, 220)
  | ⟨op, _, _, _, _, [a]⟩ => if op = 4 ∨ op = 16 ∨ op = 19 then seq1 op (evalX rs a) else (z30, 220)
  | ⟨op, _, _, _, _, [a, b]⟩ => if 5 ≤ op ∧ op ≤ 18 ∧ op ≠ 16 then seq2 op (evalX rs a) (evalX rs b) else (z30, 220)
  | ⟨_, _, _, _, _, _ :: _ :: _ :: _⟩ => (z30, 220)
abbrev enE (x : S32) (A : Option Addr) (c : Nat) : Value := .agg #[.int .i64 x.f0, .string x.f1, .string x.f2, .int .i64 x.f3, .int .i64 x.f4.f0, .int .i64 x.f4.f1, .string x.f4.f2, .slice A x.f5.length c]
abbrev enVE (p : S30 × Int) : Value := .tuple #[enV p.1, .int .i64 p.2]
theorem quiet_eq {P : Program} {f : FuncId} {args : Array Value} {w : World} {n : Nat} {v : Value}
    (h : Calls P f args (w.drewN n) fun e w' => e = .returned v ∧ w.drewN n = w') : Calls P f args (w.drewN n) fun e w'' => e = .returned v ∧ ∃ m, w'' = w.drewN m :=
  h.mono fun _ _ ⟨he, hm⟩ => ⟨he, n, hm.symm⟩

theorem set_cells {B b : Nat} {w W : World} (h : Below B w W) (hp : B ≤ b) (u0 u1 u2 : Value) : Below B w (((W.setCell ⟨b, 0, none⟩ u0).setCell ⟨b, 1, none⟩ u1).setCell ⟨b, 2, none⟩ u2) := set3 h hp _ _ _
/-- The call is refused: the operator has other parts, or is none for a row. -/
theorem eval_bad (x : S32) (A c) (Ar : Option Addr) (nr cr : Nat) (w : World) (h : parts x.f0 ≠ x.f5.length ∨ x.f0 = 2 ∨ sumOp x.f0 = true) :
    Calls Try.prog 40 #[enE x A c, .slice Ar nr cr] w fun e w' => e = .returned (enVE (z30, 220)) ∧ Below w.heap.size w w' := by
  have hu := Try.underlying30
  have hu32 := Try.underlying32
  by_cases h1 : parts x.f0 = x.f5.length
  · have h1' : (parts x.f0 != (x.f5.length : Int)) = false := by simp [h1]
    by_cases h2 : x.f0 = 2
    · have h2' : (x.f0 == 2) = true := by simp [h2]
      clear h1 h h2
      go_enter Try.func40, Try.ntmps40
      go_wp2_with fail
      go_quiet ((first | (go_at_call 106; exact quiet_eq (parts_calls _ _)) | (go_at_call 107; exact quiet_eq (sum_calls _ _))))
      go_wp2
      refine ret_ex rfl ?_
      apply Exists.intro
      refine ⟨?_, ?_, ?_⟩
      · simp [results, Try.results40]; (try go_simp); rfl
      · simp [z30]
      · exact set3 (pw_below_drewN (two_blocks _ _ _) _) (by omega) _ _ _
    · have h2' : (x.f0 == 2) = false := by simp [h2]
      have h3 : sumOp x.f0 = true := by rcases h with h | h | h <;> first | exact h | exact absurd h1 h | exact absurd h h2
      clear h1 h h2
      go_enter Try.func40, Try.ntmps40
      go_wp2_with fail
      go_quiet ((first | (go_at_call 106; exact quiet_eq (parts_calls _ _)) | (go_at_call 107; exact quiet_eq (sum_calls _ _))))
      go_wp2
      refine ret_ex rfl ?_
      apply Exists.intro
      refine ⟨?_, ?_, ?_⟩
      · simp [results, Try.results40]; (try go_simp); rfl
      · simp [z30]
      · exact set3 (pw_below_drewN (two_blocks _ _ _) _) (by omega) _ _ _
  · have h1' : (parts x.f0 != (x.f5.length : Int)) = true := by simp [h1]
    clear h1 h
    go_enter Try.func40, Try.ntmps40
    go_wp2_with fail
    go_quiet ((first | (go_at_call 106; exact quiet_eq (parts_calls _ _)) | (go_at_call 107; exact quiet_eq (sum_calls _ _))))
    go_wp2
    refine ret_ex rfl ?_
    apply Exists.intro
    refine ⟨?_, ?_, ?_⟩
    · simp [results, Try.results40]; (try go_simp); rfl
    · simp [z30]
    · exact set3 (pw_below_drewN (two_blocks _ _ _) _) (by omega) _ _ _
/-- A literal. -/
theorem eval_lit (x : S32) (A c) (Ar : Option Addr) (nr cr : Nat) (w : World) (h : x.f0 = 1) (h5 : x.f5 = []) :
    Calls Try.prog 40 #[enE x A c, .slice Ar nr cr] w fun e w' => e = .returned (enVE (x.f4, 0)) ∧ Below w.heap.size w w' := by
  have hu := Try.underlying30
  have hu32 := Try.underlying32
  obtain ⟨op, t, n, k, v, l⟩ := x
  simp only at h h5
  subst h h5
  have e1 : (parts 1 != 0) = false := by decide
  have e2 : sumOp 1 = false := by decide
  go_enter Try.func40, Try.ntmps40
  go_wp2_with fail
  go_quiet ((first | (go_at_call 106; exact quiet_eq (parts_calls _ _)) | (go_at_call 107; exact quiet_eq (sum_calls _ _))))
  go_wp2
  refine ret_ex rfl ?_
  apply Exists.intro
  refine ⟨?_, ?_, ?_⟩
  · simp [results, Try.results40]; (try go_simp); rfl
  · simp
  · exact set3 (pw_below_drewN (two_blocks _ _ _) _) (by omega) _ _ _
/-- A place that is none. -/
theorem eval_none (x : S32) (A c) (Ar : Option Addr) (nr cr : Nat) (w : World) (h : x.f0 = 3) (h5 : x.f5 = []) (hn : ¬ (0 ≤ x.f3 ∧ x.f3 < nr)) :
    Calls Try.prog 40 #[enE x A c, .slice Ar nr cr] w fun e w' => e = .returned (enVE (z30, 0)) ∧ Below w.heap.size w w' := by
  have hu := Try.underlying30
  have hu32 := Try.underlying32
  obtain ⟨op, t, n, k, v, l⟩ := x
  simp only at h h5 hn
  subst h h5
  have e1 : (parts 3 != 0) = false := by decide
  have e2 : sumOp 3 = false := by decide
  have hk : k < 0 ∨ (0 ≤ k ∧ (nr : Int) ≤ k) := by omega
  clear hn
  rcases hk with hk | ⟨hk0, hk⟩
  all_goals
    go_enter Try.func40, Try.ntmps40
    go_wp2_with fail
    go_quiet ((first | (go_at_call 106; exact quiet_eq (parts_calls _ _)) | (go_at_call 107; exact quiet_eq (sum_calls _ _))))
    go_wp2
    refine ret_ex rfl ?_
    apply Exists.intro
    refine ⟨?_, ?_, ?_⟩
    · simp [results, Try.results40]; (try go_simp); rfl
    · simp [z30]
    · exact set3 (pw_below_drewN (two_blocks _ _ _) _) (by omega) _ _ _
set_option maxRecDepth 100000 in
/-- A place. -/
theorem eval_pos (x : S32) (A c) (Ar : Option Addr) (rs : List S30) (cr : Nat) (w : World) (hr : k30.C w Ar rs.length rs) (h : x.f0 = 3) (h5 : x.f5 = []) (h0 : 0 ≤ x.f3) (hn : x.f3 < rs.length) :
    Calls Try.prog 40 #[enE x A c, .slice Ar rs.length cr] w fun e w' => e = .returned (enVE (rd_T30 rs x.f3, 0)) ∧ Below w.heap.size w w' := by
  have hu := Try.underlying30
  have hu32 := Try.underlying32
  obtain ⟨op, t, n, k, v, l⟩ := x
  simp only at h h5 h0 hn
  subst h h5
  obtain ⟨ad, rfl, g0, g1, g2⟩ := at_T30 hr k h0 hn
  have hlt := World.block_lt_of_cell? w _ g0
  have e1 : (parts 3 != 0) = false := by decide
  have e2 : sumOp 3 = false := by decide
  go_enter Try.func40, Try.ntmps40
  go_wp2_with fail
  go_quiet ((first | (go_at_call 106; exact quiet_eq (parts_calls _ _)) | (go_at_call 107; exact quiet_eq (sum_calls _ _))))
  go_wp2
  refine ret_ex rfl ?_
  apply Exists.intro
  refine ⟨?_, ?_, ?_⟩
  · simp [results, Try.results40]; (try go_simp); rfl
  · simp
  · exact set3 (pw_below_drewN (two_blocks _ _ _) _) (by omega) _ _ _
end Go.Proofs.Ytfneopcbnlfkiaa.Ex
