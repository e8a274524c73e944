/-
expr.apply: an operator of numbers, of values that are numbers or Null.
-/
import Derived.Test.YtfneopcbnlfkiaaEx2
import Derived.Test.YtfneopcbnlfkiaaEq
namespace Go.Proofs.Ytfneopcbnlfkiaa.Ex
open Go.RowKit Go.Proofs.YtfneopcbnlfkiaaW.PrintWords Go.Proofs.Ytfneopcbnlfkiaa.Kin Go.Proofs.Ytfneopcbnlfkiaa.Num
set_option linter.unusedVariables false
attribute [local go_sem high] eqA30
theorem empty_toList : (ByteArray.mk #[]).toList = [] := by decide +kernel
/-- What an operator of numbers comes to, of numbers and Nulls. -/
def applyV (op : Int) (x y : S30) : S30 × Int :=
  if op = 16 then (if x.f0 = 1 then truthV (x.f1 == 0) else z30, 0)
  else if op = 17 ∨ op = 18 then (bothV (op == 18) x y, 0)
  else if x.f0 ≠ 1 ∨ (y.f0 ≠ 1 ∧ op ≠ 4) then (z30, 0)
  else if (reckon op x.f1 y.f1).2 then (⟨1, (reckon op x.f1 y.f1).1, ⟨#[]⟩⟩, 0)
  else if y.f1 = 0 ∧ (op = 8 ∨ op = 9) then (z30, 11) else (z30, 10)
theorem four_blocks (w : World) (o o' o'' o3 : Obj) : Below w.heap.size w ((((w.alloc o).alloc o').alloc o'').alloc o3) := below_alloc (three_blocks _ _ _ _) _
theorem ret_ex {P : Program} {fn : Func} {R : Ending → World → Prop} {a : Act} {w : World} (hd : a.defers = []) (h : ∃ v, (results fn a.tmps).run P w = .ok v w ∧ R (.returned v) w) : bodyPost P fn R .ret a w := by
  obtain ⟨v, hr, hR⟩ := h
  exact bodyPost_ret hr hd hR
set_option maxHeartbeats 4000000 in
set_option maxRecDepth 100000 in
theorem apply_nn (op : Int) (w : World) :
    Calls Try.prog 111 #[.int .i64 op, enV ⟨0, 0, ⟨#[]⟩⟩, enV ⟨0, 0, ⟨#[]⟩⟩] w fun e w' => e = .returned (.tuple #[enV (applyV op ⟨0, 0, ⟨#[]⟩⟩ ⟨0, 0, ⟨#[]⟩⟩).1, .int .i64 (applyV op ⟨0, 0, ⟨#[]⟩⟩ ⟨0, 0, ⟨#[]⟩⟩).2]) ∧ Below w.heap.size w w' := by
  have hu := Try.underlying30
  have he := empty_toList
  go_enter Try.func111, Try.ntmps111
  go_wp2_with (first | (go_at_call 108; refine (truth_calls _ _).mono ?_; rintro e w2 ⟨rfl, hb⟩; obtain ⟨hc, hf⟩ := bcell hb; have hz2 := hb.size; (simp at hz2)) | (go_at_call 183; refine (both_calls _ ⟨0, 0, ⟨#[]⟩⟩ ⟨0, 0, ⟨#[]⟩⟩ _).mono ?_; rintro e w2 ⟨rfl, hb⟩; obtain ⟨hc, hf⟩ := bcell hb; have hz2 := hb.size; (simp at hz2)) | (go_at_call 184; refine (reckon_calls _ _ _ _).mono ?_; rintro e w2 ⟨rfl, rfl⟩))
  all_goals
    refine ret_ex rfl ?_
    apply Exists.intro
    refine ⟨?_, ?_, ?_⟩
    · simp [results, Try.results111]; (try go_simp); rfl
    · simp_all [applyV, z30]
    · first | exact four_blocks _ _ _ _ _ | exact set3 ((four_blocks _ _ _ _ _).trans (hb.mono (below_size (four_blocks _ _ _ _ _)))) (by omega) _ _ _
set_option maxHeartbeats 4000000 in
set_option maxRecDepth 100000 in
theorem apply_xn (op : Int) (b : Int) (c : ByteArray) (w : World) :
    Calls Try.prog 111 #[.int .i64 op, enV ⟨1, b, c⟩, enV ⟨0, 0, ⟨#[]⟩⟩] w fun e w' => e = .returned (.tuple #[enV (applyV op ⟨1, b, c⟩ ⟨0, 0, ⟨#[]⟩⟩).1, .int .i64 (applyV op ⟨1, b, c⟩ ⟨0, 0, ⟨#[]⟩⟩).2]) ∧ Below w.heap.size w w' := by
  have hu := Try.underlying30
  have he := empty_toList
  go_enter Try.func111, Try.ntmps111
  go_wp2_with (first | (go_at_call 108; refine (truth_calls _ _).mono ?_; rintro e w2 ⟨rfl, hb⟩; obtain ⟨hc, hf⟩ := bcell hb; have hz2 := hb.size; (simp at hz2)) | (go_at_call 183; refine (both_calls _ ⟨1, b, c⟩ ⟨0, 0, ⟨#[]⟩⟩ _).mono ?_; rintro e w2 ⟨rfl, hb⟩; obtain ⟨hc, hf⟩ := bcell hb; have hz2 := hb.size; (simp at hz2)) | (go_at_call 184; refine (reckon_calls _ _ _ _).mono ?_; rintro e w2 ⟨rfl, rfl⟩))
  all_goals
    refine ret_ex rfl ?_
    apply Exists.intro
    refine ⟨?_, ?_, ?_⟩
    · simp [results, Try.results111]; (try go_simp); rfl
    · simp_all [applyV, z30]
    · first | exact four_blocks _ _ _ _ _ | exact set3 ((four_blocks _ _ _ _ _).trans (hb.mono (below_size (four_blocks _ _ _ _ _)))) (by omega) _ _ _
set_option maxHeartbeats 4000000 in
set_option maxRecDepth 100000 in
theorem apply_ny (op : Int) (b' : Int) (c' : ByteArray) (w : World) :
    Calls Try.prog 111 #[.int .i64 op, enV ⟨0, 0, ⟨#[]⟩⟩, enV ⟨1, b', c'⟩] w fun e w' => e = .returned (.tuple #[enV (applyV op ⟨0, 0, ⟨#[]⟩⟩ ⟨1, b', c'⟩).1, .int .i64 (applyV op ⟨0, 0, ⟨#[]⟩⟩ ⟨1, b', c'⟩).2]) ∧ Below w.heap.size w w' := by
  have hu := Try.underlying30
  have he := empty_toList
  go_enter Try.func111, Try.ntmps111
  go_wp2_with (first | (go_at_call 108; refine (truth_calls _ _).mono ?_; rintro e w2 ⟨rfl, hb⟩; obtain ⟨hc, hf⟩ := bcell hb; have hz2 := hb.size; (simp at hz2)) | (go_at_call 183; refine (both_calls _ ⟨0, 0, ⟨#[]⟩⟩ ⟨1, b', c'⟩ _).mono ?_; rintro e w2 ⟨rfl, hb⟩; obtain ⟨hc, hf⟩ := bcell hb; have hz2 := hb.size; (simp at hz2)) | (go_at_call 184; refine (reckon_calls _ _ _ _).mono ?_; rintro e w2 ⟨rfl, rfl⟩))
  all_goals
    refine ret_ex rfl ?_
    apply Exists.intro
    refine ⟨?_, ?_, ?_⟩
    · simp [results, Try.results111]; (try go_simp); rfl
    · simp_all [applyV, z30]
    · first | exact four_blocks _ _ _ _ _ | exact set3 ((four_blocks _ _ _ _ _).trans (hb.mono (below_size (four_blocks _ _ _ _ _)))) (by omega) _ _ _
set_option maxHeartbeats 4000000 in
set_option maxRecDepth 100000 in
theorem apply_xy (op : Int) (b : Int) (c : ByteArray) (b' : Int) (c' : ByteArray) (w : World) :
    Calls Try.prog 111 #[.int .i64 op, enV ⟨1, b, c⟩, enV ⟨1, b', c'⟩] w fun e w' => e = .returned (.tuple #[enV (applyV op ⟨1, b, c⟩ ⟨1, b', c'⟩).1, .int .i64 (applyV op ⟨1, b, c⟩ ⟨1, b', c'⟩).2]) ∧ Below w.heap.size w w' := by
  have hu := Try.underlying30
  have he := empty_toList
  go_enter Try.func111, Try.ntmps111
  go_wp2_with (first | (go_at_call 108; refine (truth_calls _ _).mono ?_; rintro e w2 ⟨rfl, hb⟩; obtain ⟨hc, hf⟩ := bcell hb; have hz2 := hb.size; (simp at hz2)) | (go_at_call 183; refine (both_calls _ ⟨1, b, c⟩ ⟨1, b', c'⟩ _).mono ?_; rintro e w2 ⟨rfl, hb⟩; obtain ⟨hc, hf⟩ := bcell hb; have hz2 := hb.size; (simp at hz2)) | (go_at_call 184; refine (reckon_calls _ _ _ _).mono ?_; rintro e w2 ⟨rfl, rfl⟩))
  all_goals
    refine ret_ex rfl ?_
    apply Exists.intro
    refine ⟨?_, ?_, ?_⟩
    · simp [results, Try.results111]; (try go_simp); rfl
    · simp_all [applyV, z30]
    · first | exact four_blocks _ _ _ _ _ | exact set3 ((four_blocks _ _ _ _ _).trans (hb.mono (below_size (four_blocks _ _ _ _ _)))) (by omega) _ _ _
theorem apply_calls (op : Int) (x y : S30) (w : World) :
    Calls Try.prog 111 #[.int .i64 op, enV (whole x), enV (whole y)] w fun e w' => e = .returned (.tuple #[enV (applyV op (whole x) (whole y)).1, .int .i64 (applyV op (whole x) (whole y)).2]) ∧ Below w.heap.size w w' := by
  obtain ⟨a, b, c⟩ := x
  obtain ⟨a', b', c'⟩ := y
  unfold whole
  by_cases h : a = 1 <;> by_cases h' : a' = 1
  · subst h h'; exact apply_xy op b c b' c' w
  · subst h; simp only [h', if_true, if_false]; exact apply_xn op b c w
  · subst h'; simp only [h, if_true, if_false]; exact apply_ny op b' c' w
  · simp only [h, h', if_false]; exact apply_nn op w
end Go.Proofs.Ytfneopcbnlfkiaa.Ex
