/-
What the program's package num does with whole numbers, and cmp.Compare, strings.Compare: each call returns what a Lean function says, and leaves the world as it was.
-/
import Derived.Test.YtfneopcbnlfkiaaKinds
import Derived.Lib.Bytealg
namespace Go.Proofs.Ytfneopcbnlfkiaa.Num
open Go.RowKit Go.Proofs.YtfneopcbnlfkiaaW.PrintWords Go.Proofs.Ytfneopcbnlfkiaa.Kin
set_option linter.unusedVariables false

theorem ret_int {k : IntKind} {a b : Int} (h : a = b) : Ending.returned (.int k a) = .returned (.int k b) := by rw [h]
theorem ret_bool {a b : Bool} (h : a = b) : Ending.returned (.bool a) = .returned (.bool b) := by rw [h]
/-- 2^63. -/
def big : Int := 9223372036854775808
def kept (n : Int) (ok : Bool) : Int × Bool := if ok then (n, true) else (0, false)
def least (a : Int) : Bool := IntKind.u64.wrap a == big
def sameN (a b : Int) : Bool := Go.bits .xor .i64 a b / big == 0
def neg (a : Int) : Int × Bool := kept (wrap64 (-a)) (!least a)
def add (a b : Int) : Int × Bool := kept (wrap64 (a + b)) (!sameN a b || sameN a (wrap64 (a + b)))
def sub (a b : Int) : Int × Bool := kept (wrap64 (a - b)) (sameN a b || sameN a (wrap64 (a - b)))
def mul (a b : Int) : Int × Bool := if a = 0 ∨ b = 0 then (0, true) else if a = -1 then neg b else if b = -1 then neg a else kept (wrap64 (a * b)) (wrap64 ((wrap64 (a * b)).tdiv b) == a)
def div (a b : Int) : Int × Bool := if b = 0 then (0, false) else if b = -1 then neg a else (wrap64 (a.tdiv b), true)
def mod (a b : Int) : Int × Bool := if b = 0 then (0, false) else if b = -1 then (0, true) else (a.tmod b, true)
abbrev enP (x : Int × Bool) : Value := .tuple #[.int .i64 x.1, .bool x.2]

set_option maxHeartbeats 400000 in
theorem kept_calls (n : Int) (ok : Bool) (w : World) :
    Calls Try.prog 237 #[.int .i64 n, .bool ok] w fun e w' => e = .returned (enP (kept n ok)) ∧ w = w' := by
  cases ok
  all_goals
    go_enter Try.func237, Try.ntmps237
    go_wp2
    go_ret2
    exact ⟨rfl, rfl⟩
set_option maxHeartbeats 400000 in
theorem least_calls (a : Int) (w : World) :
    Calls Try.prog 238 #[.int .i64 a] w fun e w' => e = .returned (.bool (least a)) ∧ w = w' := by
  go_enter Try.func238, Try.ntmps238
  go_wp2
  go_ret
  exact ⟨rfl, rfl⟩
set_option maxHeartbeats 400000 in
theorem same_calls (a b : Int) (w : World) :
    Calls Try.prog 239 #[.int .i64 a, .int .i64 b] w fun e w' => e = .returned (.bool (sameN a b)) ∧ w = w' := by
  go_enter Try.func239, Try.ntmps239
  go_wp2
  go_ret
  exact ⟨rfl, rfl⟩
set_option maxHeartbeats 400000 in
theorem neg_calls (a : Int) (w : World) :
    Calls Try.prog 218 #[.int .i64 a] w fun e w' => e = .returned (enP (neg a)) ∧ w = w' := by
  go_enter Try.func218, Try.ntmps218
  go_wp2_with (first | (go_at_call 238; refine (least_calls _ _).mono ?_; rintro e w' ⟨rfl, rfl⟩) | (go_at_call 237; refine (kept_calls _ _ _).mono ?_; rintro e w' ⟨rfl, rfl⟩))
  go_ret2
  exact ⟨rfl, rfl⟩
set_option maxHeartbeats 400000 in
theorem add_calls (a b : Int) (w : World) :
    Calls Try.prog 219 #[.int .i64 a, .int .i64 b] w fun e w' => e = .returned (enP (add a b)) ∧ w = w' := by
  cases h : sameN a b
  all_goals
    have H := Aside0.mk h; clear h
    go_enter Try.func219, Try.ntmps219
    go_wp2_with (first | (go_at_call 239; refine (same_calls _ _ _).mono ?_; rintro e w' ⟨rfl, rfl⟩; (try rw [H.out])) | (go_at_call 237; refine (kept_calls _ _ _).mono ?_; rintro e w' ⟨rfl, rfl⟩))
    go_ret2
    exact ⟨by simp [add, H.out], rfl⟩
set_option maxHeartbeats 400000 in
theorem sub_calls (a b : Int) (w : World) :
    Calls Try.prog 220 #[.int .i64 a, .int .i64 b] w fun e w' => e = .returned (enP (sub a b)) ∧ w = w' := by
  cases h : sameN a b
  all_goals
    have H := Aside0.mk h; clear h
    go_enter Try.func220, Try.ntmps220
    go_wp2_with (first | (go_at_call 239; refine (same_calls _ _ _).mono ?_; rintro e w' ⟨rfl, rfl⟩; (try rw [H.out])) | (go_at_call 237; refine (kept_calls _ _ _).mono ?_; rintro e w' ⟨rfl, rfl⟩))
    go_ret2
    exact ⟨by simp [sub, H.out], rfl⟩
set_option maxHeartbeats 1000000 in
theorem mul_calls (a b : Int) (w : World) :
    Calls Try.prog 221 #[.int .i64 a, .int .i64 b] w fun e w' => e = .returned (enP (mul a b)) ∧ w = w' := by
  by_cases h0 : a = 0
  · subst h0
    go_enter Try.func221, Try.ntmps221
    go_wp2
    go_ret2
    exact ⟨by simp [mul], rfl⟩
  by_cases h1 : b = 0
  · have e0 : (a == 0) = false := by simp [h0]
    subst h1
    go_enter Try.func221, Try.ntmps221
    go_wp2
    go_ret2
    exact ⟨by simp [mul], rfl⟩
  by_cases h2 : a = -1
  · have e1 : (b == 0) = false := by simp [h1]
    subst h2
    clear h0
    go_enter Try.func221, Try.ntmps221
    go_wp2_with (first | (go_at_call 218; refine (neg_calls _ _).mono ?_; rintro e w' ⟨rfl, rfl⟩))
    go_ret2
    exact ⟨by simp [mul, h1], rfl⟩
  by_cases h3 : b = -1
  · have e1 : (a == 0) = false := by simp [h0]
    have e2 : (a == -1) = false := by simp [h2]
    subst h3
    clear h1
    go_enter Try.func221, Try.ntmps221
    go_wp2_with (first | (go_at_call 218; refine (neg_calls _ _).mono ?_; rintro e w' ⟨rfl, rfl⟩))
    go_ret2
    exact ⟨by simp [mul, h0, h2], rfl⟩
  · have e1 : (a == 0) = false := by simp [h0]
    have e2 : (a == -1) = false := by simp [h2]
    have e3 : (b == 0) = false := by simp [h1]
    have e4 : (b == -1) = false := by simp [h3]
    go_enter Try.func221, Try.ntmps221
    go_wp2_with (first | (go_at_call 237; refine (kept_calls _ _ _).mono ?_; rintro e w' ⟨rfl, rfl⟩))
    go_ret2
    exact ⟨by simp [mul, h0, h1, h2, h3], rfl⟩
set_option maxHeartbeats 1000000 in
theorem div_calls (a b : Int) (w : World) :
    Calls Try.prog 222 #[.int .i64 a, .int .i64 b] w fun e w' => e = .returned (enP (div a b)) ∧ w = w' := by
  by_cases h1 : b = 0
  · subst h1
    go_enter Try.func222, Try.ntmps222
    go_wp2
    go_ret2
    exact ⟨by simp [div], rfl⟩
  by_cases h3 : b = -1
  · subst h3
    clear h1
    go_enter Try.func222, Try.ntmps222
    go_wp2_with (first | (go_at_call 218; refine (neg_calls _ _).mono ?_; rintro e w' ⟨rfl, rfl⟩))
    go_ret2
    exact ⟨by simp [div], rfl⟩
  · have e3 : (b == 0) = false := by simp [h1]
    have e4 : (b == -1) = false := by simp [h3]
    go_enter Try.func222, Try.ntmps222
    go_wp2
    go_ret2
    exact ⟨by simp [div, h1, h3], rfl⟩
set_option maxHeartbeats 1000000 in
theorem mod_calls (a b : Int) (w : World) :
    Calls Try.prog 223 #[.int .i64 a, .int .i64 b] w fun e w' => e = .returned (enP (mod a b)) ∧ w = w' := by
  by_cases h1 : b = 0
  · subst h1
    go_enter Try.func223, Try.ntmps223
    go_wp2
    go_ret2
    exact ⟨by simp [mod], rfl⟩
  by_cases h3 : b = -1
  · subst h3
    clear h1
    go_enter Try.func223, Try.ntmps223
    go_wp2
    go_ret2
    exact ⟨by simp [mod], rfl⟩
  · have e3 : (b == 0) = false := by simp [h1]
    have e4 : (b == -1) = false := by simp [h3]
    go_enter Try.func223, Try.ntmps223
    go_wp2
    go_ret2
    exact ⟨by simp [mod, h1, h3], rfl⟩
def reckon (op a b : Int) : Int × Bool := if op = 4 then neg a else if op = 5 then add a b else if op = 6 then sub a b else if op = 7 then mul a b else if op = 8 then div a b else mod a b
set_option maxHeartbeats 1000000 in
theorem reckon_calls (op a b : Int) (w : World) :
    Calls Try.prog 184 #[.int .i64 op, .int .i64 a, .int .i64 b] w fun e w' => e = .returned (enP (reckon op a b)) ∧ w = w' := by
  go_enter Try.func184, Try.ntmps184
  go_wp2_with (first | (go_at_call 218; refine (neg_calls _ _).mono ?_; rintro e w' ⟨rfl, rfl⟩) | (go_at_call 219; refine (add_calls _ _ _).mono ?_; rintro e w' ⟨rfl, rfl⟩) | (go_at_call 220; refine (sub_calls _ _ _).mono ?_; rintro e w' ⟨rfl, rfl⟩) | (go_at_call 221; refine (mul_calls _ _ _).mono ?_; rintro e w' ⟨rfl, rfl⟩) | (go_at_call 222; refine (div_calls _ _ _).mono ?_; rintro e w' ⟨rfl, rfl⟩) | (go_at_call 223; refine (mod_calls _ _ _).mono ?_; rintro e w' ⟨rfl, rfl⟩))
  all_goals go_ret2
  all_goals exact ⟨by simp_all [reckon], rfl⟩

/-! ### cmp.Compare, strings.Compare -/
def cmpI (a b : Int) : Int := if a < b then -1 else if b < a then 1 else 0
set_option maxHeartbeats 400000 in
theorem isNaN_calls (a : Int) (w : World) :
    Calls Try.prog 241 #[.int .i64 a] w fun e w' => e = .returned (.bool false) ∧ w = w' := by
  go_enter Try.func241, Try.ntmps241
  go_wp2
  go_ret
  exact ⟨by simp, rfl⟩
set_option maxHeartbeats 400000 in
theorem isNaN64_calls (a : Int) (w : World) :
    Calls Try.prog 242 #[.int .i64 a] w fun e w' => e = .returned (.bool false) ∧ w = w' := by
  go_enter Try.func242, Try.ntmps242
  go_wp2
  go_ret
  exact ⟨by simp, rfl⟩
set_option maxHeartbeats 400000 in
theorem cmpI_calls (a b : Int) (w : World) :
    Calls Try.prog 234 #[.int .i64 a, .int .i64 b] w fun e w' => e = .returned (.int .i64 (cmpI a b)) ∧ w = w' := by
  go_enter Try.func234, Try.ntmps234
  go_wp2_with (first | (go_at_call 241; refine (isNaN_calls _ _).mono ?_; rintro e w' ⟨rfl, rfl⟩))
  all_goals go_ret
  · exact ⟨ret_int (by unfold cmpI; rw [if_pos (by assumption)]), rfl⟩
  · exact ⟨ret_int (by unfold cmpI; rw [if_neg (by omega), if_pos (by assumption)]), rfl⟩
  · exact ⟨ret_int (by unfold cmpI; rw [if_neg (by omega), if_neg (by omega)]), rfl⟩
set_option maxHeartbeats 400000 in
theorem cmpI64_calls (a b : Int) (w : World) :
    Calls Try.prog 235 #[.int .i64 a, .int .i64 b] w fun e w' => e = .returned (.int .i64 (cmpI a b)) ∧ w = w' := by
  go_enter Try.func235, Try.ntmps235
  go_wp2_with (first | (go_at_call 242; refine (isNaN64_calls _ _).mono ?_; rintro e w' ⟨rfl, rfl⟩))
  all_goals go_ret
  · exact ⟨ret_int (by unfold cmpI; rw [if_pos (by assumption)]), rfl⟩
  · exact ⟨ret_int (by unfold cmpI; rw [if_neg (by omega), if_pos (by assumption)]), rfl⟩
  · exact ⟨ret_int (by unfold cmpI; rw [if_neg (by omega), if_neg (by omega)]), rfl⟩
set_option maxHeartbeats 1000000 in
set_option maxRecDepth 100000 in
theorem cmpStr0_calls (a b : ByteArray) (w : World) :
    Calls Try.prog 243 #[.string a, .string b] w fun e w' => e = .returned (.int .i64 (Lib.compareBytes a.data.toList b.data.toList)) ∧ w = w' := by
  go_enter Try.func243, Try.ntmps243
  go_wp2
  rw [run_callFunc_extern Try.func244 (by kernel_rfl) (by kernel_rfl) (by kernel_rfl) (e := Extern.BytealgCompare.compare) (by kernel_rfl), Lib.run_compareString]
  simp only [Result.andThen]
  rw [Oper.upon_value]
  go_wp2
  go_ret
  exact ⟨rfl, rfl⟩
set_option maxHeartbeats 400000 in
theorem cmpStr_calls (a b : ByteArray) (w : World) :
    Calls Try.prog 236 #[.string a, .string b] w fun e w' => e = .returned (.int .i64 (Lib.compareBytes a.data.toList b.data.toList)) ∧ w = w' := by
  go_enter Try.func236, Try.ntmps236
  go_wp2_with (first | (go_at_call 243; refine (cmpStr0_calls _ _ _).mono ?_; rintro e w' ⟨rfl, rfl⟩))
  go_ret
  exact ⟨rfl, rfl⟩
end Go.Proofs.Ytfneopcbnlfkiaa.Num
