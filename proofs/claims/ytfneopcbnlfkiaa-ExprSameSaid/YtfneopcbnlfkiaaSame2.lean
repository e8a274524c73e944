/-
expr.Same: whether two expressions are one.
-/
import Derived.Test.YtfneopcbnlfkiaaSame
namespace Go.Proofs.Ytfneopcbnlfkiaa.Ex
open Go.RowKit Go.Proofs.YtfneopcbnlfkiaaW.PrintWords Go.Proofs.Ytfneopcbnlfkiaa.Kin Go.Proofs.Ytfneopcbnlfkiaa.Num Go.Proofs.Ytfneopcbnlfkiaa.Base Go.Proofs.YtfneopcbnlfkiaaW.PrintLast
set_option linter.unusedVariables false
set_option linter.unusedSimpArgs false
attribute [local go_sem high] eqA30
theorem sameE_false {x y : S32} (h : x ≠ y) : sameE x y = false := by
  cases e : sameE x y
  · rfl
  · exact absurd (sameE_iff.1 e) h
theorem bytes_one {a b : ByteArray} (h : a.toList = b.toList) : a = b := by
  rw [ByteArray.toList_eq, ByteArray.toList_eq] at h
  exact WideShapes.bytes_inj h
theorem sameE_plain {o o' k k' : Int} {t t' n n' : ByteArray} {v v' : S30} {l m : List S32} (h0 : o = o') (h1 : t.toList = t'.toList) (h2 : n.toList = n'.toList) (h3 : k = k') (h4 : v.f0 = v'.f0 ∧ v.f1 = v'.f1 ∧ v.f2.toList = v'.f2.toList) : sameE ⟨o, t, n, k, v, l⟩ ⟨o', t', n', k', v', m⟩ = sameL l m := by
  obtain rfl := bytes_one h1
  obtain rfl := bytes_one h2
  obtain ⟨a, b, s⟩ := v
  obtain ⟨a', b', s'⟩ := v'
  obtain ⟨h5, h6, h7⟩ := h4
  obtain rfl := bytes_one h7
  simp only at h5 h6
  subst h0 h3 h5 h6
  cases h : sameL l m
  · exact sameE_false (fun e => by simp only [S32.mk.injEq, true_and] at e; rw [sameL_iff.2 e] at h; cases h)
  · exact sameE_iff.2 (by rw [sameL_iff.1 h])
set_option maxHeartbeats 8000000 in
set_option maxRecDepth 100000 in
theorem same_calls (x y : S32) (A B : Option Addr) (c d : Nat) (w : World) (ha : k32.C w A x.f5.length x.f5) (hb : k32.C w B y.f5.length y.f5) :
    Calls Try.prog 51 #[enE x A c, enE y B d] w fun e w' => e = .returned (.bool (sameE x y)) ∧ Below w.heap.size w w' := by
  have ih : ∀ a ∈ x.f5, ∀ (b : S32) (A' B' : Option Addr) (c' d' : Nat) (W : World), k32.C W A' a.f5.length a.f5 → k32.C W B' b.f5.length b.f5 → Calls Try.prog 51 #[enE a A' c', enE b B' d'] W fun e w' => e = .returned (.bool (sameE a b)) ∧ Below W.heap.size W w' := fun a hm b A' B' c' d' W h1 h2 => same_calls a b A' B' c' d' W h1 h2
  have hu := Try.underlying30
  have hu32 := Try.underlying32
  have HA := Aside0.mk ha
  have HB := Aside0.mk hb
  have IH := Aside0.mk ih
  clear ha hb ih
  obtain ⟨o, t, n, k, v, l⟩ := x
  obtain ⟨o', t', n', k', v', m⟩ := y
  simp only at HA HB IH
  go_enter Try.func51, Try.ntmps51
  go_wp2_with fail
  rotate_right
  all_goals try (refine ret_ex rfl ?_; apply Exists.intro; refine ⟨?_, ?_, ?_⟩; (simp [results, Try.results51]; rfl); (rw [sameE_false (by intro e; simp only [S32.mk.injEq] at e; simp_all)]); (repeat (first | assumption | exact Below.refl _ _ | apply below_alloc | apply pw_below_drewN | apply below_drew1 | (refine setC ?_ (by omega) _))))
  have hS := Aside0.mk (sameE_plain (l := l) (m := m) (show o = o' by assumption) (show t.toList = t'.toList by assumption) (show n.toList = n'.toList by assumption) (show k = k' by assumption) (show v.f0 = v'.f0 ∧ v.f1 = v'.f1 ∧ v.f2.toList = v'.f2.toList by assumption))
  refine (equal_calls l m A B c d _ rfl _ (Kd.C_below HA.out (by repeat (first | assumption | exact Below.refl _ _ | apply below_alloc | apply pw_below_drewN | apply below_drew1 | (refine setC ?_ (by omega) _)))) (Kd.C_below HB.out (by repeat (first | assumption | exact Below.refl _ _ | apply below_alloc | apply pw_below_drewN | apply below_drew1 | (refine setC ?_ (by omega) _)))) IH.out).mono ?_
  rintro e w2 ⟨rfl, hb⟩
  have hB2 : Below w.heap.size w w2 := (by refine belT ?_ hb; repeat (first | assumption | exact Below.refl _ _ | apply below_alloc | apply pw_below_drewN | apply below_drew1 | (refine setC ?_ (by omega) _)))
  go_wp2
  all_goals (refine ret_ex rfl ?_; apply Exists.intro; refine ⟨?_, ?_, ?_⟩; (simp [results, Try.results51]; rfl); (rw [hS.out]); exact hB2)
termination_by SizeOf.sizeOf x
decreasing_by have := List.sizeOf_lt_of_mem hm; cases x; simp at this ⊢; omega
end Go.Proofs.Ytfneopcbnlfkiaa.Ex
