/-
expr.Sums: whether there is a sum in an expression; slices.ContainsFunc, slices.IndexFunc over it.
-/
import Derived.Test.YtfneopcbnlfkiaaFew
namespace Go.Proofs.Ytfneopcbnlfkiaa.Ex
open Go.RowKit Go.Proofs.YtfneopcbnlfkiaaW.PrintWords Go.Proofs.Ytfneopcbnlfkiaa.Kin Go.Proofs.Ytfneopcbnlfkiaa.Num Go.Proofs.Ytfneopcbnlfkiaa.Base Go.Proofs.YtfneopcbnlfkiaaW.PrintLast
set_option linter.unusedVariables false
set_option linter.unusedSimpArgs false
/-- Whether there is a sum. -/
def sumsX (e : S32) : Bool := sumOp e.f0 || e.f5.attach.any fun ⟨x, _⟩ => sumsX x
termination_by SizeOf.sizeOf e
decreasing_by have := List.sizeOf_lt_of_mem ‹_›; cases e; simp at this ⊢; omega
theorem sumsX_eq (e : S32) : sumsX e = (sumOp e.f0 || e.f5.any sumsX) := by
  rw [sumsX]
  congr 1
  rw [Bool.eq_iff_iff]
  simp
def IdxOf (b : Bool) (e : Ending) : Prop := ∃ r : Int, e = .returned (.int .i64 r) ∧ decide (0 ≤ r) = b
theorem any_take {l : List S32} {i : Nat} (h : i < l.length) : (l.take (i + 1)).any sumsX = ((l.take i).any sumsX || sumsX (rd_T32 l i)) := by
  rw [List.take_add_one, show l[i]? = some (rd_T32 l i) by simp [rd_T32, h]]
  simp
theorem any_of_mem {l : List S32} {i : Nat} (h : i < l.length) (hs : sumsX (rd_T32 l i) = true) : l.any sumsX = true := by
  refine List.any_eq_true.2 ⟨_, ?_, hs⟩
  rw [show rd_T32 l i = l[i] from by simp [rd_T32, h]]
  exact List.getElem_mem h
set_option maxHeartbeats 8000000 in
set_option maxRecDepth 100000 in
theorem sumsIdx_calls (l : List S32) (A : Option Addr) (c : Nat) (fv : Value) (hfv : fv = .func (.func 55) #[] #[]) (w : World) (ha : k32.C w A l.length l)
    (ih : ∀ a ∈ l, ∀ (A' : Option Addr) (c' : Nat) (W : World), k32.C W A' a.f5.length a.f5 → Calls Try.prog 55 #[enE a A' c'] W fun e w' => e = .returned (.bool (sumsX a)) ∧ Below W.heap.size W w') :
    Calls Try.prog 188 #[.slice A l.length c, fv] w fun e w' => IdxOf (l.any sumsX) e ∧ Below w.heap.size w w' := by
  have hu := Try.underlying30
  have hu32 := Try.underlying32
  have hmax := Kd.C_max ha
  have HA := Aside0.mk ha
  have IH := Aside0.mk ih
  clear ha ih
  subst hfv
  go_enter Try.func188, Try.ntmps188
  go_wp2_with fail
  go_loopg [8] l.length (fun k s8 wr => ∃ i : Nat, s8 = .int .i64 i ∧ i + k = l.length ∧ Aside0 ((l.take i).any sumsX = false) ∧ Below w.heap.size w wr)
  · exact ⟨0, rfl, by omega, ⟨by simp⟩, Below.refl _ _⟩
  · obtain ⟨i, rfl, hi, ht, hB⟩ := hrel
    by_cases hlt : i < l.length
    · obtain ⟨ad, A7, c7, rfl, g0, g1, g2, g3, g4, g5, g6, g7, hl7, gA⟩ := at_T32 (Kd.C_below HA.out hB) i (by omega) (by omega)
      simp only [Int.toNat_natCast] at g0 g1 g2 g3 g4 g5 g6 g7
      have HI := Aside0.mk hi
      have GA := Aside0.mk gA
      have hm : Aside0 (rd_T32 l i ∈ l) := Aside0.mk (by rw [show rd_T32 l i = l[i] from by simp [rd_T32, hlt]]; exact List.getElem_mem hlt)
      clear hi gA
      go_wp2_with fail
      refine (IH.out _ hm.out _ _ _ (Kd.C_below GA.out (by repeat (first | assumption | exact Below.refl _ _ | apply below_alloc | apply pw_below_drewN | apply below_drew1 | (refine setC ?_ (by omega) _))))).mono ?_
      rintro e w2 ⟨rfl, hb⟩
      have hB2 : Below w.heap.size w w2 := (by refine belT ?_ hb; repeat (first | assumption | exact Below.refl _ _ | apply below_alloc | apply pw_below_drewN | apply below_drew1 | (refine setC ?_ (by omega) _)))
      cases hs : sumsX (rd_T32 l i)
      · have hq := any_take hlt
        rw [ht.out, hs] at hq
        have HQ := Aside0.mk hq
        clear hq
        go_wp2
        go_roundg (gk - 1)
        · exact ⟨i + 1, by simp, by have := HI.out; omega, ⟨HQ.out⟩, hB2⟩
        · have := HI.out; omega
      · have hne := any_of_mem hlt hs
        go_wp2
        refine ret_ex rfl ?_
        apply Exists.intro
        refine ⟨?_, ?_, ?_⟩
        · simp [results, Try.results188]; rfl
        · exact ⟨_, rfl, by rw [hne]; simp⟩
        · exact hB2
    · have he : l.any sumsX = false := by
        have e1 := ht.out
        rwa [List.take_of_length_le (by omega)] at e1
      go_wp2
      refine ret_ex rfl ?_
      apply Exists.intro
      refine ⟨?_, ?_, ?_⟩
      · simp [results, Try.results188]; rfl
      · exact ⟨_, rfl, by rw [he]; simp⟩
      · exact hB
set_option maxHeartbeats 8000000 in
set_option maxRecDepth 100000 in
theorem sumsAny_calls (l : List S32) (A : Option Addr) (c : Nat) (fv : Value) (hfv : fv = .func (.func 55) #[] #[]) (w : World) (ha : k32.C w A l.length l)
    (ih : ∀ a ∈ l, ∀ (A' : Option Addr) (c' : Nat) (W : World), k32.C W A' a.f5.length a.f5 → Calls Try.prog 55 #[enE a A' c'] W fun e w' => e = .returned (.bool (sumsX a)) ∧ Below W.heap.size W w') :
    Calls Try.prog 126 #[.slice A l.length c, fv] w fun e w' => e = .returned (.bool (l.any sumsX)) ∧ Below w.heap.size w w' := by
  have HA := Aside0.mk ha
  have IH := Aside0.mk ih
  have HF := Aside0.mk hfv
  clear ha ih hfv
  go_enter Try.func126, Try.ntmps126
  go_wp2_with fail
  refine (sumsIdx_calls l A c _ HF.out _ HA.out IH.out).mono ?_
  rintro e w2 ⟨⟨r, rfl, hr⟩, hb⟩
  have HR := Aside0.mk hr
  clear hr
  go_wp2
  refine ret_ex rfl ?_
  apply Exists.intro
  refine ⟨?_, ?_, ?_⟩
  · simp [results, Try.results126]; rfl
  · rw [← HR.out]
  · exact hb
set_option maxHeartbeats 8000000 in
set_option maxRecDepth 100000 in
theorem sums_calls (x : S32) (A : Option Addr) (c : Nat) (w : World) (ha : k32.C w A x.f5.length x.f5) :
    Calls Try.prog 55 #[enE x A c] w fun e w' => e = .returned (.bool (sumsX x)) ∧ Below w.heap.size w w' := by
  have ih : ∀ a ∈ x.f5, ∀ (A' : Option Addr) (c' : Nat) (W : World), k32.C W A' a.f5.length a.f5 → Calls Try.prog 55 #[enE a A' c'] W fun e w' => e = .returned (.bool (sumsX a)) ∧ Below W.heap.size W w' := fun a hm A' c' W h1 => sums_calls a A' c' W h1
  have hu := Try.underlying30
  have hu32 := Try.underlying32
  have hx := sumsX_eq x
  have HX := Aside0.mk hx
  have HA := Aside0.mk ha
  have IH := Aside0.mk ih
  clear ha ih hx
  cases hs : sumOp x.f0
  · go_enter Try.func55, Try.ntmps55
    go_wp2_with fail
    refine (sum_calls _ _).mono ?_
    rintro e w2 ⟨rfl, rfl⟩
    go_wp2_with fail
    refine (sumsAny_calls x.f5 A c _ rfl _ (Kd.C_below HA.out (by repeat (first | assumption | exact Below.refl _ _ | apply below_alloc | apply pw_below_drewN | apply below_drew1 | (refine setC ?_ (by omega) _)))) IH.out).mono ?_
    rintro e w2 ⟨rfl, hb⟩
    have hB2 : Below w.heap.size w w2 := (by refine belT ?_ hb; repeat (first | assumption | exact Below.refl _ _ | apply below_alloc | apply pw_below_drewN | apply below_drew1 | (refine setC ?_ (by omega) _)))
    go_wp2
    refine ret_ex rfl ?_
    apply Exists.intro
    refine ⟨?_, ?_, ?_⟩
    · simp [results, Try.results55]; rfl
    · rw [HX.out, hs]; simp
    · exact hB2
  · go_enter Try.func55, Try.ntmps55
    go_wp2_with fail
    refine (sum_calls _ _).mono ?_
    rintro e w2 ⟨rfl, rfl⟩
    go_wp2
    refine ret_ex rfl ?_
    apply Exists.intro
    refine ⟨?_, ?_, ?_⟩
    · simp [results, Try.results55]; rfl
    · rw [HX.out, hs]; simp
    · exact below_alloc (Below.refl _ _) _
termination_by SizeOf.sizeOf x
decreasing_by have := List.sizeOf_lt_of_mem hm; cases x; simp at this ⊢; omega
end Go.Proofs.Ytfneopcbnlfkiaa.Ex
