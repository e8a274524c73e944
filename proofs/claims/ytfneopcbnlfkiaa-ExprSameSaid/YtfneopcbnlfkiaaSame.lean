/-
expr.Same and slices.EqualFunc over it: whether two expressions are one.
-/
import Derived.Test.YtfneopcbnlfkiaaFew
namespace Go.Proofs.Ytfneopcbnlfkiaa.Ex
open Go.RowKit Go.Proofs.YtfneopcbnlfkiaaW.PrintWords Go.Proofs.Ytfneopcbnlfkiaa.Kin Go.Proofs.Ytfneopcbnlfkiaa.Num Go.Proofs.Ytfneopcbnlfkiaa.Base Go.Proofs.YtfneopcbnlfkiaaW.PrintLast
set_option linter.unusedVariables false
set_option linter.unusedSimpArgs false
attribute [local go_sem high] eqA30
/-- Whether two expressions are one; whether two lists are. -/
noncomputable def sameE (x y : S32) : Bool := @decide (x = y) (Classical.propDecidable _)
noncomputable def sameL (l m : List S32) : Bool := @decide (l = m) (Classical.propDecidable _)
theorem sameE_iff {x y : S32} : sameE x y = true ↔ x = y := by simp [sameE]
theorem sameL_iff {l m : List S32} : sameL l m = true ↔ l = m := by simp [sameL]
theorem sameL_false {l m : List S32} (h : l ≠ m) : sameL l m = false := by
  cases e : sameL l m
  · rfl
  · exact absurd (sameL_iff.1 e) h
theorem rd_get {l : List S32} {i : Nat} (h : i < l.length) : l[i]? = some (rd_T32 l i) := by
  simp [rd_T32, h]
theorem take_next {l m : List S32} {i : Nat} (h1 : i < l.length) (h2 : i < m.length) (ht : l.take i = m.take i) (he : rd_T32 l i = rd_T32 m i) : l.take (i + 1) = m.take (i + 1) := by
  rw [List.take_add_one, List.take_add_one, ht, rd_get h1, rd_get h2, he]
set_option maxHeartbeats 8000000 in
set_option maxRecDepth 100000 in
theorem equal_calls (l m : List S32) (A B : Option Addr) (c d : Nat) (fv : Value) (hfv : fv = .func (.func 51) #[] #[]) (w : World) (ha : k32.C w A l.length l) (hb : k32.C w B m.length m)
    (ih : ∀ a ∈ l, ∀ (b : S32) (A' B' : Option Addr) (c' d' : Nat) (W : World), k32.C W A' a.f5.length a.f5 → k32.C W B' b.f5.length b.f5 → Calls Try.prog 51 #[enE a A' c', enE b B' d'] W fun e w' => e = .returned (.bool (sameE a b)) ∧ Below W.heap.size W w') :
    Calls Try.prog 119 #[.slice A l.length c, .slice B m.length d, fv] w fun e w' => e = .returned (.bool (sameL l m)) ∧ Below w.heap.size w w' := by
  have hu := Try.underlying30
  have hu32 := Try.underlying32
  have hmax := Kd.C_max ha
  have hmax2 := Kd.C_max hb
  have HA := Aside0.mk ha
  have HB := Aside0.mk hb
  have IH := Aside0.mk ih
  clear ha hb ih
  subst hfv
  by_cases hn : l.length = m.length
  · have hn' : ((l.length : Int) != (m.length : Int)) = false := by simp [hn]
    have HN := Aside0.mk hn
    clear hn
    go_enter Try.func119, Try.ntmps119
    go_wp2_with fail
    clear hn'
    go_loopg [17] l.length (fun k s17 wr => ∃ i : Nat, s17 = .int .i64 i ∧ i + k = l.length ∧ Aside0 (l.take i = m.take i) ∧ Below w.heap.size w wr)
    · exact ⟨0, rfl, by omega, ⟨by simp⟩, Below.refl _ _⟩
    · obtain ⟨i, rfl, hi, ht, hB⟩ := hrel
      by_cases hlt : i < l.length
      · have hlt2 : i < m.length := by have := HN.out; omega
        obtain ⟨ad, A7, c7, rfl, g0, g1, g2, g3, g4, g5, g6, g7, hl7, gA⟩ := at_T32 (Kd.C_below HA.out hB) i (by omega) (by omega)
        obtain ⟨bd, B7, d7, rfl, k0, k1, k2, k3, k4, k5, k6, k7, hm7, gB⟩ := at_T32 (Kd.C_below HB.out hB) i (by omega) (by omega)
        simp only [Int.toNat_natCast] at g0 g1 g2 g3 g4 g5 g6 g7 k0 k1 k2 k3 k4 k5 k6 k7
        obtain ⟨q0, q1, q2, q3, q4, q5, q6⟩ := lt_chain6 (World.block_lt_of_cell? wr _ g0)
        obtain ⟨p0, p1, p2, p3, p4, p5, p6⟩ := lt_chain6 (World.block_lt_of_cell? wr _ k0)
        have HI := Aside0.mk hi
        have GA := Aside0.mk gA
        have GB := Aside0.mk gB
        have hm : Aside0 (rd_T32 l i ∈ l) := Aside0.mk (by rw [show rd_T32 l i = l[i] from by simp [rd_T32, hlt]]; exact List.getElem_mem hlt)
        clear hi gA gB
        go_wp2_with fail
        refine (IH.out _ hm.out (rd_T32 m i) _ _ _ _ _ (Kd.C_below GA.out (by repeat (first | assumption | exact Below.refl _ _ | apply below_alloc | apply pw_below_drewN | apply below_drew1 | (refine setC ?_ (by omega) _)))) (Kd.C_below GB.out (by repeat (first | assumption | exact Below.refl _ _ | apply below_alloc | apply pw_below_drewN | apply below_drew1 | (refine setC ?_ (by omega) _))))).mono ?_
        rintro e w2 ⟨rfl, hb⟩
        have hB2 : Below w.heap.size w w2 := (by refine belT ?_ hb; repeat (first | assumption | exact Below.refl _ _ | apply below_alloc | apply pw_below_drewN | apply below_drew1 | (refine setC ?_ (by omega) _)))
        cases hs : sameE (rd_T32 l i) (rd_T32 m i)
        · have hne : sameL l m = false := by
            refine sameL_false (fun e => ?_)
            subst e
            rw [sameE_iff.2 rfl] at hs
            cases hs
          go_wp2
          refine ret_ex rfl ?_
          apply Exists.intro
          refine ⟨?_, ?_, ?_⟩
          · simp [results, Try.results119]; rfl
          · rw [hne]
          · exact hB2
        · have hq := take_next hlt hlt2 ht.out (sameE_iff.1 hs)
          have HQ := Aside0.mk hq
          clear hq
          go_wp2
          go_roundg (gk - 1)
          · exact ⟨i + 1, by simp, by have := HI.out; omega, HQ, hB2⟩
          · have := HI.out; omega
      · have he : sameL l m = true := by
          refine sameL_iff.2 ?_
          have e1 := ht.out
          rw [List.take_of_length_le (by omega), List.take_of_length_le (by have := HN.out; omega)] at e1
          exact e1
        go_wp2
        refine ret_ex rfl ?_
        apply Exists.intro
        refine ⟨?_, ?_, ?_⟩
        · simp [results, Try.results119]; rfl
        · rw [he]
        · exact hB
  · have hn' : ((l.length : Int) != (m.length : Int)) = true := by simp; omega
    have he : sameL l m = false := sameL_false (fun e => hn (by rw [e]))
    clear hn
    go_enter Try.func119, Try.ntmps119
    go_wp2
    refine ret_ex rfl ?_
    apply Exists.intro
    refine ⟨?_, ?_, ?_⟩
    · simp [results, Try.results119]; rfl
    · rw [he]
    · exact Below.refl _ _
end Go.Proofs.Ytfneopcbnlfkiaa.Ex
