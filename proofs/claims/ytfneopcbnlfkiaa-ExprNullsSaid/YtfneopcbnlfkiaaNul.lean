/-
plenumlaw22.ExprNulls.
-/
import Derived.Test.YtfneopcbnlfkiaaAw
import Derived.Test.YtfneopcbnlfkiaaEq
namespace Go.Proofs.Ytfneopcbnlfkiaa.Ex
open Go.RowKit Go.Proofs.YtfneopcbnlfkiaaW.PrintWords Go.Proofs.Ytfneopcbnlfkiaa.Kin Go.Proofs.Ytfneopcbnlfkiaa.Num Go.Proofs.Ytfneopcbnlfkiaa.Base Go.Proofs.YtfneopcbnlfkiaaW.PrintLast
set_option linter.unusedVariables false
set_option linter.unusedSimpArgs false
attribute [local go_sem high] eqA30
theorem nulls1 {op : Int} {v : S30} (h0 : 5 ≤ op) (h1 : op ≤ 15) : (evalX [] (two op (litE v) (litE z30))).2 = 0 ∧ (evalX [] (two op (litE v) (litE z30))).1.f0 = 0 := by
  have h16 : op ≠ 16 := by omega
  have h17 : op ≠ 17 := by omega
  have h18 : op ≠ 18 := by omega
  have h19 : op ≠ 19 := by omega
  have h4 : op ≠ 4 := by omega
  have hr : 5 ≤ op ∧ op ≤ 18 ∧ op ≠ 16 := ⟨h0, by omega, h16⟩
  simp only [evalX, if_pos hr, if_true, seq2, fin, h19, if_false]
  split
  · simp [compareV, z30]
  · have e : whole z30 = z30 := by rfl
    simp [applyV, h16, h17, h18, h4, e]
    simp [z30]
theorem nulls2 {op : Int} {v : S30} (h0 : 5 ≤ op) (h1 : op ≤ 15) : (evalX [] (two op (litE z30) (litE v))).2 = 0 ∧ (evalX [] (two op (litE z30) (litE v))).1.f0 = 0 := by
  have h16 : op ≠ 16 := by omega
  have h17 : op ≠ 17 := by omega
  have h18 : op ≠ 18 := by omega
  have h19 : op ≠ 19 := by omega
  have h4 : op ≠ 4 := by omega
  have hr : 5 ≤ op ∧ op ≤ 18 ∧ op ≠ 16 := ⟨h0, by omega, h16⟩
  simp only [evalX, if_pos hr, if_true, seq2, fin, h19, if_false]
  split
  · simp [compareV, z30]
  · have e : whole z30 = z30 := by rfl
    simp [applyV, h16, h17, h18, h4, e]
    simp [z30]
theorem null19 {v : S30} : evalX [] (one 19 (litE v)) = (truthV (v.f0 == 0), 0) := by simp [evalX, seq1, fin]
theorem null16 : evalX [] (one 16 (litE z30)) = (z30, 0) := by rfl
set_option maxHeartbeats 8000000 in
set_option maxRecDepth 100000 in
/-- ExprNulls returns true. -/
theorem nulls_calls (op : Int) (v : S30) (other : Bool) (w : World) : Calls Try.prog 7 #[.int .i64 op, enV v, .bool other] w fun e w' => e = .returned (.bool true) ∧ Below w.heap.size w w' := by
  have hu := Try.underlying30
  have hu32 := Try.underlying32
  go_enter Try.func7, Try.ntmps7
  go_wp2_with fail
  refine (awake_calls _).mono ?_
  rintro e wa ⟨rfl, hba⟩
  have hBa : Below w.heap.size w wa := (by refine belT ?_ hba; repeat (first | assumption | exact Below.refl _ _ | apply below_alloc | apply pw_below_drewN | apply below_drew1 | (refine setC ?_ (by omega) _)))
  obtain ⟨hca, hfa⟩ := bcell hba
  have hza := hba.size
  (simp at hza)
  obtain ⟨za0, za1, za2, za3, za4, za5, za6⟩ := lt_chain6 (show w.heap.size < wa.heap.size by omega)
  by_cases hg : (v.f2.size : Int) ≤ 100 ∧ 5 ≤ op ∧ op ≤ 15
  · obtain ⟨hs, h0, h15⟩ := hg
    cases other
    · go_wp2_with fail
      refine (eval_some (two op (litE v) (litE z30)) (rs := []) _ _ none 0 _ ?_ ?_).mono ?_
      · exact Kd.C_nil _ _
      · exact mk2 (Nat.le_refl 0) (Kd.C_nil _ _) (Nat.le_refl 0) (Kd.C_nil _ _) (by go_simp <;> rfl) (by go_simp <;> rfl) (by go_simp <;> rfl) (by go_simp <;> rfl) (by go_simp <;> rfl) (by go_simp <;> rfl) (by go_simp <;> rfl) (by go_simp <;> rfl) (by go_simp <;> rfl) (by go_simp <;> rfl) (by go_simp <;> rfl) (by go_simp <;> rfl) (by go_simp <;> rfl) (by go_simp <;> rfl) (by go_simp <;> rfl) (by go_simp <;> rfl)
      rintro e w2 ⟨r1, HE1, rfl, hb1⟩; have E1 := nulls1 (op := op) (v := v) h0 h15; rw [HE1.out] at E1; have b1 : (r1.2 == 0) = true := (by simp [E1.1]); have b2 : (r1.1.f0 == 0) = true := (by simp [E1.2]); clear E1 HE1; have hB1 : Below w.heap.size w w2 := (by refine belT ?_ hb1; repeat (first | assumption | exact Below.refl _ _ | apply below_alloc | apply pw_below_drewN | apply below_drew1 | (refine setC ?_ (by omega) _))); obtain ⟨hc1, hf1⟩ := bcell hb1; have hz1 := hb1.size; (simp at hz1); obtain ⟨z10, z11, z12, z13, z14, z15, z16⟩ := lt_chain6 (show w.heap.size < w2.heap.size by omega); obtain ⟨y10, y11, y12, y13, y14, y15, y16⟩ := lt_chain6 (show wa.heap.size < w2.heap.size by omega); obtain ⟨x10, x11, x12, x13, x14, x15, x16⟩ := lt_chain6 (show wa.heap.size + 1 < w2.heap.size by omega)
      go_wp2_with fail
      refine (eval_some (one 19 (litE v)) (rs := []) _ _ none 0 _ ?_ ?_).mono ?_
      · exact Kd.C_nil _ _
      · exact mk1 (Nat.le_refl 0) (Kd.C_nil _ _) (by go_simp <;> rfl) (by go_simp <;> rfl) (by go_simp <;> rfl) (by go_simp <;> rfl) (by go_simp <;> rfl) (by go_simp <;> rfl) (by go_simp <;> rfl) (by go_simp <;> rfl)
      rintro e w4 ⟨r2, HE2, rfl, hb2⟩; have E2 : r2 = (truthV (v.f0 == 0), 0) := HE2.out.symm.trans null19; have b3 : (r2.2 == 0) = true := (by rw [E2]; rfl); have b4 : (r2.1.f0 == 1) = true := (by rw [E2]; rfl); have b5 : (r2.1.f1 == 1) = (v.f0 == 0) := (by rw [E2]; simp only [truthV]; cases (v.f0 == 0) <;> rfl); clear E2 HE2; have hB2 : Below w.heap.size w w4 := (by refine belT ?_ hb2; repeat (first | assumption | exact Below.refl _ _ | apply below_alloc | apply pw_below_drewN | apply below_drew1 | (refine setC ?_ (by omega) _))); obtain ⟨hc2, hf2⟩ := bcell hb2; have hz2 := hb2.size; (simp at hz2); obtain ⟨z20, z21, z22, z23, z24, z25, z26⟩ := lt_chain6 (show w.heap.size < w4.heap.size by omega); obtain ⟨y20, y21, y22, y23, y24, y25, y26⟩ := lt_chain6 (show wa.heap.size < w4.heap.size by omega); obtain ⟨x20, x21, x22, x23, x24, x25, x26⟩ := lt_chain6 (show wa.heap.size + 1 < w4.heap.size by omega); obtain ⟨u20, u21, u22, u23, u24, u25, u26⟩ := lt_chain6 (show w2.heap.size < w4.heap.size by omega)
      go_wp2_with fail
      refine (eval_some (one 16 (litE z30)) (rs := []) _ _ none 0 _ ?_ ?_).mono ?_
      · exact Kd.C_nil _ _
      · exact mk1 (Nat.le_refl 0) (Kd.C_nil _ _) (by go_simp <;> rfl) (by go_simp <;> rfl) (by go_simp <;> rfl) (by go_simp <;> rfl) (by go_simp <;> rfl) (by go_simp <;> rfl) (by go_simp <;> rfl) (by go_simp <;> rfl)
      rintro e w6 ⟨r3, HE3, rfl, hb3⟩; have E3 : r3 = (z30, 0) := HE3.out.symm.trans null16; have b6 : (r3.2 == 0) = true := (by rw [E3]; rfl); have b7 : (r3.1.f0 == 0) = true := (by rw [E3]; rfl); clear E3 HE3; have hB3 : Below w.heap.size w w6 := (by refine belT ?_ hb3; repeat (first | assumption | exact Below.refl _ _ | apply below_alloc | apply pw_below_drewN | apply below_drew1 | (refine setC ?_ (by omega) _))); obtain ⟨hc3, hf3⟩ := bcell hb3; have hz3 := hb3.size; (simp at hz3); obtain ⟨z30, z31, z32, z33, z34, z35, z36⟩ := lt_chain6 (show w.heap.size < w6.heap.size by omega); obtain ⟨y30, y31, y32, y33, y34, y35, y36⟩ := lt_chain6 (show wa.heap.size < w6.heap.size by omega); obtain ⟨x30, x31, x32, x33, x34, x35, x36⟩ := lt_chain6 (show wa.heap.size + 1 < w6.heap.size by omega); obtain ⟨u30, u31, u32, u33, u34, u35, u36⟩ := lt_chain6 (show w2.heap.size < w6.heap.size by omega); obtain ⟨t30, t31, t32, t33, t34, t35, t36⟩ := lt_chain6 (show w4.heap.size < w6.heap.size by omega)
      go_wp2
      refine ret_ex rfl ?_
      apply Exists.intro
      refine ⟨?_, ?_, ?_⟩
      · simp [results, Try.results7]; (try go_simp); rfl
      · simp
      · repeat (first | assumption | exact Below.refl _ _ | apply below_alloc | apply pw_below_drewN | apply below_drew1 | (refine setC ?_ (by omega) _))
    · go_wp2_with fail
      refine (eval_some (two op (litE z30) (litE v)) (rs := []) _ _ none 0 _ ?_ ?_).mono ?_
      · exact Kd.C_nil _ _
      · exact mk2 (Nat.le_refl 0) (Kd.C_nil _ _) (Nat.le_refl 0) (Kd.C_nil _ _) (by go_simp <;> rfl) (by go_simp <;> rfl) (by go_simp <;> rfl) (by go_simp <;> rfl) (by go_simp <;> rfl) (by go_simp <;> rfl) (by go_simp <;> rfl) (by go_simp <;> rfl) (by go_simp <;> rfl) (by go_simp <;> rfl) (by go_simp <;> rfl) (by go_simp <;> rfl) (by go_simp <;> rfl) (by go_simp <;> rfl) (by go_simp <;> rfl) (by go_simp <;> rfl)
      rintro e w2 ⟨r1, HE1, rfl, hb1⟩; have E1 := nulls2 (op := op) (v := v) h0 h15; rw [HE1.out] at E1; have b1 : (r1.2 == 0) = true := (by simp [E1.1]); have b2 : (r1.1.f0 == 0) = true := (by simp [E1.2]); clear E1 HE1; have hB1 : Below w.heap.size w w2 := (by refine belT ?_ hb1; repeat (first | assumption | exact Below.refl _ _ | apply below_alloc | apply pw_below_drewN | apply below_drew1 | (refine setC ?_ (by omega) _))); obtain ⟨hc1, hf1⟩ := bcell hb1; have hz1 := hb1.size; (simp at hz1); obtain ⟨z10, z11, z12, z13, z14, z15, z16⟩ := lt_chain6 (show w.heap.size < w2.heap.size by omega); obtain ⟨y10, y11, y12, y13, y14, y15, y16⟩ := lt_chain6 (show wa.heap.size < w2.heap.size by omega); obtain ⟨x10, x11, x12, x13, x14, x15, x16⟩ := lt_chain6 (show wa.heap.size + 1 < w2.heap.size by omega)
      go_wp2_with fail
      refine (eval_some (one 19 (litE v)) (rs := []) _ _ none 0 _ ?_ ?_).mono ?_
      · exact Kd.C_nil _ _
      · exact mk1 (Nat.le_refl 0) (Kd.C_nil _ _) (by go_simp <;> rfl) (by go_simp <;> rfl) (by go_simp <;> rfl) (by go_simp <;> rfl) (by go_simp <;> rfl) (by go_simp <;> rfl) (by go_simp <;> rfl) (by go_simp <;> rfl)
      rintro e w4 ⟨r2, HE2, rfl, hb2⟩; have E2 : r2 = (truthV (v.f0 == 0), 0) := HE2.out.symm.trans null19; have b3 : (r2.2 == 0) = true := (by rw [E2]; rfl); have b4 : (r2.1.f0 == 1) = true := (by rw [E2]; rfl); have b5 : (r2.1.f1 == 1) = (v.f0 == 0) := (by rw [E2]; simp only [truthV]; cases (v.f0 == 0) <;> rfl); clear E2 HE2; have hB2 : Below w.heap.size w w4 := (by refine belT ?_ hb2; repeat (first | assumption | exact Below.refl _ _ | apply below_alloc | apply pw_below_drewN | apply below_drew1 | (refine setC ?_ (by omega) _))); obtain ⟨hc2, hf2⟩ := bcell hb2; have hz2 := hb2.size; (simp at hz2); obtain ⟨z20, z21, z22, z23, z24, z25, z26⟩ := lt_chain6 (show w.heap.size < w4.heap.size by omega); obtain ⟨y20, y21, y22, y23, y24, y25, y26⟩ := lt_chain6 (show wa.heap.size < w4.heap.size by omega); obtain ⟨x20, x21, x22, x23, x24, x25, x26⟩ := lt_chain6 (show wa.heap.size + 1 < w4.heap.size by omega); obtain ⟨u20, u21, u22, u23, u24, u25, u26⟩ := lt_chain6 (show w2.heap.size < w4.heap.size by omega)
      go_wp2_with fail
      refine (eval_some (one 16 (litE z30)) (rs := []) _ _ none 0 _ ?_ ?_).mono ?_
      · exact Kd.C_nil _ _
      · exact mk1 (Nat.le_refl 0) (Kd.C_nil _ _) (by go_simp <;> rfl) (by go_simp <;> rfl) (by go_simp <;> rfl) (by go_simp <;> rfl) (by go_simp <;> rfl) (by go_simp <;> rfl) (by go_simp <;> rfl) (by go_simp <;> rfl)
      rintro e w6 ⟨r3, HE3, rfl, hb3⟩; have E3 : r3 = (z30, 0) := HE3.out.symm.trans null16; have b6 : (r3.2 == 0) = true := (by rw [E3]; rfl); have b7 : (r3.1.f0 == 0) = true := (by rw [E3]; rfl); clear E3 HE3; have hB3 : Below w.heap.size w w6 := (by refine belT ?_ hb3; repeat (first | assumption | exact Below.refl _ _ | apply below_alloc | apply pw_below_drewN | apply below_drew1 | (refine setC ?_ (by omega) _))); obtain ⟨hc3, hf3⟩ := bcell hb3; have hz3 := hb3.size; (simp at hz3); obtain ⟨z30, z31, z32, z33, z34, z35, z36⟩ := lt_chain6 (show w.heap.size < w6.heap.size by omega); obtain ⟨y30, y31, y32, y33, y34, y35, y36⟩ := lt_chain6 (show wa.heap.size < w6.heap.size by omega); obtain ⟨x30, x31, x32, x33, x34, x35, x36⟩ := lt_chain6 (show wa.heap.size + 1 < w6.heap.size by omega); obtain ⟨u30, u31, u32, u33, u34, u35, u36⟩ := lt_chain6 (show w2.heap.size < w6.heap.size by omega); obtain ⟨t30, t31, t32, t33, t34, t35, t36⟩ := lt_chain6 (show w4.heap.size < w6.heap.size by omega)
      go_wp2
      refine ret_ex rfl ?_
      apply Exists.intro
      refine ⟨?_, ?_, ?_⟩
      · simp [results, Try.results7]; (try go_simp); rfl
      · simp
      · repeat (first | assumption | exact Below.refl _ _ | apply below_alloc | apply pw_below_drewN | apply below_drew1 | (refine setC ?_ (by omega) _))
  · go_wp2_with fail
    all_goals first
      | (exfalso; omega)
      | (refine ret_ex rfl ?_; apply Exists.intro; refine ⟨?_, ?_, ?_⟩; (simp [results, Try.results7]; rfl); simp; (repeat (first | assumption | exact Below.refl _ _ | apply below_alloc | apply pw_below_drewN | apply below_drew1 | (refine setC ?_ (by omega) _))))
end Go.Proofs.Ytfneopcbnlfkiaa.Ex
