/-
plenumlaw22.ExprLogic.
-/
import Derived.Test.YtfneopcbnlfkiaaDm
import Derived.Test.YtfneopcbnlfkiaaEq
namespace Go.Proofs.Ytfneopcbnlfkiaa.Ex
open Go.RowKit Go.Proofs.YtfneopcbnlfkiaaW.PrintWords Go.Proofs.Ytfneopcbnlfkiaa.Kin Go.Proofs.Ytfneopcbnlfkiaa.Num Go.Proofs.Ytfneopcbnlfkiaa.Base Go.Proofs.YtfneopcbnlfkiaaW.PrintLast
set_option linter.unusedVariables false
set_option linter.unusedSimpArgs false
attribute [local go_sem high] eqA30
set_option maxHeartbeats 8000000 in
set_option maxRecDepth 100000 in
/-- ExprLogic returns true. -/
theorem logic_calls (a : S32) (A : Option Addr) (c : Nat) (b : S32) (B : Option Addr) (d : Nat) (Ar : Option Addr) (rs : List S30) (cr : Nat) (w : World) (la : a.f5.length ≤ c) (ha : k32.C w A a.f5.length a.f5) (lb : b.f5.length ≤ d) (hb : k32.C w B b.f5.length b.f5) (hr : k30.C w Ar rs.length rs) :
    Calls Try.prog 8 #[enE a A c, enE b B d, .slice Ar rs.length cr] w fun e w' => e = .returned (.bool true) ∧ Below w.heap.size w w' := by
  have hu := Try.underlying30
  have hu32 := Try.underlying32
  have HA := Aside0.mk ha
  have HB := Aside0.mk hb
  have HR := Aside0.mk hr
  have LA := Aside0.mk la
  have LB := Aside0.mk lb
  clear ha hb hr la lb
  go_enter Try.func8, Try.ntmps8
  go_wp2_with fail
  refine (awake_calls _).mono ?_
  rintro e w1 ⟨rfl, hb1⟩
  have hB1 : Below w.heap.size w w1 := (by refine belT ?_ hb1; repeat (first | assumption | exact Below.refl _ _ | apply below_alloc | apply pw_below_drewN | apply below_drew1 | (refine setC ?_ (by omega) _)))
  obtain ⟨hc1, hf1⟩ := bcell hb1
  have hz1 := hb1.size
  (try simp at hz1)
  obtain ⟨q1_0, q1_1, q1_2, q1_3, q1_4, q1_5, q1_6⟩ := lt_chain6 (show w.heap.size < w1.heap.size by omega)
  obtain ⟨q2_0, q2_1, q2_2, q2_3, q2_4, q2_5, q2_6⟩ := lt_chain6 (show w.heap.size + 1 < w1.heap.size by omega)
  go_wp2_with fail
  refine (light_calls a A c 8 _ (Kd.C_below HA.out (by repeat (first | assumption | exact Below.refl _ _ | apply below_alloc | apply pw_below_drewN | apply below_drew1 | (refine setC ?_ (by omega) _))))).mono ?_
  rintro e w2 ⟨⟨g1, rfl⟩, hb2⟩
  have hB2 : Below w.heap.size w w2 := (by refine belT ?_ hb2; repeat (first | assumption | exact Below.refl _ _ | apply below_alloc | apply pw_below_drewN | apply below_drew1 | (refine setC ?_ (by omega) _)))
  obtain ⟨hc2, hf2⟩ := bcell hb2
  have hz2 := hb2.size
  (try simp at hz2)
  obtain ⟨q3_0, q3_1, q3_2, q3_3, q3_4, q3_5, q3_6⟩ := lt_chain6 (show w.heap.size < w2.heap.size by omega)
  obtain ⟨q4_0, q4_1, q4_2, q4_3, q4_4, q4_5, q4_6⟩ := lt_chain6 (show w.heap.size + 1 < w2.heap.size by omega)
  cases g1
  · go_wp2
    refine ret_ex rfl ?_
    apply Exists.intro
    refine ⟨?_, ?_, ?_⟩
    · simp [results, Try.results8]; rfl
    · simp
    · repeat (first | assumption | exact Below.refl _ _ | apply below_alloc | apply pw_below_drewN | apply below_drew1 | (refine setC ?_ (by omega) _))
  · go_wp2_with fail
    refine (light_calls b B d 8 _ (Kd.C_below HB.out (by repeat (first | assumption | exact Below.refl _ _ | apply below_alloc | apply pw_below_drewN | apply below_drew1 | (refine setC ?_ (by omega) _))))).mono ?_
    rintro e w3 ⟨⟨g2, rfl⟩, hb3⟩
    have hB3 : Below w.heap.size w w3 := (by refine belT ?_ hb3; repeat (first | assumption | exact Below.refl _ _ | apply below_alloc | apply pw_below_drewN | apply below_drew1 | (refine setC ?_ (by omega) _)))
    obtain ⟨hc3, hf3⟩ := bcell hb3
    have hz3 := hb3.size
    (try simp at hz3)
    obtain ⟨q5_0, q5_1, q5_2, q5_3, q5_4, q5_5, q5_6⟩ := lt_chain6 (show w.heap.size < w3.heap.size by omega)
    obtain ⟨q6_0, q6_1, q6_2, q6_3, q6_4, q6_5, q6_6⟩ := lt_chain6 (show w.heap.size + 1 < w3.heap.size by omega)
    cases g2
    · go_wp2
      refine ret_ex rfl ?_
      apply Exists.intro
      refine ⟨?_, ?_, ?_⟩
      · simp [results, Try.results8]; rfl
      · simp
      · repeat (first | assumption | exact Below.refl _ _ | apply below_alloc | apply pw_below_drewN | apply below_drew1 | (refine setC ?_ (by omega) _))
    · go_wp2_with fail
      refine (few_calls rs Ar cr _ (Kd.C_below HR.out (by repeat (first | assumption | exact Below.refl _ _ | apply below_alloc | apply pw_below_drewN | apply below_drew1 | (refine setC ?_ (by omega) _))))).mono ?_
      rintro e w4 ⟨⟨g3, rfl⟩, hb4⟩
      have hB4 : Below w.heap.size w w4 := (by refine belT ?_ hb4; repeat (first | assumption | exact Below.refl _ _ | apply below_alloc | apply pw_below_drewN | apply below_drew1 | (refine setC ?_ (by omega) _)))
      obtain ⟨hc4, hf4⟩ := bcell hb4
      have hz4 := hb4.size
      (try simp at hz4)
      obtain ⟨q7_0, q7_1, q7_2, q7_3, q7_4, q7_5, q7_6⟩ := lt_chain6 (show w.heap.size < w4.heap.size by omega)
      obtain ⟨q8_0, q8_1, q8_2, q8_3, q8_4, q8_5, q8_6⟩ := lt_chain6 (show w.heap.size + 1 < w4.heap.size by omega)
      cases g3
      · go_wp2
        refine ret_ex rfl ?_
        apply Exists.intro
        refine ⟨?_, ?_, ?_⟩
        · simp [results, Try.results8]; rfl
        · simp
        · repeat (first | assumption | exact Below.refl _ _ | apply below_alloc | apply pw_below_drewN | apply below_drew1 | (refine setC ?_ (by omega) _))
      · go_wp2_with fail
        refine (two_calls 17 a A c b B d _ LA.out (Kd.C_below HA.out (by repeat (first | assumption | exact Below.refl _ _ | apply below_alloc | apply pw_below_drewN | apply below_drew1 | (refine setC ?_ (by omega) _)))) LB.out (Kd.C_below HB.out (by repeat (first | assumption | exact Below.refl _ _ | apply below_alloc | apply pw_below_drewN | apply below_drew1 | (refine setC ?_ (by omega) _))))).mono ?_
        rintro e w5 ⟨⟨Bq, cq, rfl, hlq, hCq⟩, hb5⟩
        have hB5 : Below w.heap.size w w5 := (by refine belT ?_ hb5; repeat (first | assumption | exact Below.refl _ _ | apply below_alloc | apply pw_below_drewN | apply below_drew1 | (refine setC ?_ (by omega) _)))
        obtain ⟨hc5, hf5⟩ := bcell hb5
        have hz5 := hb5.size
        (try simp at hz5)
        obtain ⟨q9_0, q9_1, q9_2, q9_3, q9_4, q9_5, q9_6⟩ := lt_chain6 (show w.heap.size < w5.heap.size by omega)
        obtain ⟨q10_0, q10_1, q10_2, q10_3, q10_4, q10_5, q10_6⟩ := lt_chain6 (show w.heap.size + 1 < w5.heap.size by omega)
        have HQ := Aside0.mk hCq
        have LQ := Aside0.mk hlq
        clear hCq hlq
        go_wp2_with fail
        refine (not_calls (two 17 a b) _ cq _ LQ.out HQ.out).mono ?_
        rintro e w6 ⟨⟨Bp, cp, rfl, hlp, hCp⟩, hb6⟩
        have hB6 : Below w.heap.size w w6 := (by refine belT ?_ hb6; repeat (first | assumption | exact Below.refl _ _ | apply below_alloc | apply pw_below_drewN | apply below_drew1 | (refine setC ?_ (by omega) _)))
        obtain ⟨hc6, hf6⟩ := bcell hb6
        have hz6 := hb6.size
        (try simp at hz6)
        obtain ⟨q11_0, q11_1, q11_2, q11_3, q11_4, q11_5, q11_6⟩ := lt_chain6 (show w.heap.size < w6.heap.size by omega)
        obtain ⟨q12_0, q12_1, q12_2, q12_3, q12_4, q12_5, q12_6⟩ := lt_chain6 (show w.heap.size + 1 < w6.heap.size by omega)
        have HP := Aside0.mk hCp
        clear hCp hlp
        go_wp2_with fail
        refine (eval_some (one 16 (two 17 a b)) (rs := rs) _ _ Ar cr _ (Kd.C_below HR.out (by repeat (first | assumption | exact Below.refl _ _ | apply below_alloc | apply pw_below_drewN | apply below_drew1 | (refine setC ?_ (by omega) _)))) HP.out).mono ?_
        rintro e w7 ⟨r7, HEr7, rfl, hb7⟩
        have hB7 : Below w.heap.size w w7 := (by refine belT ?_ hb7; repeat (first | assumption | exact Below.refl _ _ | apply below_alloc | apply pw_below_drewN | apply below_drew1 | (refine setC ?_ (by omega) _)))
        obtain ⟨hc7, hf7⟩ := bcell hb7
        have hz7 := hb7.size
        (try simp at hz7)
        obtain ⟨q13_0, q13_1, q13_2, q13_3, q13_4, q13_5, q13_6⟩ := lt_chain6 (show w.heap.size < w7.heap.size by omega)
        obtain ⟨q14_0, q14_1, q14_2, q14_3, q14_4, q14_5, q14_6⟩ := lt_chain6 (show w.heap.size + 1 < w7.heap.size by omega)
        clear HP HQ LQ
        go_wp2_with fail
        refine startG (n := 13) (S := (fun w' => Below w.heap.size w w' ∧ w7.heap.size < w'.heap.size ∧ w'.cell? ⟨w.heap.size, 0, none⟩ = some (.int .i64 a.f0) ∧ w'.cell? ⟨w.heap.size, 1, none⟩ = some (.string a.f1) ∧ w'.cell? ⟨w.heap.size, 2, none⟩ = some (.string a.f2) ∧ w'.cell? ⟨w.heap.size, 3, none⟩ = some (.int .i64 a.f3) ∧ w'.cell? ⟨w.heap.size, 4, none⟩ = some (.int .i64 a.f4.f0) ∧ w'.cell? ⟨w.heap.size, 5, none⟩ = some (.int .i64 a.f4.f1) ∧ w'.cell? ⟨w.heap.size, 6, none⟩ = some (.string a.f4.f2) ∧ w'.cell? ⟨w.heap.size, 7, none⟩ = some (.slice A a.f5.length c) ∧ w'.cell? ⟨w.heap.size + 1, 0, none⟩ = some (.int .i64 b.f0) ∧ w'.cell? ⟨w.heap.size + 1, 1, none⟩ = some (.string b.f1) ∧ w'.cell? ⟨w.heap.size + 1, 2, none⟩ = some (.string b.f2) ∧ w'.cell? ⟨w.heap.size + 1, 3, none⟩ = some (.int .i64 b.f3) ∧ w'.cell? ⟨w.heap.size + 1, 4, none⟩ = some (.int .i64 b.f4.f0) ∧ w'.cell? ⟨w.heap.size + 1, 5, none⟩ = some (.int .i64 b.f4.f1) ∧ w'.cell? ⟨w.heap.size + 1, 6, none⟩ = some (.string b.f4.f2) ∧ w'.cell? ⟨w.heap.size + 1, 7, none⟩ = some (.slice B b.f5.length d) ∧ w'.cell? ⟨w7.heap.size, 0, none⟩ = some (.int .i64 r7.1.f0) ∧ w'.cell? ⟨w7.heap.size, 1, none⟩ = some (.int .i64 r7.1.f1) ∧ w'.cell? ⟨w7.heap.size, 2, none⟩ = some (.string r7.1.f2))) (ds := [11]) #[false, false, false, false, false, false, false, false, false, false, false, false, false] (by kernel_rfl) rfl rfl ?_ (fun wr hS => ?_)
        · refine ⟨?_, ?_, ?_, ?_, ?_, ?_, ?_, ?_, ?_, ?_, ?_, ?_, ?_, ?_, ?_, ?_, ?_, ?_, ?_, ?_, ?_⟩; (repeat (first | assumption | exact Below.refl _ _ | apply below_alloc | apply pw_below_drewN | apply below_drew1 | (refine setC ?_ (by omega) _))); · (first | (simp; done) | (simp; omega) | (trace_state; sorry))
          · go_simp
          · go_simp
          · go_simp
          · go_simp
          · go_simp
          · go_simp
          · go_simp
          · go_simp
          · go_simp
          · go_simp
          · go_simp
          · go_simp
          · go_simp
          · go_simp
          · go_simp
          · go_simp
          · go_simp
          · go_simp
          · go_simp
        clear q1_0 q1_1 q1_2 q1_3 q1_4 q1_5 q1_6 q2_0 q2_1 q2_2 q2_3 q2_4 q2_5 q2_6 q3_0 q3_1 q3_2 q3_3 q3_4 q3_5 q3_6 q4_0 q4_1 q4_2 q4_3 q4_4 q4_5 q4_6 q5_0 q5_1 q5_2 q5_3 q5_4 q5_5 q5_6 q6_0 q6_1 q6_2 q6_3 q6_4 q6_5 q6_6 q7_0 q7_1 q7_2 q7_3 q7_4 q7_5 q7_6 q8_0 q8_1 q8_2 q8_3 q8_4 q8_5 q8_6 q9_0 q9_1 q9_2 q9_3 q9_4 q9_5 q9_6 q10_0 q10_1 q10_2 q10_3 q10_4 q10_5 q10_6 q11_0 q11_1 q11_2 q11_3 q11_4 q11_5 q11_6 q12_0 q12_1 q12_2 q12_3 q12_4 q12_5 q12_6 q13_0 q13_1 q13_2 q13_3 q13_4 q13_5 q13_6 q14_0 q14_1 q14_2 q14_3 q14_4 q14_5 q14_6
        refine take_ (i := 0) (N := (some 40)) (v := ?_) (a' := ?_) #[true, false, false, false, false, false, false, false, false, false, false, false, false] rfl rfl (by kernel_rfl) (fun _ _ _ h => h) (Or.inl ⟨by rfl, ?_⟩) hS ?_ ?_
        rotate_left
        · rintro w' ⟨hB, hz, a0, a1, a2, a3, a4, a5, a6, a7, b0, b1, b2, b3, b4, b5, b6, b7, s0_0, s0_1, s0_2⟩
          go_simp
          with_reducible rfl
        rotate_left
        · simp only [Act.put, List.setIfInBounds_toArray, List.set_cons_zero, List.set_cons_succ, i64_w, i32_w]
          rfl
        refine take_ (i := 2) (N := (some 42)) (v := ?_) (a' := ?_) #[true, false, true, false, false, false, false, false, false, false, false, false, false] rfl rfl (by kernel_rfl) (fun _ _ _ h => h) (Or.inl ⟨by rfl, ?_⟩) hS ?_ ?_
        rotate_left
        · rintro w' ⟨hB, hz, a0, a1, a2, a3, a4, a5, a6, a7, b0, b1, b2, b3, b4, b5, b6, b7, s0_0, s0_1, s0_2⟩
          go_simp
          with_reducible rfl
        rotate_left
        · simp only [Act.put, List.setIfInBounds_toArray, List.set_cons_zero, List.set_cons_succ, i64_w, i32_w]
          rfl
        refine pure_ (i := 5) (N := (some 45)) (v := ?_) (a' := ?_) #[true, false, true, false, false, true, false, false, false, false, false, false, false] rfl rfl (by kernel_rfl) (fun _ _ _ h => h) (Or.inl ⟨by rfl, ?_⟩) ?_ ?_
        rotate_left
        · intro w'
          go_simp
          with_reducible rfl
        rotate_left
        · simp only [Act.put, List.setIfInBounds_toArray, List.set_cons_zero, List.set_cons_succ, i64_w, i32_w]
          rfl
        refine join_ (σ := Nat × Value × Value × Value × (S30 × Int)) 2 #[true, true, true, true, true, true, true, true, true, true, true, false, false] (fun s => [(41, s.2.1), (43, s.2.2.1), (44, s.2.2.2.1), (46, enVE s.2.2.2.2), (39, enVE s.2.2.2.2), (47, enV s.2.2.2.2.1), (48, .int .i64 s.2.2.2.2.2), (9, .pointer (some ⟨s.1, 0, none⟩))]) (fun s w' => Aside0 (evalX rs (two 18 (one 16 a) (one 16 b)) = s.2.2.2.2) ∧ w7.heap.size < s.1 ∧ s.1 < w'.heap.size ∧ w'.cell? ⟨s.1, 0, none⟩ = some (.int .i64 0) ∧ w'.cell? ⟨s.1, 1, none⟩ = some (.int .i64 0) ∧ w'.cell? ⟨s.1, 2, none⟩ = some (.string ⟨#[]⟩) ∧ w'.frozen? ⟨s.1, 0, none⟩ = false ∧ w'.frozen? ⟨s.1, 1, none⟩ = false ∧ w'.frozen? ⟨s.1, 2, none⟩ = false ∧ Below w.heap.size w w' ∧ w7.heap.size < w'.heap.size ∧ w'.cell? ⟨w.heap.size, 0, none⟩ = some (.int .i64 a.f0) ∧ w'.cell? ⟨w.heap.size, 1, none⟩ = some (.string a.f1) ∧ w'.cell? ⟨w.heap.size, 2, none⟩ = some (.string a.f2) ∧ w'.cell? ⟨w.heap.size, 3, none⟩ = some (.int .i64 a.f3) ∧ w'.cell? ⟨w.heap.size, 4, none⟩ = some (.int .i64 a.f4.f0) ∧ w'.cell? ⟨w.heap.size, 5, none⟩ = some (.int .i64 a.f4.f1) ∧ w'.cell? ⟨w.heap.size, 6, none⟩ = some (.string a.f4.f2) ∧ w'.cell? ⟨w.heap.size, 7, none⟩ = some (.slice A a.f5.length c) ∧ w'.cell? ⟨w.heap.size + 1, 0, none⟩ = some (.int .i64 b.f0) ∧ w'.cell? ⟨w.heap.size + 1, 1, none⟩ = some (.string b.f1) ∧ w'.cell? ⟨w.heap.size + 1, 2, none⟩ = some (.string b.f2) ∧ w'.cell? ⟨w.heap.size + 1, 3, none⟩ = some (.int .i64 b.f3) ∧ w'.cell? ⟨w.heap.size + 1, 4, none⟩ = some (.int .i64 b.f4.f0) ∧ w'.cell? ⟨w.heap.size + 1, 5, none⟩ = some (.int .i64 b.f4.f1) ∧ w'.cell? ⟨w.heap.size + 1, 6, none⟩ = some (.string b.f4.f2) ∧ w'.cell? ⟨w.heap.size + 1, 7, none⟩ = some (.slice B b.f5.length d) ∧ w'.cell? ⟨w7.heap.size, 0, none⟩ = some (.int .i64 r7.1.f0) ∧ w'.cell? ⟨w7.heap.size, 1, none⟩ = some (.int .i64 r7.1.f1) ∧ w'.cell? ⟨w7.heap.size, 2, none⟩ = some (.string r7.1.f2)) (fun s wj hF => ?_) (fun hJ => ?_)
        rotate_left
        · have dummy := trivial
          refine two_ (i := 1) (j := 10) (Ni := (some 41)) (Nj := (some 9)) #[true, true, true, false, false, true, false, false, false, false, false, false, false] #[true, false, true, false, false, true, false, false, false, false, true, false, false] rfl rfl rfl rfl (by kernel_rfl) (by decide) (by decide) (fun K hK => ?_) (fun K hK => ?_)
          · have dummy := trivial
            obtain ⟨hB, hz, a0, a1, a2, a3, a4, a5, a6, a7, b0, b1, b2, b3, b4, b5, b6, b7, s0_0, s0_1, s0_2⟩ := hS
            refine goes_ Try.func41 (by kernel_rfl) rfl #[enE a A c] (by rfl) rfl rfl (by (try simp only [List.map_toArray, List.map_cons, List.map_nil]); first | done | rfl) ?_
            refine (not_calls a A c _ LA.out (Kd.C_below HA.out hB)).mono ?_
            rintro e w6_1 ⟨⟨B1, c1, rfl, hl1, hC1⟩, hb⟩
            have hz_ := hb.size
            refine ⟨_, rfl, hK.out _ _ ⟨hB.trans (hb.mono (by omega)), (by omega : _ < _), cellB hb (by omega) a0, cellB hb (by omega) a1, cellB hb (by omega) a2, cellB hb (by omega) a3, cellB hb (by omega) a4, cellB hb (by omega) a5, cellB hb (by omega) a6, cellB hb (by omega) a7, cellB hb (by omega) b0, cellB hb (by omega) b1, cellB hb (by omega) b2, cellB hb (by omega) b3, cellB hb (by omega) b4, cellB hb (by omega) b5, cellB hb (by omega) b6, cellB hb (by omega) b7, cellB hb (by omega) s0_0, cellB hb (by omega) s0_1, cellB hb (by omega) s0_2⟩ (fun hS => ?_)⟩
            clear hK K hb hz_ hB hz a0 a1 a2 a3 a4 a5 a6 a7 b0 b1 b2 b3 b4 b5 b6 b7 s0_0 s0_1 s0_2
            refine two_ (i := 3) (j := 10) (Ni := (some 43)) (Nj := (some 9)) #[true, true, true, true, false, true, false, false, false, false, false, false, false] #[true, true, true, false, false, true, false, false, false, false, true, false, false] rfl rfl rfl rfl (by kernel_rfl) (by decide) (by decide) (fun K hK => ?_) (fun K hK => ?_)
            · have dummy := trivial
              obtain ⟨hB, hz, a0, a1, a2, a3, a4, a5, a6, a7, b0, b1, b2, b3, b4, b5, b6, b7, s0_0, s0_1, s0_2⟩ := hS
              refine goes_ Try.func41 (by kernel_rfl) rfl #[enE b B d] (by rfl) rfl rfl (by (try simp only [List.map_toArray, List.map_cons, List.map_nil]); first | done | rfl) ?_
              refine (not_calls b B d _ LB.out (Kd.C_below HB.out hB)).mono ?_
              rintro e w6_3 ⟨⟨B3, c3, rfl, hl3, hC3⟩, hb⟩
              have hz_ := hb.size
              have hC1 := Kd.C_below hC1 hb
              refine ⟨_, rfl, hK.out _ _ ⟨hB.trans (hb.mono (by omega)), (by omega : _ < _), cellB hb (by omega) a0, cellB hb (by omega) a1, cellB hb (by omega) a2, cellB hb (by omega) a3, cellB hb (by omega) a4, cellB hb (by omega) a5, cellB hb (by omega) a6, cellB hb (by omega) a7, cellB hb (by omega) b0, cellB hb (by omega) b1, cellB hb (by omega) b2, cellB hb (by omega) b3, cellB hb (by omega) b4, cellB hb (by omega) b5, cellB hb (by omega) b6, cellB hb (by omega) b7, cellB hb (by omega) s0_0, cellB hb (by omega) s0_1, cellB hb (by omega) s0_2⟩ (fun hS => ?_)⟩
              clear hK K hb hz_ hB hz a0 a1 a2 a3 a4 a5 a6 a7 b0 b1 b2 b3 b4 b5 b6 b7 s0_0 s0_1 s0_2
              refine two_ (i := 4) (j := 10) (Ni := (some 44)) (Nj := (some 9)) #[true, true, true, true, true, true, false, false, false, false, false, false, false] #[true, true, true, true, false, true, false, false, false, false, true, false, false] rfl rfl rfl rfl (by kernel_rfl) (by decide) (by decide) (fun K hK => ?_) (fun K hK => ?_)
              · have dummy := trivial
                obtain ⟨hB, hz, a0, a1, a2, a3, a4, a5, a6, a7, b0, b1, b2, b3, b4, b5, b6, b7, s0_0, s0_1, s0_2⟩ := hS
                refine goes_ Try.func42 (by kernel_rfl) rfl #[.int .i64 18, enE (one 16 a) (some ⟨B1, 0, none⟩) c1, enE (one 16 b) (some ⟨B3, 0, none⟩) c3] (by rfl) rfl rfl (by (try simp only [List.map_toArray, List.map_cons, List.map_nil]); first | done | rfl) ?_
                refine (two_calls 18 (one 16 a) _ c1 (one 16 b) _ c3 _ hl1 hC1 hl3 hC3).mono ?_
                rintro e w6_4 ⟨⟨B4, c4, rfl, hl4, hC4⟩, hb⟩
                have hz_ := hb.size
                have hC1 := Kd.C_below hC1 hb
                have hC3 := Kd.C_below hC3 hb
                refine ⟨_, rfl, hK.out _ _ ⟨hB.trans (hb.mono (by omega)), (by omega : _ < _), cellB hb (by omega) a0, cellB hb (by omega) a1, cellB hb (by omega) a2, cellB hb (by omega) a3, cellB hb (by omega) a4, cellB hb (by omega) a5, cellB hb (by omega) a6, cellB hb (by omega) a7, cellB hb (by omega) b0, cellB hb (by omega) b1, cellB hb (by omega) b2, cellB hb (by omega) b3, cellB hb (by omega) b4, cellB hb (by omega) b5, cellB hb (by omega) b6, cellB hb (by omega) b7, cellB hb (by omega) s0_0, cellB hb (by omega) s0_1, cellB hb (by omega) s0_2⟩ (fun hS => ?_)⟩
                clear hK K hb hz_ hB hz a0 a1 a2 a3 a4 a5 a6 a7 b0 b1 b2 b3 b4 b5 b6 b7 s0_0 s0_1 s0_2
                refine two_ (i := 6) (j := 10) (Ni := (some 46)) (Nj := (some 9)) #[true, true, true, true, true, true, true, false, false, false, false, false, false] #[true, true, true, true, true, true, false, false, false, false, true, false, false] rfl rfl rfl rfl (by kernel_rfl) (by decide) (by decide) (fun K hK => ?_) (fun K hK => ?_)
                · have dummy := trivial
                  obtain ⟨hB, hz, a0, a1, a2, a3, a4, a5, a6, a7, b0, b1, b2, b3, b4, b5, b6, b7, s0_0, s0_1, s0_2⟩ := hS
                  refine goes_ Try.func40 (by kernel_rfl) rfl #[enE (two 18 (one 16 a) (one 16 b)) (some ⟨B4, 0, none⟩) c4, .slice Ar rs.length cr] (by rfl) rfl rfl (by (try simp only [List.map_toArray, List.map_cons, List.map_nil]); first | done | rfl) ?_
                  refine (eval_some (two 18 (one 16 a) (one 16 b)) (rs := rs) _ _ Ar cr _ (Kd.C_below HR.out hB) hC4).mono ?_
                  rintro e w6_6 ⟨rr, HE, rfl, hb⟩
                  have hz_ := hb.size
                  have hC1 := Kd.C_below hC1 hb
                  have hC3 := Kd.C_below hC3 hb
                  have hC4 := Kd.C_below hC4 hb
                  refine ⟨_, rfl, hK.out _ _ ⟨hB.trans (hb.mono (by omega)), (by omega : _ < _), cellB hb (by omega) a0, cellB hb (by omega) a1, cellB hb (by omega) a2, cellB hb (by omega) a3, cellB hb (by omega) a4, cellB hb (by omega) a5, cellB hb (by omega) a6, cellB hb (by omega) a7, cellB hb (by omega) b0, cellB hb (by omega) b1, cellB hb (by omega) b2, cellB hb (by omega) b3, cellB hb (by omega) b4, cellB hb (by omega) b5, cellB hb (by omega) b6, cellB hb (by omega) b7, cellB hb (by omega) s0_0, cellB hb (by omega) s0_1, cellB hb (by omega) s0_2⟩ (fun hS => ?_)⟩
                  clear hK K hb hz_ hB hz a0 a1 a2 a3 a4 a5 a6 a7 b0 b1 b2 b3 b4 b5 b6 b7 s0_0 s0_1 s0_2
                  refine pure_ (i := 7) (N := (some 39)) (v := ?_) (a' := ?_) #[true, true, true, true, true, true, true, true, false, false, false, false, false] rfl rfl (by kernel_rfl) (fun _ _ _ h => h) (Or.inl ⟨by rfl, ?_⟩) ?_ ?_
                  rotate_left
                  · intro w'
                    go_simp
                    with_reducible rfl
                  rotate_left
                  · simp only [Act.put, List.setIfInBounds_toArray, List.set_cons_zero, List.set_cons_succ, i64_w, i32_w]
                    rfl
                  refine pure_ (i := 8) (N := (some 47)) (v := ?_) (a' := ?_) #[true, true, true, true, true, true, true, true, true, false, false, false, false] rfl rfl (by kernel_rfl) (fun _ _ _ h => h) (Or.inl ⟨by rfl, ?_⟩) ?_ ?_
                  rotate_left
                  · intro w'
                    go_simp
                    with_reducible rfl
                  rotate_left
                  · simp only [Act.put, List.setIfInBounds_toArray, List.set_cons_zero, List.set_cons_succ, i64_w, i32_w]
                    rfl
                  refine pure_ (i := 9) (N := (some 48)) (v := ?_) (a' := ?_) #[true, true, true, true, true, true, true, true, true, true, false, false, false] rfl rfl (by kernel_rfl) (fun _ _ _ h => h) (Or.inl ⟨by rfl, ?_⟩) ?_ ?_
                  rotate_left
                  · intro w'
                    go_simp
                    with_reducible rfl
                  rotate_left
                  · simp only [Act.put, List.setIfInBounds_toArray, List.set_cons_zero, List.set_cons_succ, i64_w, i32_w]
                    rfl
                  refine one_ (i := 10) (N := (some 9)) #[true, true, true, true, true, true, true, true, true, true, true, false, false] rfl rfl (by kernel_rfl) (by decide) (fun K hK => ?_)
                  obtain ⟨hB, hz, a0, a1, a2, a3, a4, a5, a6, a7, b0, b1, b2, b3, b4, b5, b6, b7, s0_0, s0_1, s0_2⟩ := hS
                  refine value_ (v := .pointer (some ⟨w6_6.heap.size, 0, none⟩)) (w1 := (w6_6.alloc (.cells #[.int .i64 0, .int .i64 0, .string ⟨#[]⟩] 30))) (by rfl) rfl (by go_simp) ?_
                  have hb : Below w6_6.heap.size w6_6 (w6_6.alloc (.cells #[.int .i64 0, .int .i64 0, .string ⟨#[]⟩] 30)) := below_alloc (Below.refl _ _) _
                  have hz_ := hb.size
                  have hq : w6_6.heap.size < (w6_6.alloc (.cells #[.int .i64 0, .int .i64 0, .string ⟨#[]⟩] 30)).heap.size := (by simp)
                  obtain ⟨p9, hp9⟩ : ∃ p9, p9 = w6_6.heap.size := ⟨_, rfl⟩
                  have hp0 : w7.heap.size < p9 := (by omega)
                  have hp1 : p9 < (w6_6.alloc (.cells #[.int .i64 0, .int .i64 0, .string ⟨#[]⟩] 30)).heap.size := (by omega)
                  have z0 : (w6_6.alloc (.cells #[.int .i64 0, .int .i64 0, .string ⟨#[]⟩] 30)).cell? ⟨p9, 0, none⟩ = some (.int .i64 0) := (by rw [hp9]; go_simp)
                  have z1 : (w6_6.alloc (.cells #[.int .i64 0, .int .i64 0, .string ⟨#[]⟩] 30)).cell? ⟨p9, 1, none⟩ = some (.int .i64 0) := (by rw [hp9]; go_simp)
                  have z2 : (w6_6.alloc (.cells #[.int .i64 0, .int .i64 0, .string ⟨#[]⟩] 30)).cell? ⟨p9, 2, none⟩ = some (.string ⟨#[]⟩) := (by rw [hp9]; go_simp)
                  have f0 : (w6_6.alloc (.cells #[.int .i64 0, .int .i64 0, .string ⟨#[]⟩] 30)).frozen? ⟨p9, 0, none⟩ = false := (by rw [hp9]; go_simp)
                  have f1 : (w6_6.alloc (.cells #[.int .i64 0, .int .i64 0, .string ⟨#[]⟩] 30)).frozen? ⟨p9, 1, none⟩ = false := (by rw [hp9]; go_simp)
                  have f2 : (w6_6.alloc (.cells #[.int .i64 0, .int .i64 0, .string ⟨#[]⟩] 30)).frozen? ⟨p9, 2, none⟩ = false := (by rw [hp9]; go_simp)
                  rw [← hp9]
                  have hC1 := Kd.C_below hC1 hb
                  have hC3 := Kd.C_below hC3 hb
                  have hC4 := Kd.C_below hC4 hb
                  refine hK.out _ _ ⟨hB.trans (hb.mono (by omega)), (by omega : _ < _), cellB hb (by omega) a0, cellB hb (by omega) a1, cellB hb (by omega) a2, cellB hb (by omega) a3, cellB hb (by omega) a4, cellB hb (by omega) a5, cellB hb (by omega) a6, cellB hb (by omega) a7, cellB hb (by omega) b0, cellB hb (by omega) b1, cellB hb (by omega) b2, cellB hb (by omega) b3, cellB hb (by omega) b4, cellB hb (by omega) b5, cellB hb (by omega) b6, cellB hb (by omega) b7, cellB hb (by omega) s0_0, cellB hb (by omega) s0_1, cellB hb (by omega) s0_2⟩ (fun hS => ?_)
                  clear hK K hb hz_ hq hp9 hB hz a0 a1 a2 a3 a4 a5 a6 a7 b0 b1 b2 b3 b4 b5 b6 b7 s0_0 s0_1 s0_2
                  obtain ⟨hB, hz, a0, a1, a2, a3, a4, a5, a6, a7, b0, b1, b2, b3, b4, b5, b6, b7, s0_0, s0_1, s0_2⟩ := hS
                  have hJ' := hJ (p9, enE (one 16 a) (some ⟨B1, 0, none⟩) c1, enE (one 16 b) (some ⟨B3, 0, none⟩) c3, enE (two 18 (one 16 a) (one 16 b)) (some ⟨B4, 0, none⟩) c4, rr) _ ⟨HE, hp0, hp1, z0, z1, z2, f0, f1, f2, hB, hz, a0, a1, a2, a3, a4, a5, a6, a7, b0, b1, b2, b3, b4, b5, b6, b7, s0_0, s0_1, s0_2⟩
                  clear hJ
                  simp only [putAll, Act.put, List.setIfInBounds_toArray, List.set_cons_zero, List.set_cons_succ] at hJ' ⊢
                  exact hJ'
                · have dummy := trivial
                  obtain ⟨hB, hz, a0, a1, a2, a3, a4, a5, a6, a7, b0, b1, b2, b3, b4, b5, b6, b7, s0_0, s0_1, s0_2⟩ := hS
                  refine value_ (v := .pointer (some ⟨w6_4.heap.size, 0, none⟩)) (w1 := (w6_4.alloc (.cells #[.int .i64 0, .int .i64 0, .string ⟨#[]⟩] 30))) (by rfl) rfl (by go_simp) ?_
                  have hb : Below w6_4.heap.size w6_4 (w6_4.alloc (.cells #[.int .i64 0, .int .i64 0, .string ⟨#[]⟩] 30)) := below_alloc (Below.refl _ _) _
                  have hz_ := hb.size
                  have hq : w6_4.heap.size < (w6_4.alloc (.cells #[.int .i64 0, .int .i64 0, .string ⟨#[]⟩] 30)).heap.size := (by simp)
                  obtain ⟨p9, hp9⟩ : ∃ p9, p9 = w6_4.heap.size := ⟨_, rfl⟩
                  have hp0 : w7.heap.size < p9 := (by omega)
                  have hp1 : p9 < (w6_4.alloc (.cells #[.int .i64 0, .int .i64 0, .string ⟨#[]⟩] 30)).heap.size := (by omega)
                  have z0 : (w6_4.alloc (.cells #[.int .i64 0, .int .i64 0, .string ⟨#[]⟩] 30)).cell? ⟨p9, 0, none⟩ = some (.int .i64 0) := (by rw [hp9]; go_simp)
                  have z1 : (w6_4.alloc (.cells #[.int .i64 0, .int .i64 0, .string ⟨#[]⟩] 30)).cell? ⟨p9, 1, none⟩ = some (.int .i64 0) := (by rw [hp9]; go_simp)
                  have z2 : (w6_4.alloc (.cells #[.int .i64 0, .int .i64 0, .string ⟨#[]⟩] 30)).cell? ⟨p9, 2, none⟩ = some (.string ⟨#[]⟩) := (by rw [hp9]; go_simp)
                  have f0 : (w6_4.alloc (.cells #[.int .i64 0, .int .i64 0, .string ⟨#[]⟩] 30)).frozen? ⟨p9, 0, none⟩ = false := (by rw [hp9]; go_simp)
                  have f1 : (w6_4.alloc (.cells #[.int .i64 0, .int .i64 0, .string ⟨#[]⟩] 30)).frozen? ⟨p9, 1, none⟩ = false := (by rw [hp9]; go_simp)
                  have f2 : (w6_4.alloc (.cells #[.int .i64 0, .int .i64 0, .string ⟨#[]⟩] 30)).frozen? ⟨p9, 2, none⟩ = false := (by rw [hp9]; go_simp)
                  rw [← hp9]
                  have hC1 := Kd.C_below hC1 hb
                  have hC3 := Kd.C_below hC3 hb
                  have hC4 := Kd.C_below hC4 hb
                  refine hK.out _ _ ⟨hB.trans (hb.mono (by omega)), (by omega : _ < _), cellB hb (by omega) a0, cellB hb (by omega) a1, cellB hb (by omega) a2, cellB hb (by omega) a3, cellB hb (by omega) a4, cellB hb (by omega) a5, cellB hb (by omega) a6, cellB hb (by omega) a7, cellB hb (by omega) b0, cellB hb (by omega) b1, cellB hb (by omega) b2, cellB hb (by omega) b3, cellB hb (by omega) b4, cellB hb (by omega) b5, cellB hb (by omega) b6, cellB hb (by omega) b7, cellB hb (by omega) s0_0, cellB hb (by omega) s0_1, cellB hb (by omega) s0_2⟩ (fun hS => ?_)
                  clear hK K hb hz_ hq hp9 hB hz a0 a1 a2 a3 a4 a5 a6 a7 b0 b1 b2 b3 b4 b5 b6 b7 s0_0 s0_1 s0_2
                  refine one_ (i := 6) (N := (some 46)) #[true, true, true, true, true, true, true, false, false, false, true, false, false] rfl rfl (by kernel_rfl) (by decide) (fun K hK => ?_)
                  obtain ⟨hB, hz, a0, a1, a2, a3, a4, a5, a6, a7, b0, b1, b2, b3, b4, b5, b6, b7, s0_0, s0_1, s0_2⟩ := hS
                  refine goes_ Try.func40 (by kernel_rfl) rfl #[enE (two 18 (one 16 a) (one 16 b)) (some ⟨B4, 0, none⟩) c4, .slice Ar rs.length cr] (by rfl) rfl rfl (by (try simp only [List.map_toArray, List.map_cons, List.map_nil]); first | done | rfl) ?_
                  refine (eval_some (two 18 (one 16 a) (one 16 b)) (rs := rs) _ _ Ar cr _ (Kd.C_below HR.out hB) hC4).mono ?_
                  rintro e w6_6 ⟨rr, HE, rfl, hb⟩
                  have hz_ := hb.size
                  have hC1 := Kd.C_below hC1 hb
                  have hC3 := Kd.C_below hC3 hb
                  have hC4 := Kd.C_below hC4 hb
                  have z0 := cellB hb (by omega) z0
                  have f0 := frozB hb (by omega) f0
                  have z1 := cellB hb (by omega) z1
                  have f1 := frozB hb (by omega) f1
                  have z2 := cellB hb (by omega) z2
                  have f2 := frozB hb (by omega) f2
                  have hp1 : p9 < w6_6.heap.size := (by omega)
                  refine ⟨_, rfl, hK.out _ _ ⟨hB.trans (hb.mono (by omega)), (by omega : _ < _), cellB hb (by omega) a0, cellB hb (by omega) a1, cellB hb (by omega) a2, cellB hb (by omega) a3, cellB hb (by omega) a4, cellB hb (by omega) a5, cellB hb (by omega) a6, cellB hb (by omega) a7, cellB hb (by omega) b0, cellB hb (by omega) b1, cellB hb (by omega) b2, cellB hb (by omega) b3, cellB hb (by omega) b4, cellB hb (by omega) b5, cellB hb (by omega) b6, cellB hb (by omega) b7, cellB hb (by omega) s0_0, cellB hb (by omega) s0_1, cellB hb (by omega) s0_2⟩ (fun hS => ?_)⟩
                  clear hK K hb hz_ hB hz a0 a1 a2 a3 a4 a5 a6 a7 b0 b1 b2 b3 b4 b5 b6 b7 s0_0 s0_1 s0_2
                  refine pure_ (i := 7) (N := (some 39)) (v := ?_) (a' := ?_) #[true, true, true, true, true, true, true, true, false, false, true, false, false] rfl rfl (by kernel_rfl) (fun _ _ _ h => h) (Or.inl ⟨by rfl, ?_⟩) ?_ ?_
                  rotate_left
                  · intro w'
                    go_simp
                    with_reducible rfl
                  rotate_left
                  · simp only [Act.put, List.setIfInBounds_toArray, List.set_cons_zero, List.set_cons_succ, i64_w, i32_w]
                    rfl
                  refine pure_ (i := 8) (N := (some 47)) (v := ?_) (a' := ?_) #[true, true, true, true, true, true, true, true, true, false, true, false, false] rfl rfl (by kernel_rfl) (fun _ _ _ h => h) (Or.inl ⟨by rfl, ?_⟩) ?_ ?_
                  rotate_left
                  · intro w'
                    go_simp
                    with_reducible rfl
                  rotate_left
                  · simp only [Act.put, List.setIfInBounds_toArray, List.set_cons_zero, List.set_cons_succ, i64_w, i32_w]
                    rfl
                  refine pure_ (i := 9) (N := (some 48)) (v := ?_) (a' := ?_) #[true, true, true, true, true, true, true, true, true, true, true, false, false] rfl rfl (by kernel_rfl) (fun _ _ _ h => h) (Or.inl ⟨by rfl, ?_⟩) ?_ ?_
                  rotate_left
                  · intro w'
                    go_simp
                    with_reducible rfl
                  rotate_left
                  · simp only [Act.put, List.setIfInBounds_toArray, List.set_cons_zero, List.set_cons_succ, i64_w, i32_w]
                    rfl
                  obtain ⟨hB, hz, a0, a1, a2, a3, a4, a5, a6, a7, b0, b1, b2, b3, b4, b5, b6, b7, s0_0, s0_1, s0_2⟩ := hS
                  have hJ' := hJ (p9, enE (one 16 a) (some ⟨B1, 0, none⟩) c1, enE (one 16 b) (some ⟨B3, 0, none⟩) c3, enE (two 18 (one 16 a) (one 16 b)) (some ⟨B4, 0, none⟩) c4, rr) _ ⟨HE, hp0, hp1, z0, z1, z2, f0, f1, f2, hB, hz, a0, a1, a2, a3, a4, a5, a6, a7, b0, b1, b2, b3, b4, b5, b6, b7, s0_0, s0_1, s0_2⟩
                  clear hJ
                  simp only [putAll, Act.put, List.setIfInBounds_toArray, List.set_cons_zero, List.set_cons_succ] at hJ' ⊢
                  exact hJ'
              · have dummy := trivial
                obtain ⟨hB, hz, a0, a1, a2, a3, a4, a5, a6, a7, b0, b1, b2, b3, b4, b5, b6, b7, s0_0, s0_1, s0_2⟩ := hS
                refine value_ (v := .pointer (some ⟨w6_3.heap.size, 0, none⟩)) (w1 := (w6_3.alloc (.cells #[.int .i64 0, .int .i64 0, .string ⟨#[]⟩] 30))) (by rfl) rfl (by go_simp) ?_
                have hb : Below w6_3.heap.size w6_3 (w6_3.alloc (.cells #[.int .i64 0, .int .i64 0, .string ⟨#[]⟩] 30)) := below_alloc (Below.refl _ _) _
                have hz_ := hb.size
                have hq : w6_3.heap.size < (w6_3.alloc (.cells #[.int .i64 0, .int .i64 0, .string ⟨#[]⟩] 30)).heap.size := (by simp)
                obtain ⟨p9, hp9⟩ : ∃ p9, p9 = w6_3.heap.size := ⟨_, rfl⟩
                have hp0 : w7.heap.size < p9 := (by omega)
                have hp1 : p9 < (w6_3.alloc (.cells #[.int .i64 0, .int .i64 0, .string ⟨#[]⟩] 30)).heap.size := (by omega)
                have z0 : (w6_3.alloc (.cells #[.int .i64 0, .int .i64 0, .string ⟨#[]⟩] 30)).cell? ⟨p9, 0, none⟩ = some (.int .i64 0) := (by rw [hp9]; go_simp)
                have z1 : (w6_3.alloc (.cells #[.int .i64 0, .int .i64 0, .string ⟨#[]⟩] 30)).cell? ⟨p9, 1, none⟩ = some (.int .i64 0) := (by rw [hp9]; go_simp)
                have z2 : (w6_3.alloc (.cells #[.int .i64 0, .int .i64 0, .string ⟨#[]⟩] 30)).cell? ⟨p9, 2, none⟩ = some (.string ⟨#[]⟩) := (by rw [hp9]; go_simp)
                have f0 : (w6_3.alloc (.cells #[.int .i64 0, .int .i64 0, .string ⟨#[]⟩] 30)).frozen? ⟨p9, 0, none⟩ = false := (by rw [hp9]; go_simp)
                have f1 : (w6_3.alloc (.cells #[.int .i64 0, .int .i64 0, .string ⟨#[]⟩] 30)).frozen? ⟨p9, 1, none⟩ = false := (by rw [hp9]; go_simp)
                have f2 : (w6_3.alloc (.cells #[.int .i64 0, .int .i64 0, .string ⟨#[]⟩] 30)).frozen? ⟨p9, 2, none⟩ = false := (by rw [hp9]; go_simp)
                rw [← hp9]
                have hC1 := Kd.C_below hC1 hb
                have hC3 := Kd.C_below hC3 hb
                refine hK.out _ _ ⟨hB.trans (hb.mono (by omega)), (by omega : _ < _), cellB hb (by omega) a0, cellB hb (by omega) a1, cellB hb (by omega) a2, cellB hb (by omega) a3, cellB hb (by omega) a4, cellB hb (by omega) a5, cellB hb (by omega) a6, cellB hb (by omega) a7, cellB hb (by omega) b0, cellB hb (by omega) b1, cellB hb (by omega) b2, cellB hb (by omega) b3, cellB hb (by omega) b4, cellB hb (by omega) b5, cellB hb (by omega) b6, cellB hb (by omega) b7, cellB hb (by omega) s0_0, cellB hb (by omega) s0_1, cellB hb (by omega) s0_2⟩ (fun hS => ?_)
                clear hK K hb hz_ hq hp9 hB hz a0 a1 a2 a3 a4 a5 a6 a7 b0 b1 b2 b3 b4 b5 b6 b7 s0_0 s0_1 s0_2
                refine one_ (i := 4) (N := (some 44)) #[true, true, true, true, true, true, false, false, false, false, true, false, false] rfl rfl (by kernel_rfl) (by decide) (fun K hK => ?_)
                obtain ⟨hB, hz, a0, a1, a2, a3, a4, a5, a6, a7, b0, b1, b2, b3, b4, b5, b6, b7, s0_0, s0_1, s0_2⟩ := hS
                refine goes_ Try.func42 (by kernel_rfl) rfl #[.int .i64 18, enE (one 16 a) (some ⟨B1, 0, none⟩) c1, enE (one 16 b) (some ⟨B3, 0, none⟩) c3] (by rfl) rfl rfl (by (try simp only [List.map_toArray, List.map_cons, List.map_nil]); first | done | rfl) ?_
                refine (two_calls 18 (one 16 a) _ c1 (one 16 b) _ c3 _ hl1 hC1 hl3 hC3).mono ?_
                rintro e w6_4 ⟨⟨B4, c4, rfl, hl4, hC4⟩, hb⟩
                have hz_ := hb.size
                have hC1 := Kd.C_below hC1 hb
                have hC3 := Kd.C_below hC3 hb
                have z0 := cellB hb (by omega) z0
                have f0 := frozB hb (by omega) f0
                have z1 := cellB hb (by omega) z1
                have f1 := frozB hb (by omega) f1
                have z2 := cellB hb (by omega) z2
                have f2 := frozB hb (by omega) f2
                have hp1 : p9 < w6_4.heap.size := (by omega)
                refine ⟨_, rfl, hK.out _ _ ⟨hB.trans (hb.mono (by omega)), (by omega : _ < _), cellB hb (by omega) a0, cellB hb (by omega) a1, cellB hb (by omega) a2, cellB hb (by omega) a3, cellB hb (by omega) a4, cellB hb (by omega) a5, cellB hb (by omega) a6, cellB hb (by omega) a7, cellB hb (by omega) b0, cellB hb (by omega) b1, cellB hb (by omega) b2, cellB hb (by omega) b3, cellB hb (by omega) b4, cellB hb (by omega) b5, cellB hb (by omega) b6, cellB hb (by omega) b7, cellB hb (by omega) s0_0, cellB hb (by omega) s0_1, cellB hb (by omega) s0_2⟩ (fun hS => ?_)⟩
                clear hK K hb hz_ hB hz a0 a1 a2 a3 a4 a5 a6 a7 b0 b1 b2 b3 b4 b5 b6 b7 s0_0 s0_1 s0_2
                refine one_ (i := 6) (N := (some 46)) #[true, true, true, true, true, true, true, false, false, false, true, false, false] rfl rfl (by kernel_rfl) (by decide) (fun K hK => ?_)
                obtain ⟨hB, hz, a0, a1, a2, a3, a4, a5, a6, a7, b0, b1, b2, b3, b4, b5, b6, b7, s0_0, s0_1, s0_2⟩ := hS
                refine goes_ Try.func40 (by kernel_rfl) rfl #[enE (two 18 (one 16 a) (one 16 b)) (some ⟨B4, 0, none⟩) c4, .slice Ar rs.length cr] (by rfl) rfl rfl (by (try simp only [List.map_toArray, List.map_cons, List.map_nil]); first | done | rfl) ?_
                refine (eval_some (two 18 (one 16 a) (one 16 b)) (rs := rs) _ _ Ar cr _ (Kd.C_below HR.out hB) hC4).mono ?_
                rintro e w6_6 ⟨rr, HE, rfl, hb⟩
                have hz_ := hb.size
                have hC1 := Kd.C_below hC1 hb
                have hC3 := Kd.C_below hC3 hb
                have hC4 := Kd.C_below hC4 hb
                have z0 := cellB hb (by omega) z0
                have f0 := frozB hb (by omega) f0
                have z1 := cellB hb (by omega) z1
                have f1 := frozB hb (by omega) f1
                have z2 := cellB hb (by omega) z2
                have f2 := frozB hb (by omega) f2
                have hp1 : p9 < w6_6.heap.size := (by omega)
                refine ⟨_, rfl, hK.out _ _ ⟨hB.trans (hb.mono (by omega)), (by omega : _ < _), cellB hb (by omega) a0, cellB hb (by omega) a1, cellB hb (by omega) a2, cellB hb (by omega) a3, cellB hb (by omega) a4, cellB hb (by omega) a5, cellB hb (by omega) a6, cellB hb (by omega) a7, cellB hb (by omega) b0, cellB hb (by omega) b1, cellB hb (by omega) b2, cellB hb (by omega) b3, cellB hb (by omega) b4, cellB hb (by omega) b5, cellB hb (by omega) b6, cellB hb (by omega) b7, cellB hb (by omega) s0_0, cellB hb (by omega) s0_1, cellB hb (by omega) s0_2⟩ (fun hS => ?_)⟩
                clear hK K hb hz_ hB hz a0 a1 a2 a3 a4 a5 a6 a7 b0 b1 b2 b3 b4 b5 b6 b7 s0_0 s0_1 s0_2
                refine pure_ (i := 7) (N := (some 39)) (v := ?_) (a' := ?_) #[true, true, true, true, true, true, true, true, false, false, true, false, false] rfl rfl (by kernel_rfl) (fun _ _ _ h => h) (Or.inl ⟨by rfl, ?_⟩) ?_ ?_
                rotate_left
                · intro w'
                  go_simp
                  with_reducible rfl
                rotate_left
                · simp only [Act.put, List.setIfInBounds_toArray, List.set_cons_zero, List.set_cons_succ, i64_w, i32_w]
                  rfl
                refine pure_ (i := 8) (N := (some 47)) (v := ?_) (a' := ?_) #[true, true, true, true, true, true, true, true, true, false, true, false, false] rfl rfl (by kernel_rfl) (fun _ _ _ h => h) (Or.inl ⟨by rfl, ?_⟩) ?_ ?_
                rotate_left
                · intro w'
                  go_simp
                  with_reducible rfl
                rotate_left
                · simp only [Act.put, List.setIfInBounds_toArray, List.set_cons_zero, List.set_cons_succ, i64_w, i32_w]
                  rfl
                refine pure_ (i := 9) (N := (some 48)) (v := ?_) (a' := ?_) #[true, true, true, true, true, true, true, true, true, true, true, false, false] rfl rfl (by kernel_rfl) (fun _ _ _ h => h) (Or.inl ⟨by rfl, ?_⟩) ?_ ?_
                rotate_left
                · intro w'
                  go_simp
                  with_reducible rfl
                rotate_left
                · simp only [Act.put, List.setIfInBounds_toArray, List.set_cons_zero, List.set_cons_succ, i64_w, i32_w]
                  rfl
                obtain ⟨hB, hz, a0, a1, a2, a3, a4, a5, a6, a7, b0, b1, b2, b3, b4, b5, b6, b7, s0_0, s0_1, s0_2⟩ := hS
                have hJ' := hJ (p9, enE (one 16 a) (some ⟨B1, 0, none⟩) c1, enE (one 16 b) (some ⟨B3, 0, none⟩) c3, enE (two 18 (one 16 a) (one 16 b)) (some ⟨B4, 0, none⟩) c4, rr) _ ⟨HE, hp0, hp1, z0, z1, z2, f0, f1, f2, hB, hz, a0, a1, a2, a3, a4, a5, a6, a7, b0, b1, b2, b3, b4, b5, b6, b7, s0_0, s0_1, s0_2⟩
                clear hJ
                simp only [putAll, Act.put, List.setIfInBounds_toArray, List.set_cons_zero, List.set_cons_succ] at hJ' ⊢
                exact hJ'
            · have dummy := trivial
              obtain ⟨hB, hz, a0, a1, a2, a3, a4, a5, a6, a7, b0, b1, b2, b3, b4, b5, b6, b7, s0_0, s0_1, s0_2⟩ := hS
              refine value_ (v := .pointer (some ⟨w6_1.heap.size, 0, none⟩)) (w1 := (w6_1.alloc (.cells #[.int .i64 0, .int .i64 0, .string ⟨#[]⟩] 30))) (by rfl) rfl (by go_simp) ?_
              have hb : Below w6_1.heap.size w6_1 (w6_1.alloc (.cells #[.int .i64 0, .int .i64 0, .string ⟨#[]⟩] 30)) := below_alloc (Below.refl _ _) _
              have hz_ := hb.size
              have hq : w6_1.heap.size < (w6_1.alloc (.cells #[.int .i64 0, .int .i64 0, .string ⟨#[]⟩] 30)).heap.size := (by simp)
              obtain ⟨p9, hp9⟩ : ∃ p9, p9 = w6_1.heap.size := ⟨_, rfl⟩
              have hp0 : w7.heap.size < p9 := (by omega)
              have hp1 : p9 < (w6_1.alloc (.cells #[.int .i64 0, .int .i64 0, .string ⟨#[]⟩] 30)).heap.size := (by omega)
              have z0 : (w6_1.alloc (.cells #[.int .i64 0, .int .i64 0, .string ⟨#[]⟩] 30)).cell? ⟨p9, 0, none⟩ = some (.int .i64 0) := (by rw [hp9]; go_simp)
              have z1 : (w6_1.alloc (.cells #[.int .i64 0, .int .i64 0, .string ⟨#[]⟩] 30)).cell? ⟨p9, 1, none⟩ = some (.int .i64 0) := (by rw [hp9]; go_simp)
              have z2 : (w6_1.alloc (.cells #[.int .i64 0, .int .i64 0, .string ⟨#[]⟩] 30)).cell? ⟨p9, 2, none⟩ = some (.string ⟨#[]⟩) := (by rw [hp9]; go_simp)
              have f0 : (w6_1.alloc (.cells #[.int .i64 0, .int .i64 0, .string ⟨#[]⟩] 30)).frozen? ⟨p9, 0, none⟩ = false := (by rw [hp9]; go_simp)
              have f1 : (w6_1.alloc (.cells #[.int .i64 0, .int .i64 0, .string ⟨#[]⟩] 30)).frozen? ⟨p9, 1, none⟩ = false := (by rw [hp9]; go_simp)
              have f2 : (w6_1.alloc (.cells #[.int .i64 0, .int .i64 0, .string ⟨#[]⟩] 30)).frozen? ⟨p9, 2, none⟩ = false := (by rw [hp9]; go_simp)
              rw [← hp9]
              have hC1 := Kd.C_below hC1 hb
              refine hK.out _ _ ⟨hB.trans (hb.mono (by omega)), (by omega : _ < _), cellB hb (by omega) a0, cellB hb (by omega) a1, cellB hb (by omega) a2, cellB hb (by omega) a3, cellB hb (by omega) a4, cellB hb (by omega) a5, cellB hb (by omega) a6, cellB hb (by omega) a7, cellB hb (by omega) b0, cellB hb (by omega) b1, cellB hb (by omega) b2, cellB hb (by omega) b3, cellB hb (by omega) b4, cellB hb (by omega) b5, cellB hb (by omega) b6, cellB hb (by omega) b7, cellB hb (by omega) s0_0, cellB hb (by omega) s0_1, cellB hb (by omega) s0_2⟩ (fun hS => ?_)
              clear hK K hb hz_ hq hp9 hB hz a0 a1 a2 a3 a4 a5 a6 a7 b0 b1 b2 b3 b4 b5 b6 b7 s0_0 s0_1 s0_2
              refine one_ (i := 3) (N := (some 43)) #[true, true, true, true, false, true, false, false, false, false, true, false, false] rfl rfl (by kernel_rfl) (by decide) (fun K hK => ?_)
              obtain ⟨hB, hz, a0, a1, a2, a3, a4, a5, a6, a7, b0, b1, b2, b3, b4, b5, b6, b7, s0_0, s0_1, s0_2⟩ := hS
              refine goes_ Try.func41 (by kernel_rfl) rfl #[enE b B d] (by rfl) rfl rfl (by (try simp only [List.map_toArray, List.map_cons, List.map_nil]); first | done | rfl) ?_
              refine (not_calls b B d _ LB.out (Kd.C_below HB.out hB)).mono ?_
              rintro e w6_3 ⟨⟨B3, c3, rfl, hl3, hC3⟩, hb⟩
              have hz_ := hb.size
              have hC1 := Kd.C_below hC1 hb
              have z0 := cellB hb (by omega) z0
              have f0 := frozB hb (by omega) f0
              have z1 := cellB hb (by omega) z1
              have f1 := frozB hb (by omega) f1
              have z2 := cellB hb (by omega) z2
              have f2 := frozB hb (by omega) f2
              have hp1 : p9 < w6_3.heap.size := (by omega)
              refine ⟨_, rfl, hK.out _ _ ⟨hB.trans (hb.mono (by omega)), (by omega : _ < _), cellB hb (by omega) a0, cellB hb (by omega) a1, cellB hb (by omega) a2, cellB hb (by omega) a3, cellB hb (by omega) a4, cellB hb (by omega) a5, cellB hb (by omega) a6, cellB hb (by omega) a7, cellB hb (by omega) b0, cellB hb (by omega) b1, cellB hb (by omega) b2, cellB hb (by omega) b3, cellB hb (by omega) b4, cellB hb (by omega) b5, cellB hb (by omega) b6, cellB hb (by omega) b7, cellB hb (by omega) s0_0, cellB hb (by omega) s0_1, cellB hb (by omega) s0_2⟩ (fun hS => ?_)⟩
              clear hK K hb hz_ hB hz a0 a1 a2 a3 a4 a5 a6 a7 b0 b1 b2 b3 b4 b5 b6 b7 s0_0 s0_1 s0_2
              refine one_ (i := 4) (N := (some 44)) #[true, true, true, true, true, true, false, false, false, false, true, false, false] rfl rfl (by kernel_rfl) (by decide) (fun K hK => ?_)
              obtain ⟨hB, hz, a0, a1, a2, a3, a4, a5, a6, a7, b0, b1, b2, b3, b4, b5, b6, b7, s0_0, s0_1, s0_2⟩ := hS
              refine goes_ Try.func42 (by kernel_rfl) rfl #[.int .i64 18, enE (one 16 a) (some ⟨B1, 0, none⟩) c1, enE (one 16 b) (some ⟨B3, 0, none⟩) c3] (by rfl) rfl rfl (by (try simp only [List.map_toArray, List.map_cons, List.map_nil]); first | done | rfl) ?_
              refine (two_calls 18 (one 16 a) _ c1 (one 16 b) _ c3 _ hl1 hC1 hl3 hC3).mono ?_
              rintro e w6_4 ⟨⟨B4, c4, rfl, hl4, hC4⟩, hb⟩
              have hz_ := hb.size
              have hC1 := Kd.C_below hC1 hb
              have hC3 := Kd.C_below hC3 hb
              have z0 := cellB hb (by omega) z0
              have f0 := frozB hb (by omega) f0
              have z1 := cellB hb (by omega) z1
              have f1 := frozB hb (by omega) f1
              have z2 := cellB hb (by omega) z2
              have f2 := frozB hb (by omega) f2
              have hp1 : p9 < w6_4.heap.size := (by omega)
              refine ⟨_, rfl, hK.out _ _ ⟨hB.trans (hb.mono (by omega)), (by omega : _ < _), cellB hb (by omega) a0, cellB hb (by omega) a1, cellB hb (by omega) a2, cellB hb (by omega) a3, cellB hb (by omega) a4, cellB hb (by omega) a5, cellB hb (by omega) a6, cellB hb (by omega) a7, cellB hb (by omega) b0, cellB hb (by omega) b1, cellB hb (by omega) b2, cellB hb (by omega) b3, cellB hb (by omega) b4, cellB hb (by omega) b5, cellB hb (by omega) b6, cellB hb (by omega) b7, cellB hb (by omega) s0_0, cellB hb (by omega) s0_1, cellB hb (by omega) s0_2⟩ (fun hS => ?_)⟩
              clear hK K hb hz_ hB hz a0 a1 a2 a3 a4 a5 a6 a7 b0 b1 b2 b3 b4 b5 b6 b7 s0_0 s0_1 s0_2
              refine one_ (i := 6) (N := (some 46)) #[true, true, true, true, true, true, true, false, false, false, true, false, false] rfl rfl (by kernel_rfl) (by decide) (fun K hK => ?_)
              obtain ⟨hB, hz, a0, a1, a2, a3, a4, a5, a6, a7, b0, b1, b2, b3, b4, b5, b6, b7, s0_0, s0_1, s0_2⟩ := hS
              refine goes_ Try.func40 (by kernel_rfl) rfl #[enE (two 18 (one 16 a) (one 16 b)) (some ⟨B4, 0, none⟩) c4, .slice Ar rs.length cr] (by rfl) rfl rfl (by (try simp only [List.map_toArray, List.map_cons, List.map_nil]); first | done | rfl) ?_
              refine (eval_some (two 18 (one 16 a) (one 16 b)) (rs := rs) _ _ Ar cr _ (Kd.C_below HR.out hB) hC4).mono ?_
              rintro e w6_6 ⟨rr, HE, rfl, hb⟩
              have hz_ := hb.size
              have hC1 := Kd.C_below hC1 hb
              have hC3 := Kd.C_below hC3 hb
              have hC4 := Kd.C_below hC4 hb
              have z0 := cellB hb (by omega) z0
              have f0 := frozB hb (by omega) f0
              have z1 := cellB hb (by omega) z1
              have f1 := frozB hb (by omega) f1
              have z2 := cellB hb (by omega) z2
              have f2 := frozB hb (by omega) f2
              have hp1 : p9 < w6_6.heap.size := (by omega)
              refine ⟨_, rfl, hK.out _ _ ⟨hB.trans (hb.mono (by omega)), (by omega : _ < _), cellB hb (by omega) a0, cellB hb (by omega) a1, cellB hb (by omega) a2, cellB hb (by omega) a3, cellB hb (by omega) a4, cellB hb (by omega) a5, cellB hb (by omega) a6, cellB hb (by omega) a7, cellB hb (by omega) b0, cellB hb (by omega) b1, cellB hb (by omega) b2, cellB hb (by omega) b3, cellB hb (by omega) b4, cellB hb (by omega) b5, cellB hb (by omega) b6, cellB hb (by omega) b7, cellB hb (by omega) s0_0, cellB hb (by omega) s0_1, cellB hb (by omega) s0_2⟩ (fun hS => ?_)⟩
              clear hK K hb hz_ hB hz a0 a1 a2 a3 a4 a5 a6 a7 b0 b1 b2 b3 b4 b5 b6 b7 s0_0 s0_1 s0_2
              refine pure_ (i := 7) (N := (some 39)) (v := ?_) (a' := ?_) #[true, true, true, true, true, true, true, true, false, false, true, false, false] rfl rfl (by kernel_rfl) (fun _ _ _ h => h) (Or.inl ⟨by rfl, ?_⟩) ?_ ?_
              rotate_left
              · intro w'
                go_simp
                with_reducible rfl
              rotate_left
              · simp only [Act.put, List.setIfInBounds_toArray, List.set_cons_zero, List.set_cons_succ, i64_w, i32_w]
                rfl
              refine pure_ (i := 8) (N := (some 47)) (v := ?_) (a' := ?_) #[true, true, true, true, true, true, true, true, true, false, true, false, false] rfl rfl (by kernel_rfl) (fun _ _ _ h => h) (Or.inl ⟨by rfl, ?_⟩) ?_ ?_
              rotate_left
              · intro w'
                go_simp
                with_reducible rfl
              rotate_left
              · simp only [Act.put, List.setIfInBounds_toArray, List.set_cons_zero, List.set_cons_succ, i64_w, i32_w]
                rfl
              refine pure_ (i := 9) (N := (some 48)) (v := ?_) (a' := ?_) #[true, true, true, true, true, true, true, true, true, true, true, false, false] rfl rfl (by kernel_rfl) (fun _ _ _ h => h) (Or.inl ⟨by rfl, ?_⟩) ?_ ?_
              rotate_left
              · intro w'
                go_simp
                with_reducible rfl
              rotate_left
              · simp only [Act.put, List.setIfInBounds_toArray, List.set_cons_zero, List.set_cons_succ, i64_w, i32_w]
                rfl
              obtain ⟨hB, hz, a0, a1, a2, a3, a4, a5, a6, a7, b0, b1, b2, b3, b4, b5, b6, b7, s0_0, s0_1, s0_2⟩ := hS
              have hJ' := hJ (p9, enE (one 16 a) (some ⟨B1, 0, none⟩) c1, enE (one 16 b) (some ⟨B3, 0, none⟩) c3, enE (two 18 (one 16 a) (one 16 b)) (some ⟨B4, 0, none⟩) c4, rr) _ ⟨HE, hp0, hp1, z0, z1, z2, f0, f1, f2, hB, hz, a0, a1, a2, a3, a4, a5, a6, a7, b0, b1, b2, b3, b4, b5, b6, b7, s0_0, s0_1, s0_2⟩
              clear hJ
              simp only [putAll, Act.put, List.setIfInBounds_toArray, List.set_cons_zero, List.set_cons_succ] at hJ' ⊢
              exact hJ'
          · have dummy := trivial
            obtain ⟨hB, hz, a0, a1, a2, a3, a4, a5, a6, a7, b0, b1, b2, b3, b4, b5, b6, b7, s0_0, s0_1, s0_2⟩ := hS
            refine value_ (v := .pointer (some ⟨wr.heap.size, 0, none⟩)) (w1 := (wr.alloc (.cells #[.int .i64 0, .int .i64 0, .string ⟨#[]⟩] 30))) (by rfl) rfl (by go_simp) ?_
            have hb : Below wr.heap.size wr (wr.alloc (.cells #[.int .i64 0, .int .i64 0, .string ⟨#[]⟩] 30)) := below_alloc (Below.refl _ _) _
            have hz_ := hb.size
            have hq : wr.heap.size < (wr.alloc (.cells #[.int .i64 0, .int .i64 0, .string ⟨#[]⟩] 30)).heap.size := (by simp)
            obtain ⟨p9, hp9⟩ : ∃ p9, p9 = wr.heap.size := ⟨_, rfl⟩
            have hp0 : w7.heap.size < p9 := (by omega)
            have hp1 : p9 < (wr.alloc (.cells #[.int .i64 0, .int .i64 0, .string ⟨#[]⟩] 30)).heap.size := (by omega)
            have z0 : (wr.alloc (.cells #[.int .i64 0, .int .i64 0, .string ⟨#[]⟩] 30)).cell? ⟨p9, 0, none⟩ = some (.int .i64 0) := (by rw [hp9]; go_simp)
            have z1 : (wr.alloc (.cells #[.int .i64 0, .int .i64 0, .string ⟨#[]⟩] 30)).cell? ⟨p9, 1, none⟩ = some (.int .i64 0) := (by rw [hp9]; go_simp)
            have z2 : (wr.alloc (.cells #[.int .i64 0, .int .i64 0, .string ⟨#[]⟩] 30)).cell? ⟨p9, 2, none⟩ = some (.string ⟨#[]⟩) := (by rw [hp9]; go_simp)
            have f0 : (wr.alloc (.cells #[.int .i64 0, .int .i64 0, .string ⟨#[]⟩] 30)).frozen? ⟨p9, 0, none⟩ = false := (by rw [hp9]; go_simp)
            have f1 : (wr.alloc (.cells #[.int .i64 0, .int .i64 0, .string ⟨#[]⟩] 30)).frozen? ⟨p9, 1, none⟩ = false := (by rw [hp9]; go_simp)
            have f2 : (wr.alloc (.cells #[.int .i64 0, .int .i64 0, .string ⟨#[]⟩] 30)).frozen? ⟨p9, 2, none⟩ = false := (by rw [hp9]; go_simp)
            rw [← hp9]
            refine hK.out _ _ ⟨hB.trans (hb.mono (by omega)), (by omega : _ < _), cellB hb (by omega) a0, cellB hb (by omega) a1, cellB hb (by omega) a2, cellB hb (by omega) a3, cellB hb (by omega) a4, cellB hb (by omega) a5, cellB hb (by omega) a6, cellB hb (by omega) a7, cellB hb (by omega) b0, cellB hb (by omega) b1, cellB hb (by omega) b2, cellB hb (by omega) b3, cellB hb (by omega) b4, cellB hb (by omega) b5, cellB hb (by omega) b6, cellB hb (by omega) b7, cellB hb (by omega) s0_0, cellB hb (by omega) s0_1, cellB hb (by omega) s0_2⟩ (fun hS => ?_)
            clear hK K hb hz_ hq hp9 hB hz a0 a1 a2 a3 a4 a5 a6 a7 b0 b1 b2 b3 b4 b5 b6 b7 s0_0 s0_1 s0_2
            refine one_ (i := 1) (N := (some 41)) #[true, true, true, false, false, true, false, false, false, false, true, false, false] rfl rfl (by kernel_rfl) (by decide) (fun K hK => ?_)
            obtain ⟨hB, hz, a0, a1, a2, a3, a4, a5, a6, a7, b0, b1, b2, b3, b4, b5, b6, b7, s0_0, s0_1, s0_2⟩ := hS
            refine goes_ Try.func41 (by kernel_rfl) rfl #[enE a A c] (by rfl) rfl rfl (by (try simp only [List.map_toArray, List.map_cons, List.map_nil]); first | done | rfl) ?_
            refine (not_calls a A c _ LA.out (Kd.C_below HA.out hB)).mono ?_
            rintro e w6_1 ⟨⟨B1, c1, rfl, hl1, hC1⟩, hb⟩
            have hz_ := hb.size
            have z0 := cellB hb (by omega) z0
            have f0 := frozB hb (by omega) f0
            have z1 := cellB hb (by omega) z1
            have f1 := frozB hb (by omega) f1
            have z2 := cellB hb (by omega) z2
            have f2 := frozB hb (by omega) f2
            have hp1 : p9 < w6_1.heap.size := (by omega)
            refine ⟨_, rfl, hK.out _ _ ⟨hB.trans (hb.mono (by omega)), (by omega : _ < _), cellB hb (by omega) a0, cellB hb (by omega) a1, cellB hb (by omega) a2, cellB hb (by omega) a3, cellB hb (by omega) a4, cellB hb (by omega) a5, cellB hb (by omega) a6, cellB hb (by omega) a7, cellB hb (by omega) b0, cellB hb (by omega) b1, cellB hb (by omega) b2, cellB hb (by omega) b3, cellB hb (by omega) b4, cellB hb (by omega) b5, cellB hb (by omega) b6, cellB hb (by omega) b7, cellB hb (by omega) s0_0, cellB hb (by omega) s0_1, cellB hb (by omega) s0_2⟩ (fun hS => ?_)⟩
            clear hK K hb hz_ hB hz a0 a1 a2 a3 a4 a5 a6 a7 b0 b1 b2 b3 b4 b5 b6 b7 s0_0 s0_1 s0_2
            refine one_ (i := 3) (N := (some 43)) #[true, true, true, true, false, true, false, false, false, false, true, false, false] rfl rfl (by kernel_rfl) (by decide) (fun K hK => ?_)
            obtain ⟨hB, hz, a0, a1, a2, a3, a4, a5, a6, a7, b0, b1, b2, b3, b4, b5, b6, b7, s0_0, s0_1, s0_2⟩ := hS
            refine goes_ Try.func41 (by kernel_rfl) rfl #[enE b B d] (by rfl) rfl rfl (by (try simp only [List.map_toArray, List.map_cons, List.map_nil]); first | done | rfl) ?_
            refine (not_calls b B d _ LB.out (Kd.C_below HB.out hB)).mono ?_
            rintro e w6_3 ⟨⟨B3, c3, rfl, hl3, hC3⟩, hb⟩
            have hz_ := hb.size
            have hC1 := Kd.C_below hC1 hb
            have z0 := cellB hb (by omega) z0
            have f0 := frozB hb (by omega) f0
            have z1 := cellB hb (by omega) z1
            have f1 := frozB hb (by omega) f1
            have z2 := cellB hb (by omega) z2
            have f2 := frozB hb (by omega) f2
            have hp1 : p9 < w6_3.heap.size := (by omega)
            refine ⟨_, rfl, hK.out _ _ ⟨hB.trans (hb.mono (by omega)), (by omega : _ < _), cellB hb (by omega) a0, cellB hb (by omega) a1, cellB hb (by omega) a2, cellB hb (by omega) a3, cellB hb (by omega) a4, cellB hb (by omega) a5, cellB hb (by omega) a6, cellB hb (by omega) a7, cellB hb (by omega) b0, cellB hb (by omega) b1, cellB hb (by omega) b2, cellB hb (by omega) b3, cellB hb (by omega) b4, cellB hb (by omega) b5, cellB hb (by omega) b6, cellB hb (by omega) b7, cellB hb (by omega) s0_0, cellB hb (by omega) s0_1, cellB hb (by omega) s0_2⟩ (fun hS => ?_)⟩
            clear hK K hb hz_ hB hz a0 a1 a2 a3 a4 a5 a6 a7 b0 b1 b2 b3 b4 b5 b6 b7 s0_0 s0_1 s0_2
            refine one_ (i := 4) (N := (some 44)) #[true, true, true, true, true, true, false, false, false, false, true, false, false] rfl rfl (by kernel_rfl) (by decide) (fun K hK => ?_)
            obtain ⟨hB, hz, a0, a1, a2, a3, a4, a5, a6, a7, b0, b1, b2, b3, b4, b5, b6, b7, s0_0, s0_1, s0_2⟩ := hS
            refine goes_ Try.func42 (by kernel_rfl) rfl #[.int .i64 18, enE (one 16 a) (some ⟨B1, 0, none⟩) c1, enE (one 16 b) (some ⟨B3, 0, none⟩) c3] (by rfl) rfl rfl (by (try simp only [List.map_toArray, List.map_cons, List.map_nil]); first | done | rfl) ?_
            refine (two_calls 18 (one 16 a) _ c1 (one 16 b) _ c3 _ hl1 hC1 hl3 hC3).mono ?_
            rintro e w6_4 ⟨⟨B4, c4, rfl, hl4, hC4⟩, hb⟩
            have hz_ := hb.size
            have hC1 := Kd.C_below hC1 hb
            have hC3 := Kd.C_below hC3 hb
            have z0 := cellB hb (by omega) z0
            have f0 := frozB hb (by omega) f0
            have z1 := cellB hb (by omega) z1
            have f1 := frozB hb (by omega) f1
            have z2 := cellB hb (by omega) z2
            have f2 := frozB hb (by omega) f2
            have hp1 : p9 < w6_4.heap.size := (by omega)
            refine ⟨_, rfl, hK.out _ _ ⟨hB.trans (hb.mono (by omega)), (by omega : _ < _), cellB hb (by omega) a0, cellB hb (by omega) a1, cellB hb (by omega) a2, cellB hb (by omega) a3, cellB hb (by omega) a4, cellB hb (by omega) a5, cellB hb (by omega) a6, cellB hb (by omega) a7, cellB hb (by omega) b0, cellB hb (by omega) b1, cellB hb (by omega) b2, cellB hb (by omega) b3, cellB hb (by omega) b4, cellB hb (by omega) b5, cellB hb (by omega) b6, cellB hb (by omega) b7, cellB hb (by omega) s0_0, cellB hb (by omega) s0_1, cellB hb (by omega) s0_2⟩ (fun hS => ?_)⟩
            clear hK K hb hz_ hB hz a0 a1 a2 a3 a4 a5 a6 a7 b0 b1 b2 b3 b4 b5 b6 b7 s0_0 s0_1 s0_2
            refine one_ (i := 6) (N := (some 46)) #[true, true, true, true, true, true, true, false, false, false, true, false, false] rfl rfl (by kernel_rfl) (by decide) (fun K hK => ?_)
            obtain ⟨hB, hz, a0, a1, a2, a3, a4, a5, a6, a7, b0, b1, b2, b3, b4, b5, b6, b7, s0_0, s0_1, s0_2⟩ := hS
            refine goes_ Try.func40 (by kernel_rfl) rfl #[enE (two 18 (one 16 a) (one 16 b)) (some ⟨B4, 0, none⟩) c4, .slice Ar rs.length cr] (by rfl) rfl rfl (by (try simp only [List.map_toArray, List.map_cons, List.map_nil]); first | done | rfl) ?_
            refine (eval_some (two 18 (one 16 a) (one 16 b)) (rs := rs) _ _ Ar cr _ (Kd.C_below HR.out hB) hC4).mono ?_
            rintro e w6_6 ⟨rr, HE, rfl, hb⟩
            have hz_ := hb.size
            have hC1 := Kd.C_below hC1 hb
            have hC3 := Kd.C_below hC3 hb
            have hC4 := Kd.C_below hC4 hb
            have z0 := cellB hb (by omega) z0
            have f0 := frozB hb (by omega) f0
            have z1 := cellB hb (by omega) z1
            have f1 := frozB hb (by omega) f1
            have z2 := cellB hb (by omega) z2
            have f2 := frozB hb (by omega) f2
            have hp1 : p9 < w6_6.heap.size := (by omega)
            refine ⟨_, rfl, hK.out _ _ ⟨hB.trans (hb.mono (by omega)), (by omega : _ < _), cellB hb (by omega) a0, cellB hb (by omega) a1, cellB hb (by omega) a2, cellB hb (by omega) a3, cellB hb (by omega) a4, cellB hb (by omega) a5, cellB hb (by omega) a6, cellB hb (by omega) a7, cellB hb (by omega) b0, cellB hb (by omega) b1, cellB hb (by omega) b2, cellB hb (by omega) b3, cellB hb (by omega) b4, cellB hb (by omega) b5, cellB hb (by omega) b6, cellB hb (by omega) b7, cellB hb (by omega) s0_0, cellB hb (by omega) s0_1, cellB hb (by omega) s0_2⟩ (fun hS => ?_)⟩
            clear hK K hb hz_ hB hz a0 a1 a2 a3 a4 a5 a6 a7 b0 b1 b2 b3 b4 b5 b6 b7 s0_0 s0_1 s0_2
            refine pure_ (i := 7) (N := (some 39)) (v := ?_) (a' := ?_) #[true, true, true, true, true, true, true, true, false, false, true, false, false] rfl rfl (by kernel_rfl) (fun _ _ _ h => h) (Or.inl ⟨by rfl, ?_⟩) ?_ ?_
            rotate_left
            · intro w'
              go_simp
              with_reducible rfl
            rotate_left
            · simp only [Act.put, List.setIfInBounds_toArray, List.set_cons_zero, List.set_cons_succ, i64_w, i32_w]
              rfl
            refine pure_ (i := 8) (N := (some 47)) (v := ?_) (a' := ?_) #[true, true, true, true, true, true, true, true, true, false, true, false, false] rfl rfl (by kernel_rfl) (fun _ _ _ h => h) (Or.inl ⟨by rfl, ?_⟩) ?_ ?_
            rotate_left
            · intro w'
              go_simp
              with_reducible rfl
            rotate_left
            · simp only [Act.put, List.setIfInBounds_toArray, List.set_cons_zero, List.set_cons_succ, i64_w, i32_w]
              rfl
            refine pure_ (i := 9) (N := (some 48)) (v := ?_) (a' := ?_) #[true, true, true, true, true, true, true, true, true, true, true, false, false] rfl rfl (by kernel_rfl) (fun _ _ _ h => h) (Or.inl ⟨by rfl, ?_⟩) ?_ ?_
            rotate_left
            · intro w'
              go_simp
              with_reducible rfl
            rotate_left
            · simp only [Act.put, List.setIfInBounds_toArray, List.set_cons_zero, List.set_cons_succ, i64_w, i32_w]
              rfl
            obtain ⟨hB, hz, a0, a1, a2, a3, a4, a5, a6, a7, b0, b1, b2, b3, b4, b5, b6, b7, s0_0, s0_1, s0_2⟩ := hS
            have hJ' := hJ (p9, enE (one 16 a) (some ⟨B1, 0, none⟩) c1, enE (one 16 b) (some ⟨B3, 0, none⟩) c3, enE (two 18 (one 16 a) (one 16 b)) (some ⟨B4, 0, none⟩) c4, rr) _ ⟨HE, hp0, hp1, z0, z1, z2, f0, f1, f2, hB, hz, a0, a1, a2, a3, a4, a5, a6, a7, b0, b1, b2, b3, b4, b5, b6, b7, s0_0, s0_1, s0_2⟩
            clear hJ
            simp only [putAll, Act.put, List.setIfInBounds_toArray, List.set_cons_zero, List.set_cons_succ] at hJ' ⊢
            exact hJ'
        obtain ⟨p9, _, _, _, r9⟩ := s
        obtain ⟨HEr9, hp0, hp1, z0, z1, z2, f0, f1, f2, hB, hz, a0, a1, a2, a3, a4, a5, a6, a7, b0, b1, b2, b3, b4, b5, b6, b7, s0_0, s0_1, s0_2⟩ := hF
        simp only [putAll, Act.put, List.setIfInBounds_toArray, List.set_cons_zero, List.set_cons_succ]
        refine last_ (i := 11) (N := none) #[true, true, true, true, true, true, true, true, true, true, true, true, false] rfl rfl (by kernel_rfl) (by decide) (fun K hK => ?_)
        refine skip_ (w1 := ?_) (by rfl) rfl ?_ ?_
        rotate_left
        · go_simp
          rfl
        refine hK.out _ _ ?_
        clear hK K
        refine pure_ (i := 12) (N := (some 10)) (v := ?_) (a' := ?_) #[true, true, true, true, true, true, true, true, true, true, true, true, true] rfl rfl (by kernel_rfl) (fun _ _ _ h => h) (Or.inl ⟨by rfl, ?_⟩) ?_ ?_
        rotate_left
        · intro w'
          go_simp
          with_reducible rfl
        rotate_left
        · simp only [Act.put, List.setIfInBounds_toArray, List.set_cons_zero, List.set_cons_succ, i64_w, i32_w]
          rfl
        refine done_ (by kernel_rfl) ?_
        have e9 : r9 = r7 := HEr9.out.symm.trans ((dm1 rs a b).symm.trans HEr7.out)
        subst e9
        clear HEr9
        obtain ⟨q15_0, q15_1, q15_2, q15_3, q15_4, q15_5, q15_6⟩ := lt_chain6 (show w.heap.size < p9 by omega)
        obtain ⟨q16_0, q16_1, q16_2, q16_3, q16_4, q16_5, q16_6⟩ := lt_chain6 (show w.heap.size + 1 < p9 by omega)
        obtain ⟨q17_0, q17_1, q17_2, q17_3, q17_4, q17_5, q17_6⟩ := lt_chain6 (show w7.heap.size < p9 by omega)
        obtain ⟨q18_0, q18_1, q18_2, q18_3, q18_4, q18_5, q18_6⟩ := lt_chain6 (show w.heap.size < wj.heap.size by omega)
        obtain ⟨q19_0, q19_1, q19_2, q19_3, q19_4, q19_5, q19_6⟩ := lt_chain6 (show w.heap.size + 1 < wj.heap.size by omega)
        obtain ⟨q20_0, q20_1, q20_2, q20_3, q20_4, q20_5, q20_6⟩ := lt_chain6 (show w7.heap.size < wj.heap.size by omega)
        obtain ⟨q21_0, q21_1, q21_2, q21_3, q21_4, q21_5, q21_6⟩ := lt_chain6 (show p9 < wj.heap.size by omega)
        have hBj := hB
        clear hB
        go_wp2_with fail
        refine (two_calls 18 a A c b B d _ LA.out (Kd.C_below HA.out (by repeat (first | assumption | exact Below.refl _ _ | apply below_alloc | apply pw_below_drewN | apply below_drew1 | (refine setC ?_ (by omega) _)))) LB.out (Kd.C_below HB.out (by repeat (first | assumption | exact Below.refl _ _ | apply below_alloc | apply pw_below_drewN | apply below_drew1 | (refine setC ?_ (by omega) _))))).mono ?_
        rintro e x5 ⟨⟨Bq, cq, rfl, hlq, hCq⟩, hb8⟩
        have hB8 : Below w.heap.size w x5 := (by refine belT ?_ hb8; repeat (first | assumption | exact Below.refl _ _ | apply below_alloc | apply pw_below_drewN | apply below_drew1 | (refine setC ?_ (by omega) _)))
        obtain ⟨hc8, hf8⟩ := bcell hb8
        have hz8 := hb8.size
        (try simp at hz8)
        obtain ⟨q22_0, q22_1, q22_2, q22_3, q22_4, q22_5, q22_6⟩ := lt_chain6 (show w.heap.size < x5.heap.size by omega)
        obtain ⟨q23_0, q23_1, q23_2, q23_3, q23_4, q23_5, q23_6⟩ := lt_chain6 (show w.heap.size + 1 < x5.heap.size by omega)
        obtain ⟨q24_0, q24_1, q24_2, q24_3, q24_4, q24_5, q24_6⟩ := lt_chain6 (show w7.heap.size < x5.heap.size by omega)
        obtain ⟨q25_0, q25_1, q25_2, q25_3, q25_4, q25_5, q25_6⟩ := lt_chain6 (show p9 < x5.heap.size by omega)
        have HQ := Aside0.mk hCq
        have LQ := Aside0.mk hlq
        clear hCq hlq
        go_wp2_with fail
        refine (not_calls (two 18 a b) _ cq _ LQ.out HQ.out).mono ?_
        rintro e x6 ⟨⟨Bp, cp, rfl, hlp, hCp⟩, hb9⟩
        have hB9 : Below w.heap.size w x6 := (by refine belT ?_ hb9; repeat (first | assumption | exact Below.refl _ _ | apply below_alloc | apply pw_below_drewN | apply below_drew1 | (refine setC ?_ (by omega) _)))
        obtain ⟨hc9, hf9⟩ := bcell hb9
        have hz9 := hb9.size
        (try simp at hz9)
        obtain ⟨q26_0, q26_1, q26_2, q26_3, q26_4, q26_5, q26_6⟩ := lt_chain6 (show w.heap.size < x6.heap.size by omega)
        obtain ⟨q27_0, q27_1, q27_2, q27_3, q27_4, q27_5, q27_6⟩ := lt_chain6 (show w.heap.size + 1 < x6.heap.size by omega)
        obtain ⟨q28_0, q28_1, q28_2, q28_3, q28_4, q28_5, q28_6⟩ := lt_chain6 (show w7.heap.size < x6.heap.size by omega)
        obtain ⟨q29_0, q29_1, q29_2, q29_3, q29_4, q29_5, q29_6⟩ := lt_chain6 (show p9 < x6.heap.size by omega)
        have HP := Aside0.mk hCp
        clear hCp hlp
        go_wp2_with fail
        refine (eval_some (one 16 (two 18 a b)) (rs := rs) _ _ Ar cr _ (Kd.C_below HR.out (by repeat (first | assumption | exact Below.refl _ _ | apply below_alloc | apply pw_below_drewN | apply below_drew1 | (refine setC ?_ (by omega) _)))) HP.out).mono ?_
        rintro e x7 ⟨r11, HEr11, rfl, hb10⟩
        have hB10 : Below w.heap.size w x7 := (by refine belT ?_ hb10; repeat (first | assumption | exact Below.refl _ _ | apply below_alloc | apply pw_below_drewN | apply below_drew1 | (refine setC ?_ (by omega) _)))
        obtain ⟨hc10, hf10⟩ := bcell hb10
        have hz10 := hb10.size
        (try simp at hz10)
        obtain ⟨q30_0, q30_1, q30_2, q30_3, q30_4, q30_5, q30_6⟩ := lt_chain6 (show w.heap.size < x7.heap.size by omega)
        obtain ⟨q31_0, q31_1, q31_2, q31_3, q31_4, q31_5, q31_6⟩ := lt_chain6 (show w.heap.size + 1 < x7.heap.size by omega)
        obtain ⟨q32_0, q32_1, q32_2, q32_3, q32_4, q32_5, q32_6⟩ := lt_chain6 (show w7.heap.size < x7.heap.size by omega)
        obtain ⟨q33_0, q33_1, q33_2, q33_3, q33_4, q33_5, q33_6⟩ := lt_chain6 (show p9 < x7.heap.size by omega)
        clear HP HQ LQ
        go_wp2_with fail
        refine startG (n := 13) (S := (fun w' => Below w.heap.size w w' ∧ x7.heap.size < w'.heap.size ∧ w'.cell? ⟨w.heap.size, 0, none⟩ = some (.int .i64 a.f0) ∧ w'.cell? ⟨w.heap.size, 1, none⟩ = some (.string a.f1) ∧ w'.cell? ⟨w.heap.size, 2, none⟩ = some (.string a.f2) ∧ w'.cell? ⟨w.heap.size, 3, none⟩ = some (.int .i64 a.f3) ∧ w'.cell? ⟨w.heap.size, 4, none⟩ = some (.int .i64 a.f4.f0) ∧ w'.cell? ⟨w.heap.size, 5, none⟩ = some (.int .i64 a.f4.f1) ∧ w'.cell? ⟨w.heap.size, 6, none⟩ = some (.string a.f4.f2) ∧ w'.cell? ⟨w.heap.size, 7, none⟩ = some (.slice A a.f5.length c) ∧ w'.cell? ⟨w.heap.size + 1, 0, none⟩ = some (.int .i64 b.f0) ∧ w'.cell? ⟨w.heap.size + 1, 1, none⟩ = some (.string b.f1) ∧ w'.cell? ⟨w.heap.size + 1, 2, none⟩ = some (.string b.f2) ∧ w'.cell? ⟨w.heap.size + 1, 3, none⟩ = some (.int .i64 b.f3) ∧ w'.cell? ⟨w.heap.size + 1, 4, none⟩ = some (.int .i64 b.f4.f0) ∧ w'.cell? ⟨w.heap.size + 1, 5, none⟩ = some (.int .i64 b.f4.f1) ∧ w'.cell? ⟨w.heap.size + 1, 6, none⟩ = some (.string b.f4.f2) ∧ w'.cell? ⟨w.heap.size + 1, 7, none⟩ = some (.slice B b.f5.length d) ∧ w'.cell? ⟨w7.heap.size, 0, none⟩ = some (.int .i64 r9.1.f0) ∧ w'.cell? ⟨w7.heap.size, 1, none⟩ = some (.int .i64 r9.1.f1) ∧ w'.cell? ⟨w7.heap.size, 2, none⟩ = some (.string r9.1.f2) ∧ w'.cell? ⟨p9, 0, none⟩ = some (.int .i64 r9.1.f0) ∧ w'.cell? ⟨p9, 1, none⟩ = some (.int .i64 r9.1.f1) ∧ w'.cell? ⟨p9, 2, none⟩ = some (.string r9.1.f2) ∧ w'.cell? ⟨x7.heap.size, 0, none⟩ = some (.int .i64 r11.1.f0) ∧ w'.cell? ⟨x7.heap.size, 1, none⟩ = some (.int .i64 r11.1.f1) ∧ w'.cell? ⟨x7.heap.size, 2, none⟩ = some (.string r11.1.f2))) (ds := [11]) #[false, false, false, false, false, false, false, false, false, false, false, false, false] (by kernel_rfl) rfl rfl ?_ (fun wr hS => ?_)
        · refine ⟨?_, ?_, ?_, ?_, ?_, ?_, ?_, ?_, ?_, ?_, ?_, ?_, ?_, ?_, ?_, ?_, ?_, ?_, ?_, ?_, ?_, ?_, ?_, ?_, ?_, ?_, ?_⟩; (repeat (first | assumption | exact Below.refl _ _ | apply below_alloc | apply pw_below_drewN | apply below_drew1 | (refine setC ?_ (by omega) _))); · (first | (simp; done) | (simp; omega) | (trace_state; sorry))
          · go_simp
          · go_simp
          · go_simp
          · go_simp
          · go_simp
          · go_simp
          · go_simp
          · go_simp
          · go_simp
          · go_simp
          · go_simp
          · go_simp
          · go_simp
          · go_simp
          · go_simp
          · go_simp
          · go_simp
          · go_simp
          · go_simp
          · go_simp
          · go_simp
          · go_simp
          · go_simp
          · go_simp
          · go_simp
        clear q15_0 q15_1 q15_2 q15_3 q15_4 q15_5 q15_6 q16_0 q16_1 q16_2 q16_3 q16_4 q16_5 q16_6 q17_0 q17_1 q17_2 q17_3 q17_4 q17_5 q17_6 q18_0 q18_1 q18_2 q18_3 q18_4 q18_5 q18_6 q19_0 q19_1 q19_2 q19_3 q19_4 q19_5 q19_6 q20_0 q20_1 q20_2 q20_3 q20_4 q20_5 q20_6 q21_0 q21_1 q21_2 q21_3 q21_4 q21_5 q21_6 q22_0 q22_1 q22_2 q22_3 q22_4 q22_5 q22_6 q23_0 q23_1 q23_2 q23_3 q23_4 q23_5 q23_6 q24_0 q24_1 q24_2 q24_3 q24_4 q24_5 q24_6 q25_0 q25_1 q25_2 q25_3 q25_4 q25_5 q25_6 q26_0 q26_1 q26_2 q26_3 q26_4 q26_5 q26_6 q27_0 q27_1 q27_2 q27_3 q27_4 q27_5 q27_6 q28_0 q28_1 q28_2 q28_3 q28_4 q28_5 q28_6 q29_0 q29_1 q29_2 q29_3 q29_4 q29_5 q29_6 q30_0 q30_1 q30_2 q30_3 q30_4 q30_5 q30_6 q31_0 q31_1 q31_2 q31_3 q31_4 q31_5 q31_6 q32_0 q32_1 q32_2 q32_3 q32_4 q32_5 q32_6 q33_0 q33_1 q33_2 q33_3 q33_4 q33_5 q33_6
        refine take_ (i := 0) (N := (some 59)) (v := ?_) (a' := ?_) #[true, false, false, false, false, false, false, false, false, false, false, false, false] rfl rfl (by kernel_rfl) (fun _ _ _ h => h) (Or.inl ⟨by rfl, ?_⟩) hS ?_ ?_
        rotate_left
        · rintro w' ⟨hB, hz, a0, a1, a2, a3, a4, a5, a6, a7, b0, b1, b2, b3, b4, b5, b6, b7, s0_0, s0_1, s0_2, s1_0, s1_1, s1_2, s2_0, s2_1, s2_2⟩
          go_simp
          with_reducible rfl
        rotate_left
        · simp only [Act.put, List.setIfInBounds_toArray, List.set_cons_zero, List.set_cons_succ, i64_w, i32_w]
          rfl
        refine take_ (i := 2) (N := (some 61)) (v := ?_) (a' := ?_) #[true, false, true, false, false, false, false, false, false, false, false, false, false] rfl rfl (by kernel_rfl) (fun _ _ _ h => h) (Or.inl ⟨by rfl, ?_⟩) hS ?_ ?_
        rotate_left
        · rintro w' ⟨hB, hz, a0, a1, a2, a3, a4, a5, a6, a7, b0, b1, b2, b3, b4, b5, b6, b7, s0_0, s0_1, s0_2, s1_0, s1_1, s1_2, s2_0, s2_1, s2_2⟩
          go_simp
          with_reducible rfl
        rotate_left
        · simp only [Act.put, List.setIfInBounds_toArray, List.set_cons_zero, List.set_cons_succ, i64_w, i32_w]
          rfl
        refine pure_ (i := 5) (N := (some 64)) (v := ?_) (a' := ?_) #[true, false, true, false, false, true, false, false, false, false, false, false, false] rfl rfl (by kernel_rfl) (fun _ _ _ h => h) (Or.inl ⟨by rfl, ?_⟩) ?_ ?_
        rotate_left
        · intro w'
          go_simp
          with_reducible rfl
        rotate_left
        · simp only [Act.put, List.setIfInBounds_toArray, List.set_cons_zero, List.set_cons_succ, i64_w, i32_w]
          rfl
        refine join_ (σ := Nat × Value × Value × Value × (S30 × Int)) 2 #[true, true, true, true, true, true, true, true, true, true, true, false, false] (fun s => [(60, s.2.1), (62, s.2.2.1), (63, s.2.2.2.1), (65, enVE s.2.2.2.2), (58, enVE s.2.2.2.2), (66, enV s.2.2.2.2.1), (67, .int .i64 s.2.2.2.2.2), (13, .pointer (some ⟨s.1, 0, none⟩))]) (fun s w' => Aside0 (evalX rs (two 17 (one 16 a) (one 16 b)) = s.2.2.2.2) ∧ x7.heap.size < s.1 ∧ s.1 < w'.heap.size ∧ w'.cell? ⟨s.1, 0, none⟩ = some (.int .i64 0) ∧ w'.cell? ⟨s.1, 1, none⟩ = some (.int .i64 0) ∧ w'.cell? ⟨s.1, 2, none⟩ = some (.string ⟨#[]⟩) ∧ w'.frozen? ⟨s.1, 0, none⟩ = false ∧ w'.frozen? ⟨s.1, 1, none⟩ = false ∧ w'.frozen? ⟨s.1, 2, none⟩ = false ∧ Below w.heap.size w w' ∧ x7.heap.size < w'.heap.size ∧ w'.cell? ⟨w.heap.size, 0, none⟩ = some (.int .i64 a.f0) ∧ w'.cell? ⟨w.heap.size, 1, none⟩ = some (.string a.f1) ∧ w'.cell? ⟨w.heap.size, 2, none⟩ = some (.string a.f2) ∧ w'.cell? ⟨w.heap.size, 3, none⟩ = some (.int .i64 a.f3) ∧ w'.cell? ⟨w.heap.size, 4, none⟩ = some (.int .i64 a.f4.f0) ∧ w'.cell? ⟨w.heap.size, 5, none⟩ = some (.int .i64 a.f4.f1) ∧ w'.cell? ⟨w.heap.size, 6, none⟩ = some (.string a.f4.f2) ∧ w'.cell? ⟨w.heap.size, 7, none⟩ = some (.slice A a.f5.length c) ∧ w'.cell? ⟨w.heap.size + 1, 0, none⟩ = some (.int .i64 b.f0) ∧ w'.cell? ⟨w.heap.size + 1, 1, none⟩ = some (.string b.f1) ∧ w'.cell? ⟨w.heap.size + 1, 2, none⟩ = some (.string b.f2) ∧ w'.cell? ⟨w.heap.size + 1, 3, none⟩ = some (.int .i64 b.f3) ∧ w'.cell? ⟨w.heap.size + 1, 4, none⟩ = some (.int .i64 b.f4.f0) ∧ w'.cell? ⟨w.heap.size + 1, 5, none⟩ = some (.int .i64 b.f4.f1) ∧ w'.cell? ⟨w.heap.size + 1, 6, none⟩ = some (.string b.f4.f2) ∧ w'.cell? ⟨w.heap.size + 1, 7, none⟩ = some (.slice B b.f5.length d) ∧ w'.cell? ⟨w7.heap.size, 0, none⟩ = some (.int .i64 r9.1.f0) ∧ w'.cell? ⟨w7.heap.size, 1, none⟩ = some (.int .i64 r9.1.f1) ∧ w'.cell? ⟨w7.heap.size, 2, none⟩ = some (.string r9.1.f2) ∧ w'.cell? ⟨p9, 0, none⟩ = some (.int .i64 r9.1.f0) ∧ w'.cell? ⟨p9, 1, none⟩ = some (.int .i64 r9.1.f1) ∧ w'.cell? ⟨p9, 2, none⟩ = some (.string r9.1.f2) ∧ w'.cell? ⟨x7.heap.size, 0, none⟩ = some (.int .i64 r11.1.f0) ∧ w'.cell? ⟨x7.heap.size, 1, none⟩ = some (.int .i64 r11.1.f1) ∧ w'.cell? ⟨x7.heap.size, 2, none⟩ = some (.string r11.1.f2)) (fun s wj hF => ?_) (fun hJ => ?_)
        rotate_left
        · have dummy := trivial
          refine two_ (i := 1) (j := 10) (Ni := (some 60)) (Nj := (some 13)) #[true, true, true, false, false, true, false, false, false, false, false, false, false] #[true, false, true, false, false, true, false, false, false, false, true, false, false] rfl rfl rfl rfl (by kernel_rfl) (by decide) (by decide) (fun K hK => ?_) (fun K hK => ?_)
          · have dummy := trivial
            obtain ⟨hB, hz, a0, a1, a2, a3, a4, a5, a6, a7, b0, b1, b2, b3, b4, b5, b6, b7, s0_0, s0_1, s0_2, s1_0, s1_1, s1_2, s2_0, s2_1, s2_2⟩ := hS
            refine goes_ Try.func41 (by kernel_rfl) rfl #[enE a A c] (by rfl) rfl rfl (by (try simp only [List.map_toArray, List.map_cons, List.map_nil]); first | done | rfl) ?_
            refine (not_calls a A c _ LA.out (Kd.C_below HA.out hB)).mono ?_
            rintro e w8_1 ⟨⟨B1, c1, rfl, hl1, hC1⟩, hb⟩
            have hz_ := hb.size
            refine ⟨_, rfl, hK.out _ _ ⟨hB.trans (hb.mono (by omega)), (by omega : _ < _), cellB hb (by omega) a0, cellB hb (by omega) a1, cellB hb (by omega) a2, cellB hb (by omega) a3, cellB hb (by omega) a4, cellB hb (by omega) a5, cellB hb (by omega) a6, cellB hb (by omega) a7, cellB hb (by omega) b0, cellB hb (by omega) b1, cellB hb (by omega) b2, cellB hb (by omega) b3, cellB hb (by omega) b4, cellB hb (by omega) b5, cellB hb (by omega) b6, cellB hb (by omega) b7, cellB hb (by omega) s0_0, cellB hb (by omega) s0_1, cellB hb (by omega) s0_2, cellB hb (by omega) s1_0, cellB hb (by omega) s1_1, cellB hb (by omega) s1_2, cellB hb (by omega) s2_0, cellB hb (by omega) s2_1, cellB hb (by omega) s2_2⟩ (fun hS => ?_)⟩
            clear hK K hb hz_ hB hz a0 a1 a2 a3 a4 a5 a6 a7 b0 b1 b2 b3 b4 b5 b6 b7 s0_0 s0_1 s0_2 s1_0 s1_1 s1_2 s2_0 s2_1 s2_2
            refine two_ (i := 3) (j := 10) (Ni := (some 62)) (Nj := (some 13)) #[true, true, true, true, false, true, false, false, false, false, false, false, false] #[true, true, true, false, false, true, false, false, false, false, true, false, false] rfl rfl rfl rfl (by kernel_rfl) (by decide) (by decide) (fun K hK => ?_) (fun K hK => ?_)
            · have dummy := trivial
              obtain ⟨hB, hz, a0, a1, a2, a3, a4, a5, a6, a7, b0, b1, b2, b3, b4, b5, b6, b7, s0_0, s0_1, s0_2, s1_0, s1_1, s1_2, s2_0, s2_1, s2_2⟩ := hS
              refine goes_ Try.func41 (by kernel_rfl) rfl #[enE b B d] (by rfl) rfl rfl (by (try simp only [List.map_toArray, List.map_cons, List.map_nil]); first | done | rfl) ?_
              refine (not_calls b B d _ LB.out (Kd.C_below HB.out hB)).mono ?_
              rintro e w8_3 ⟨⟨B3, c3, rfl, hl3, hC3⟩, hb⟩
              have hz_ := hb.size
              have hC1 := Kd.C_below hC1 hb
              refine ⟨_, rfl, hK.out _ _ ⟨hB.trans (hb.mono (by omega)), (by omega : _ < _), cellB hb (by omega) a0, cellB hb (by omega) a1, cellB hb (by omega) a2, cellB hb (by omega) a3, cellB hb (by omega) a4, cellB hb (by omega) a5, cellB hb (by omega) a6, cellB hb (by omega) a7, cellB hb (by omega) b0, cellB hb (by omega) b1, cellB hb (by omega) b2, cellB hb (by omega) b3, cellB hb (by omega) b4, cellB hb (by omega) b5, cellB hb (by omega) b6, cellB hb (by omega) b7, cellB hb (by omega) s0_0, cellB hb (by omega) s0_1, cellB hb (by omega) s0_2, cellB hb (by omega) s1_0, cellB hb (by omega) s1_1, cellB hb (by omega) s1_2, cellB hb (by omega) s2_0, cellB hb (by omega) s2_1, cellB hb (by omega) s2_2⟩ (fun hS => ?_)⟩
              clear hK K hb hz_ hB hz a0 a1 a2 a3 a4 a5 a6 a7 b0 b1 b2 b3 b4 b5 b6 b7 s0_0 s0_1 s0_2 s1_0 s1_1 s1_2 s2_0 s2_1 s2_2
              refine two_ (i := 4) (j := 10) (Ni := (some 63)) (Nj := (some 13)) #[true, true, true, true, true, true, false, false, false, false, false, false, false] #[true, true, true, true, false, true, false, false, false, false, true, false, false] rfl rfl rfl rfl (by kernel_rfl) (by decide) (by decide) (fun K hK => ?_) (fun K hK => ?_)
              · have dummy := trivial
                obtain ⟨hB, hz, a0, a1, a2, a3, a4, a5, a6, a7, b0, b1, b2, b3, b4, b5, b6, b7, s0_0, s0_1, s0_2, s1_0, s1_1, s1_2, s2_0, s2_1, s2_2⟩ := hS
                refine goes_ Try.func42 (by kernel_rfl) rfl #[.int .i64 17, enE (one 16 a) (some ⟨B1, 0, none⟩) c1, enE (one 16 b) (some ⟨B3, 0, none⟩) c3] (by rfl) rfl rfl (by (try simp only [List.map_toArray, List.map_cons, List.map_nil]); first | done | rfl) ?_
                refine (two_calls 17 (one 16 a) _ c1 (one 16 b) _ c3 _ hl1 hC1 hl3 hC3).mono ?_
                rintro e w8_4 ⟨⟨B4, c4, rfl, hl4, hC4⟩, hb⟩
                have hz_ := hb.size
                have hC1 := Kd.C_below hC1 hb
                have hC3 := Kd.C_below hC3 hb
                refine ⟨_, rfl, hK.out _ _ ⟨hB.trans (hb.mono (by omega)), (by omega : _ < _), cellB hb (by omega) a0, cellB hb (by omega) a1, cellB hb (by omega) a2, cellB hb (by omega) a3, cellB hb (by omega) a4, cellB hb (by omega) a5, cellB hb (by omega) a6, cellB hb (by omega) a7, cellB hb (by omega) b0, cellB hb (by omega) b1, cellB hb (by omega) b2, cellB hb (by omega) b3, cellB hb (by omega) b4, cellB hb (by omega) b5, cellB hb (by omega) b6, cellB hb (by omega) b7, cellB hb (by omega) s0_0, cellB hb (by omega) s0_1, cellB hb (by omega) s0_2, cellB hb (by omega) s1_0, cellB hb (by omega) s1_1, cellB hb (by omega) s1_2, cellB hb (by omega) s2_0, cellB hb (by omega) s2_1, cellB hb (by omega) s2_2⟩ (fun hS => ?_)⟩
                clear hK K hb hz_ hB hz a0 a1 a2 a3 a4 a5 a6 a7 b0 b1 b2 b3 b4 b5 b6 b7 s0_0 s0_1 s0_2 s1_0 s1_1 s1_2 s2_0 s2_1 s2_2
                refine two_ (i := 6) (j := 10) (Ni := (some 65)) (Nj := (some 13)) #[true, true, true, true, true, true, true, false, false, false, false, false, false] #[true, true, true, true, true, true, false, false, false, false, true, false, false] rfl rfl rfl rfl (by kernel_rfl) (by decide) (by decide) (fun K hK => ?_) (fun K hK => ?_)
                · have dummy := trivial
                  obtain ⟨hB, hz, a0, a1, a2, a3, a4, a5, a6, a7, b0, b1, b2, b3, b4, b5, b6, b7, s0_0, s0_1, s0_2, s1_0, s1_1, s1_2, s2_0, s2_1, s2_2⟩ := hS
                  refine goes_ Try.func40 (by kernel_rfl) rfl #[enE (two 17 (one 16 a) (one 16 b)) (some ⟨B4, 0, none⟩) c4, .slice Ar rs.length cr] (by rfl) rfl rfl (by (try simp only [List.map_toArray, List.map_cons, List.map_nil]); first | done | rfl) ?_
                  refine (eval_some (two 17 (one 16 a) (one 16 b)) (rs := rs) _ _ Ar cr _ (Kd.C_below HR.out hB) hC4).mono ?_
                  rintro e w8_6 ⟨rr, HE, rfl, hb⟩
                  have hz_ := hb.size
                  have hC1 := Kd.C_below hC1 hb
                  have hC3 := Kd.C_below hC3 hb
                  have hC4 := Kd.C_below hC4 hb
                  refine ⟨_, rfl, hK.out _ _ ⟨hB.trans (hb.mono (by omega)), (by omega : _ < _), cellB hb (by omega) a0, cellB hb (by omega) a1, cellB hb (by omega) a2, cellB hb (by omega) a3, cellB hb (by omega) a4, cellB hb (by omega) a5, cellB hb (by omega) a6, cellB hb (by omega) a7, cellB hb (by omega) b0, cellB hb (by omega) b1, cellB hb (by omega) b2, cellB hb (by omega) b3, cellB hb (by omega) b4, cellB hb (by omega) b5, cellB hb (by omega) b6, cellB hb (by omega) b7, cellB hb (by omega) s0_0, cellB hb (by omega) s0_1, cellB hb (by omega) s0_2, cellB hb (by omega) s1_0, cellB hb (by omega) s1_1, cellB hb (by omega) s1_2, cellB hb (by omega) s2_0, cellB hb (by omega) s2_1, cellB hb (by omega) s2_2⟩ (fun hS => ?_)⟩
                  clear hK K hb hz_ hB hz a0 a1 a2 a3 a4 a5 a6 a7 b0 b1 b2 b3 b4 b5 b6 b7 s0_0 s0_1 s0_2 s1_0 s1_1 s1_2 s2_0 s2_1 s2_2
                  refine pure_ (i := 7) (N := (some 58)) (v := ?_) (a' := ?_) #[true, true, true, true, true, true, true, true, false, false, false, false, false] rfl rfl (by kernel_rfl) (fun _ _ _ h => h) (Or.inl ⟨by rfl, ?_⟩) ?_ ?_
                  rotate_left
                  · intro w'
                    go_simp
                    with_reducible rfl
                  rotate_left
                  · simp only [Act.put, List.setIfInBounds_toArray, List.set_cons_zero, List.set_cons_succ, i64_w, i32_w]
                    rfl
                  refine pure_ (i := 8) (N := (some 66)) (v := ?_) (a' := ?_) #[true, true, true, true, true, true, true, true, true, false, false, false, false] rfl rfl (by kernel_rfl) (fun _ _ _ h => h) (Or.inl ⟨by rfl, ?_⟩) ?_ ?_
                  rotate_left
                  · intro w'
                    go_simp
                    with_reducible rfl
                  rotate_left
                  · simp only [Act.put, List.setIfInBounds_toArray, List.set_cons_zero, List.set_cons_succ, i64_w, i32_w]
                    rfl
                  refine pure_ (i := 9) (N := (some 67)) (v := ?_) (a' := ?_) #[true, true, true, true, true, true, true, true, true, true, false, false, false] rfl rfl (by kernel_rfl) (fun _ _ _ h => h) (Or.inl ⟨by rfl, ?_⟩) ?_ ?_
                  rotate_left
                  · intro w'
                    go_simp
                    with_reducible rfl
                  rotate_left
                  · simp only [Act.put, List.setIfInBounds_toArray, List.set_cons_zero, List.set_cons_succ, i64_w, i32_w]
                    rfl
                  refine one_ (i := 10) (N := (some 13)) #[true, true, true, true, true, true, true, true, true, true, true, false, false] rfl rfl (by kernel_rfl) (by decide) (fun K hK => ?_)
                  obtain ⟨hB, hz, a0, a1, a2, a3, a4, a5, a6, a7, b0, b1, b2, b3, b4, b5, b6, b7, s0_0, s0_1, s0_2, s1_0, s1_1, s1_2, s2_0, s2_1, s2_2⟩ := hS
                  refine value_ (v := .pointer (some ⟨w8_6.heap.size, 0, none⟩)) (w1 := (w8_6.alloc (.cells #[.int .i64 0, .int .i64 0, .string ⟨#[]⟩] 30))) (by rfl) rfl (by go_simp) ?_
                  have hb : Below w8_6.heap.size w8_6 (w8_6.alloc (.cells #[.int .i64 0, .int .i64 0, .string ⟨#[]⟩] 30)) := below_alloc (Below.refl _ _) _
                  have hz_ := hb.size
                  have hq : w8_6.heap.size < (w8_6.alloc (.cells #[.int .i64 0, .int .i64 0, .string ⟨#[]⟩] 30)).heap.size := (by simp)
                  obtain ⟨p9, hp9⟩ : ∃ p9, p9 = w8_6.heap.size := ⟨_, rfl⟩
                  have hp0 : x7.heap.size < p9 := (by omega)
                  have hp1 : p9 < (w8_6.alloc (.cells #[.int .i64 0, .int .i64 0, .string ⟨#[]⟩] 30)).heap.size := (by omega)
                  have z0 : (w8_6.alloc (.cells #[.int .i64 0, .int .i64 0, .string ⟨#[]⟩] 30)).cell? ⟨p9, 0, none⟩ = some (.int .i64 0) := (by rw [hp9]; go_simp)
                  have z1 : (w8_6.alloc (.cells #[.int .i64 0, .int .i64 0, .string ⟨#[]⟩] 30)).cell? ⟨p9, 1, none⟩ = some (.int .i64 0) := (by rw [hp9]; go_simp)
                  have z2 : (w8_6.alloc (.cells #[.int .i64 0, .int .i64 0, .string ⟨#[]⟩] 30)).cell? ⟨p9, 2, none⟩ = some (.string ⟨#[]⟩) := (by rw [hp9]; go_simp)
                  have f0 : (w8_6.alloc (.cells #[.int .i64 0, .int .i64 0, .string ⟨#[]⟩] 30)).frozen? ⟨p9, 0, none⟩ = false := (by rw [hp9]; go_simp)
                  have f1 : (w8_6.alloc (.cells #[.int .i64 0, .int .i64 0, .string ⟨#[]⟩] 30)).frozen? ⟨p9, 1, none⟩ = false := (by rw [hp9]; go_simp)
                  have f2 : (w8_6.alloc (.cells #[.int .i64 0, .int .i64 0, .string ⟨#[]⟩] 30)).frozen? ⟨p9, 2, none⟩ = false := (by rw [hp9]; go_simp)
                  rw [← hp9]
                  have hC1 := Kd.C_below hC1 hb
                  have hC3 := Kd.C_below hC3 hb
                  have hC4 := Kd.C_below hC4 hb
                  refine hK.out _ _ ⟨hB.trans (hb.mono (by omega)), (by omega : _ < _), cellB hb (by omega) a0, cellB hb (by omega) a1, cellB hb (by omega) a2, cellB hb (by omega) a3, cellB hb (by omega) a4, cellB hb (by omega) a5, cellB hb (by omega) a6, cellB hb (by omega) a7, cellB hb (by omega) b0, cellB hb (by omega) b1, cellB hb (by omega) b2, cellB hb (by omega) b3, cellB hb (by omega) b4, cellB hb (by omega) b5, cellB hb (by omega) b6, cellB hb (by omega) b7, cellB hb (by omega) s0_0, cellB hb (by omega) s0_1, cellB hb (by omega) s0_2, cellB hb (by omega) s1_0, cellB hb (by omega) s1_1, cellB hb (by omega) s1_2, cellB hb (by omega) s2_0, cellB hb (by omega) s2_1, cellB hb (by omega) s2_2⟩ (fun hS => ?_)
                  clear hK K hb hz_ hq hp9 hB hz a0 a1 a2 a3 a4 a5 a6 a7 b0 b1 b2 b3 b4 b5 b6 b7 s0_0 s0_1 s0_2 s1_0 s1_1 s1_2 s2_0 s2_1 s2_2
                  obtain ⟨hB, hz, a0, a1, a2, a3, a4, a5, a6, a7, b0, b1, b2, b3, b4, b5, b6, b7, s0_0, s0_1, s0_2, s1_0, s1_1, s1_2, s2_0, s2_1, s2_2⟩ := hS
                  have hJ' := hJ (p9, enE (one 16 a) (some ⟨B1, 0, none⟩) c1, enE (one 16 b) (some ⟨B3, 0, none⟩) c3, enE (two 17 (one 16 a) (one 16 b)) (some ⟨B4, 0, none⟩) c4, rr) _ ⟨HE, hp0, hp1, z0, z1, z2, f0, f1, f2, hB, hz, a0, a1, a2, a3, a4, a5, a6, a7, b0, b1, b2, b3, b4, b5, b6, b7, s0_0, s0_1, s0_2, s1_0, s1_1, s1_2, s2_0, s2_1, s2_2⟩
                  clear hJ
                  simp only [putAll, Act.put, List.setIfInBounds_toArray, List.set_cons_zero, List.set_cons_succ] at hJ' ⊢
                  exact hJ'
                · have dummy := trivial
                  obtain ⟨hB, hz, a0, a1, a2, a3, a4, a5, a6, a7, b0, b1, b2, b3, b4, b5, b6, b7, s0_0, s0_1, s0_2, s1_0, s1_1, s1_2, s2_0, s2_1, s2_2⟩ := hS
                  refine value_ (v := .pointer (some ⟨w8_4.heap.size, 0, none⟩)) (w1 := (w8_4.alloc (.cells #[.int .i64 0, .int .i64 0, .string ⟨#[]⟩] 30))) (by rfl) rfl (by go_simp) ?_
                  have hb : Below w8_4.heap.size w8_4 (w8_4.alloc (.cells #[.int .i64 0, .int .i64 0, .string ⟨#[]⟩] 30)) := below_alloc (Below.refl _ _) _
                  have hz_ := hb.size
                  have hq : w8_4.heap.size < (w8_4.alloc (.cells #[.int .i64 0, .int .i64 0, .string ⟨#[]⟩] 30)).heap.size := (by simp)
                  obtain ⟨p9, hp9⟩ : ∃ p9, p9 = w8_4.heap.size := ⟨_, rfl⟩
                  have hp0 : x7.heap.size < p9 := (by omega)
                  have hp1 : p9 < (w8_4.alloc (.cells #[.int .i64 0, .int .i64 0, .string ⟨#[]⟩] 30)).heap.size := (by omega)
                  have z0 : (w8_4.alloc (.cells #[.int .i64 0, .int .i64 0, .string ⟨#[]⟩] 30)).cell? ⟨p9, 0, none⟩ = some (.int .i64 0) := (by rw [hp9]; go_simp)
                  have z1 : (w8_4.alloc (.cells #[.int .i64 0, .int .i64 0, .string ⟨#[]⟩] 30)).cell? ⟨p9, 1, none⟩ = some (.int .i64 0) := (by rw [hp9]; go_simp)
                  have z2 : (w8_4.alloc (.cells #[.int .i64 0, .int .i64 0, .string ⟨#[]⟩] 30)).cell? ⟨p9, 2, none⟩ = some (.string ⟨#[]⟩) := (by rw [hp9]; go_simp)
                  have f0 : (w8_4.alloc (.cells #[.int .i64 0, .int .i64 0, .string ⟨#[]⟩] 30)).frozen? ⟨p9, 0, none⟩ = false := (by rw [hp9]; go_simp)
                  have f1 : (w8_4.alloc (.cells #[.int .i64 0, .int .i64 0, .string ⟨#[]⟩] 30)).frozen? ⟨p9, 1, none⟩ = false := (by rw [hp9]; go_simp)
                  have f2 : (w8_4.alloc (.cells #[.int .i64 0, .int .i64 0, .string ⟨#[]⟩] 30)).frozen? ⟨p9, 2, none⟩ = false := (by rw [hp9]; go_simp)
                  rw [← hp9]
                  have hC1 := Kd.C_below hC1 hb
                  have hC3 := Kd.C_below hC3 hb
                  have hC4 := Kd.C_below hC4 hb
                  refine hK.out _ _ ⟨hB.trans (hb.mono (by omega)), (by omega : _ < _), cellB hb (by omega) a0, cellB hb (by omega) a1, cellB hb (by omega) a2, cellB hb (by omega) a3, cellB hb (by omega) a4, cellB hb (by omega) a5, cellB hb (by omega) a6, cellB hb (by omega) a7, cellB hb (by omega) b0, cellB hb (by omega) b1, cellB hb (by omega) b2, cellB hb (by omega) b3, cellB hb (by omega) b4, cellB hb (by omega) b5, cellB hb (by omega) b6, cellB hb (by omega) b7, cellB hb (by omega) s0_0, cellB hb (by omega) s0_1, cellB hb (by omega) s0_2, cellB hb (by omega) s1_0, cellB hb (by omega) s1_1, cellB hb (by omega) s1_2, cellB hb (by omega) s2_0, cellB hb (by omega) s2_1, cellB hb (by omega) s2_2⟩ (fun hS => ?_)
                  clear hK K hb hz_ hq hp9 hB hz a0 a1 a2 a3 a4 a5 a6 a7 b0 b1 b2 b3 b4 b5 b6 b7 s0_0 s0_1 s0_2 s1_0 s1_1 s1_2 s2_0 s2_1 s2_2
                  refine one_ (i := 6) (N := (some 65)) #[true, true, true, true, true, true, true, false, false, false, true, false, false] rfl rfl (by kernel_rfl) (by decide) (fun K hK => ?_)
                  obtain ⟨hB, hz, a0, a1, a2, a3, a4, a5, a6, a7, b0, b1, b2, b3, b4, b5, b6, b7, s0_0, s0_1, s0_2, s1_0, s1_1, s1_2, s2_0, s2_1, s2_2⟩ := hS
                  refine goes_ Try.func40 (by kernel_rfl) rfl #[enE (two 17 (one 16 a) (one 16 b)) (some ⟨B4, 0, none⟩) c4, .slice Ar rs.length cr] (by rfl) rfl rfl (by (try simp only [List.map_toArray, List.map_cons, List.map_nil]); first | done | rfl) ?_
                  refine (eval_some (two 17 (one 16 a) (one 16 b)) (rs := rs) _ _ Ar cr _ (Kd.C_below HR.out hB) hC4).mono ?_
                  rintro e w8_6 ⟨rr, HE, rfl, hb⟩
                  have hz_ := hb.size
                  have hC1 := Kd.C_below hC1 hb
                  have hC3 := Kd.C_below hC3 hb
                  have hC4 := Kd.C_below hC4 hb
                  have z0 := cellB hb (by omega) z0
                  have f0 := frozB hb (by omega) f0
                  have z1 := cellB hb (by omega) z1
                  have f1 := frozB hb (by omega) f1
                  have z2 := cellB hb (by omega) z2
                  have f2 := frozB hb (by omega) f2
                  have hp1 : p9 < w8_6.heap.size := (by omega)
                  refine ⟨_, rfl, hK.out _ _ ⟨hB.trans (hb.mono (by omega)), (by omega : _ < _), cellB hb (by omega) a0, cellB hb (by omega) a1, cellB hb (by omega) a2, cellB hb (by omega) a3, cellB hb (by omega) a4, cellB hb (by omega) a5, cellB hb (by omega) a6, cellB hb (by omega) a7, cellB hb (by omega) b0, cellB hb (by omega) b1, cellB hb (by omega) b2, cellB hb (by omega) b3, cellB hb (by omega) b4, cellB hb (by omega) b5, cellB hb (by omega) b6, cellB hb (by omega) b7, cellB hb (by omega) s0_0, cellB hb (by omega) s0_1, cellB hb (by omega) s0_2, cellB hb (by omega) s1_0, cellB hb (by omega) s1_1, cellB hb (by omega) s1_2, cellB hb (by omega) s2_0, cellB hb (by omega) s2_1, cellB hb (by omega) s2_2⟩ (fun hS => ?_)⟩
                  clear hK K hb hz_ hB hz a0 a1 a2 a3 a4 a5 a6 a7 b0 b1 b2 b3 b4 b5 b6 b7 s0_0 s0_1 s0_2 s1_0 s1_1 s1_2 s2_0 s2_1 s2_2
                  refine pure_ (i := 7) (N := (some 58)) (v := ?_) (a' := ?_) #[true, true, true, true, true, true, true, true, false, false, true, false, false] rfl rfl (by kernel_rfl) (fun _ _ _ h => h) (Or.inl ⟨by rfl, ?_⟩) ?_ ?_
                  rotate_left
                  · intro w'
                    go_simp
                    with_reducible rfl
                  rotate_left
                  · simp only [Act.put, List.setIfInBounds_toArray, List.set_cons_zero, List.set_cons_succ, i64_w, i32_w]
                    rfl
                  refine pure_ (i := 8) (N := (some 66)) (v := ?_) (a' := ?_) #[true, true, true, true, true, true, true, true, true, false, true, false, false] rfl rfl (by kernel_rfl) (fun _ _ _ h => h) (Or.inl ⟨by rfl, ?_⟩) ?_ ?_
                  rotate_left
                  · intro w'
                    go_simp
                    with_reducible rfl
                  rotate_left
                  · simp only [Act.put, List.setIfInBounds_toArray, List.set_cons_zero, List.set_cons_succ, i64_w, i32_w]
                    rfl
                  refine pure_ (i := 9) (N := (some 67)) (v := ?_) (a' := ?_) #[true, true, true, true, true, true, true, true, true, true, true, false, false] rfl rfl (by kernel_rfl) (fun _ _ _ h => h) (Or.inl ⟨by rfl, ?_⟩) ?_ ?_
                  rotate_left
                  · intro w'
                    go_simp
                    with_reducible rfl
                  rotate_left
                  · simp only [Act.put, List.setIfInBounds_toArray, List.set_cons_zero, List.set_cons_succ, i64_w, i32_w]
                    rfl
                  obtain ⟨hB, hz, a0, a1, a2, a3, a4, a5, a6, a7, b0, b1, b2, b3, b4, b5, b6, b7, s0_0, s0_1, s0_2, s1_0, s1_1, s1_2, s2_0, s2_1, s2_2⟩ := hS
                  have hJ' := hJ (p9, enE (one 16 a) (some ⟨B1, 0, none⟩) c1, enE (one 16 b) (some ⟨B3, 0, none⟩) c3, enE (two 17 (one 16 a) (one 16 b)) (some ⟨B4, 0, none⟩) c4, rr) _ ⟨HE, hp0, hp1, z0, z1, z2, f0, f1, f2, hB, hz, a0, a1, a2, a3, a4, a5, a6, a7, b0, b1, b2, b3, b4, b5, b6, b7, s0_0, s0_1, s0_2, s1_0, s1_1, s1_2, s2_0, s2_1, s2_2⟩
                  clear hJ
                  simp only [putAll, Act.put, List.setIfInBounds_toArray, List.set_cons_zero, List.set_cons_succ] at hJ' ⊢
                  exact hJ'
              · have dummy := trivial
                obtain ⟨hB, hz, a0, a1, a2, a3, a4, a5, a6, a7, b0, b1, b2, b3, b4, b5, b6, b7, s0_0, s0_1, s0_2, s1_0, s1_1, s1_2, s2_0, s2_1, s2_2⟩ := hS
                refine value_ (v := .pointer (some ⟨w8_3.heap.size, 0, none⟩)) (w1 := (w8_3.alloc (.cells #[.int .i64 0, .int .i64 0, .string ⟨#[]⟩] 30))) (by rfl) rfl (by go_simp) ?_
                have hb : Below w8_3.heap.size w8_3 (w8_3.alloc (.cells #[.int .i64 0, .int .i64 0, .string ⟨#[]⟩] 30)) := below_alloc (Below.refl _ _) _
                have hz_ := hb.size
                have hq : w8_3.heap.size < (w8_3.alloc (.cells #[.int .i64 0, .int .i64 0, .string ⟨#[]⟩] 30)).heap.size := (by simp)
                obtain ⟨p9, hp9⟩ : ∃ p9, p9 = w8_3.heap.size := ⟨_, rfl⟩
                have hp0 : x7.heap.size < p9 := (by omega)
                have hp1 : p9 < (w8_3.alloc (.cells #[.int .i64 0, .int .i64 0, .string ⟨#[]⟩] 30)).heap.size := (by omega)
                have z0 : (w8_3.alloc (.cells #[.int .i64 0, .int .i64 0, .string ⟨#[]⟩] 30)).cell? ⟨p9, 0, none⟩ = some (.int .i64 0) := (by rw [hp9]; go_simp)
                have z1 : (w8_3.alloc (.cells #[.int .i64 0, .int .i64 0, .string ⟨#[]⟩] 30)).cell? ⟨p9, 1, none⟩ = some (.int .i64 0) := (by rw [hp9]; go_simp)
                have z2 : (w8_3.alloc (.cells #[.int .i64 0, .int .i64 0, .string ⟨#[]⟩] 30)).cell? ⟨p9, 2, none⟩ = some (.string ⟨#[]⟩) := (by rw [hp9]; go_simp)
                have f0 : (w8_3.alloc (.cells #[.int .i64 0, .int .i64 0, .string ⟨#[]⟩] 30)).frozen? ⟨p9, 0, none⟩ = false := (by rw [hp9]; go_simp)
                have f1 : (w8_3.alloc (.cells #[.int .i64 0, .int .i64 0, .string ⟨#[]⟩] 30)).frozen? ⟨p9, 1, none⟩ = false := (by rw [hp9]; go_simp)
                have f2 : (w8_3.alloc (.cells #[.int .i64 0, .int .i64 0, .string ⟨#[]⟩] 30)).frozen? ⟨p9, 2, none⟩ = false := (by rw [hp9]; go_simp)
                rw [← hp9]
                have hC1 := Kd.C_below hC1 hb
                have hC3 := Kd.C_below hC3 hb
                refine hK.out _ _ ⟨hB.trans (hb.mono (by omega)), (by omega : _ < _), cellB hb (by omega) a0, cellB hb (by omega) a1, cellB hb (by omega) a2, cellB hb (by omega) a3, cellB hb (by omega) a4, cellB hb (by omega) a5, cellB hb (by omega) a6, cellB hb (by omega) a7, cellB hb (by omega) b0, cellB hb (by omega) b1, cellB hb (by omega) b2, cellB hb (by omega) b3, cellB hb (by omega) b4, cellB hb (by omega) b5, cellB hb (by omega) b6, cellB hb (by omega) b7, cellB hb (by omega) s0_0, cellB hb (by omega) s0_1, cellB hb (by omega) s0_2, cellB hb (by omega) s1_0, cellB hb (by omega) s1_1, cellB hb (by omega) s1_2, cellB hb (by omega) s2_0, cellB hb (by omega) s2_1, cellB hb (by omega) s2_2⟩ (fun hS => ?_)
                clear hK K hb hz_ hq hp9 hB hz a0 a1 a2 a3 a4 a5 a6 a7 b0 b1 b2 b3 b4 b5 b6 b7 s0_0 s0_1 s0_2 s1_0 s1_1 s1_2 s2_0 s2_1 s2_2
                refine one_ (i := 4) (N := (some 63)) #[true, true, true, true, true, true, false, false, false, false, true, false, false] rfl rfl (by kernel_rfl) (by decide) (fun K hK => ?_)
                obtain ⟨hB, hz, a0, a1, a2, a3, a4, a5, a6, a7, b0, b1, b2, b3, b4, b5, b6, b7, s0_0, s0_1, s0_2, s1_0, s1_1, s1_2, s2_0, s2_1, s2_2⟩ := hS
                refine goes_ Try.func42 (by kernel_rfl) rfl #[.int .i64 17, enE (one 16 a) (some ⟨B1, 0, none⟩) c1, enE (one 16 b) (some ⟨B3, 0, none⟩) c3] (by rfl) rfl rfl (by (try simp only [List.map_toArray, List.map_cons, List.map_nil]); first | done | rfl) ?_
                refine (two_calls 17 (one 16 a) _ c1 (one 16 b) _ c3 _ hl1 hC1 hl3 hC3).mono ?_
                rintro e w8_4 ⟨⟨B4, c4, rfl, hl4, hC4⟩, hb⟩
                have hz_ := hb.size
                have hC1 := Kd.C_below hC1 hb
                have hC3 := Kd.C_below hC3 hb
                have z0 := cellB hb (by omega) z0
                have f0 := frozB hb (by omega) f0
                have z1 := cellB hb (by omega) z1
                have f1 := frozB hb (by omega) f1
                have z2 := cellB hb (by omega) z2
                have f2 := frozB hb (by omega) f2
                have hp1 : p9 < w8_4.heap.size := (by omega)
                refine ⟨_, rfl, hK.out _ _ ⟨hB.trans (hb.mono (by omega)), (by omega : _ < _), cellB hb (by omega) a0, cellB hb (by omega) a1, cellB hb (by omega) a2, cellB hb (by omega) a3, cellB hb (by omega) a4, cellB hb (by omega) a5, cellB hb (by omega) a6, cellB hb (by omega) a7, cellB hb (by omega) b0, cellB hb (by omega) b1, cellB hb (by omega) b2, cellB hb (by omega) b3, cellB hb (by omega) b4, cellB hb (by omega) b5, cellB hb (by omega) b6, cellB hb (by omega) b7, cellB hb (by omega) s0_0, cellB hb (by omega) s0_1, cellB hb (by omega) s0_2, cellB hb (by omega) s1_0, cellB hb (by omega) s1_1, cellB hb (by omega) s1_2, cellB hb (by omega) s2_0, cellB hb (by omega) s2_1, cellB hb (by omega) s2_2⟩ (fun hS => ?_)⟩
                clear hK K hb hz_ hB hz a0 a1 a2 a3 a4 a5 a6 a7 b0 b1 b2 b3 b4 b5 b6 b7 s0_0 s0_1 s0_2 s1_0 s1_1 s1_2 s2_0 s2_1 s2_2
                refine one_ (i := 6) (N := (some 65)) #[true, true, true, true, true, true, true, false, false, false, true, false, false] rfl rfl (by kernel_rfl) (by decide) (fun K hK => ?_)
                obtain ⟨hB, hz, a0, a1, a2, a3, a4, a5, a6, a7, b0, b1, b2, b3, b4, b5, b6, b7, s0_0, s0_1, s0_2, s1_0, s1_1, s1_2, s2_0, s2_1, s2_2⟩ := hS
                refine goes_ Try.func40 (by kernel_rfl) rfl #[enE (two 17 (one 16 a) (one 16 b)) (some ⟨B4, 0, none⟩) c4, .slice Ar rs.length cr] (by rfl) rfl rfl (by (try simp only [List.map_toArray, List.map_cons, List.map_nil]); first | done | rfl) ?_
                refine (eval_some (two 17 (one 16 a) (one 16 b)) (rs := rs) _ _ Ar cr _ (Kd.C_below HR.out hB) hC4).mono ?_
                rintro e w8_6 ⟨rr, HE, rfl, hb⟩
                have hz_ := hb.size
                have hC1 := Kd.C_below hC1 hb
                have hC3 := Kd.C_below hC3 hb
                have hC4 := Kd.C_below hC4 hb
                have z0 := cellB hb (by omega) z0
                have f0 := frozB hb (by omega) f0
                have z1 := cellB hb (by omega) z1
                have f1 := frozB hb (by omega) f1
                have z2 := cellB hb (by omega) z2
                have f2 := frozB hb (by omega) f2
                have hp1 : p9 < w8_6.heap.size := (by omega)
                refine ⟨_, rfl, hK.out _ _ ⟨hB.trans (hb.mono (by omega)), (by omega : _ < _), cellB hb (by omega) a0, cellB hb (by omega) a1, cellB hb (by omega) a2, cellB hb (by omega) a3, cellB hb (by omega) a4, cellB hb (by omega) a5, cellB hb (by omega) a6, cellB hb (by omega) a7, cellB hb (by omega) b0, cellB hb (by omega) b1, cellB hb (by omega) b2, cellB hb (by omega) b3, cellB hb (by omega) b4, cellB hb (by omega) b5, cellB hb (by omega) b6, cellB hb (by omega) b7, cellB hb (by omega) s0_0, cellB hb (by omega) s0_1, cellB hb (by omega) s0_2, cellB hb (by omega) s1_0, cellB hb (by omega) s1_1, cellB hb (by omega) s1_2, cellB hb (by omega) s2_0, cellB hb (by omega) s2_1, cellB hb (by omega) s2_2⟩ (fun hS => ?_)⟩
                clear hK K hb hz_ hB hz a0 a1 a2 a3 a4 a5 a6 a7 b0 b1 b2 b3 b4 b5 b6 b7 s0_0 s0_1 s0_2 s1_0 s1_1 s1_2 s2_0 s2_1 s2_2
                refine pure_ (i := 7) (N := (some 58)) (v := ?_) (a' := ?_) #[true, true, true, true, true, true, true, true, false, false, true, false, false] rfl rfl (by kernel_rfl) (fun _ _ _ h => h) (Or.inl ⟨by rfl, ?_⟩) ?_ ?_
                rotate_left
                · intro w'
                  go_simp
                  with_reducible rfl
                rotate_left
                · simp only [Act.put, List.setIfInBounds_toArray, List.set_cons_zero, List.set_cons_succ, i64_w, i32_w]
                  rfl
                refine pure_ (i := 8) (N := (some 66)) (v := ?_) (a' := ?_) #[true, true, true, true, true, true, true, true, true, false, true, false, false] rfl rfl (by kernel_rfl) (fun _ _ _ h => h) (Or.inl ⟨by rfl, ?_⟩) ?_ ?_
                rotate_left
                · intro w'
                  go_simp
                  with_reducible rfl
                rotate_left
                · simp only [Act.put, List.setIfInBounds_toArray, List.set_cons_zero, List.set_cons_succ, i64_w, i32_w]
                  rfl
                refine pure_ (i := 9) (N := (some 67)) (v := ?_) (a' := ?_) #[true, true, true, true, true, true, true, true, true, true, true, false, false] rfl rfl (by kernel_rfl) (fun _ _ _ h => h) (Or.inl ⟨by rfl, ?_⟩) ?_ ?_
                rotate_left
                · intro w'
                  go_simp
                  with_reducible rfl
                rotate_left
                · simp only [Act.put, List.setIfInBounds_toArray, List.set_cons_zero, List.set_cons_succ, i64_w, i32_w]
                  rfl
                obtain ⟨hB, hz, a0, a1, a2, a3, a4, a5, a6, a7, b0, b1, b2, b3, b4, b5, b6, b7, s0_0, s0_1, s0_2, s1_0, s1_1, s1_2, s2_0, s2_1, s2_2⟩ := hS
                have hJ' := hJ (p9, enE (one 16 a) (some ⟨B1, 0, none⟩) c1, enE (one 16 b) (some ⟨B3, 0, none⟩) c3, enE (two 17 (one 16 a) (one 16 b)) (some ⟨B4, 0, none⟩) c4, rr) _ ⟨HE, hp0, hp1, z0, z1, z2, f0, f1, f2, hB, hz, a0, a1, a2, a3, a4, a5, a6, a7, b0, b1, b2, b3, b4, b5, b6, b7, s0_0, s0_1, s0_2, s1_0, s1_1, s1_2, s2_0, s2_1, s2_2⟩
                clear hJ
                simp only [putAll, Act.put, List.setIfInBounds_toArray, List.set_cons_zero, List.set_cons_succ] at hJ' ⊢
                exact hJ'
            · have dummy := trivial
              obtain ⟨hB, hz, a0, a1, a2, a3, a4, a5, a6, a7, b0, b1, b2, b3, b4, b5, b6, b7, s0_0, s0_1, s0_2, s1_0, s1_1, s1_2, s2_0, s2_1, s2_2⟩ := hS
              refine value_ (v := .pointer (some ⟨w8_1.heap.size, 0, none⟩)) (w1 := (w8_1.alloc (.cells #[.int .i64 0, .int .i64 0, .string ⟨#[]⟩] 30))) (by rfl) rfl (by go_simp) ?_
              have hb : Below w8_1.heap.size w8_1 (w8_1.alloc (.cells #[.int .i64 0, .int .i64 0, .string ⟨#[]⟩] 30)) := below_alloc (Below.refl _ _) _
              have hz_ := hb.size
              have hq : w8_1.heap.size < (w8_1.alloc (.cells #[.int .i64 0, .int .i64 0, .string ⟨#[]⟩] 30)).heap.size := (by simp)
              obtain ⟨p9, hp9⟩ : ∃ p9, p9 = w8_1.heap.size := ⟨_, rfl⟩
              have hp0 : x7.heap.size < p9 := (by omega)
              have hp1 : p9 < (w8_1.alloc (.cells #[.int .i64 0, .int .i64 0, .string ⟨#[]⟩] 30)).heap.size := (by omega)
              have z0 : (w8_1.alloc (.cells #[.int .i64 0, .int .i64 0, .string ⟨#[]⟩] 30)).cell? ⟨p9, 0, none⟩ = some (.int .i64 0) := (by rw [hp9]; go_simp)
              have z1 : (w8_1.alloc (.cells #[.int .i64 0, .int .i64 0, .string ⟨#[]⟩] 30)).cell? ⟨p9, 1, none⟩ = some (.int .i64 0) := (by rw [hp9]; go_simp)
              have z2 : (w8_1.alloc (.cells #[.int .i64 0, .int .i64 0, .string ⟨#[]⟩] 30)).cell? ⟨p9, 2, none⟩ = some (.string ⟨#[]⟩) := (by rw [hp9]; go_simp)
              have f0 : (w8_1.alloc (.cells #[.int .i64 0, .int .i64 0, .string ⟨#[]⟩] 30)).frozen? ⟨p9, 0, none⟩ = false := (by rw [hp9]; go_simp)
              have f1 : (w8_1.alloc (.cells #[.int .i64 0, .int .i64 0, .string ⟨#[]⟩] 30)).frozen? ⟨p9, 1, none⟩ = false := (by rw [hp9]; go_simp)
              have f2 : (w8_1.alloc (.cells #[.int .i64 0, .int .i64 0, .string ⟨#[]⟩] 30)).frozen? ⟨p9, 2, none⟩ = false := (by rw [hp9]; go_simp)
              rw [← hp9]
              have hC1 := Kd.C_below hC1 hb
              refine hK.out _ _ ⟨hB.trans (hb.mono (by omega)), (by omega : _ < _), cellB hb (by omega) a0, cellB hb (by omega) a1, cellB hb (by omega) a2, cellB hb (by omega) a3, cellB hb (by omega) a4, cellB hb (by omega) a5, cellB hb (by omega) a6, cellB hb (by omega) a7, cellB hb (by omega) b0, cellB hb (by omega) b1, cellB hb (by omega) b2, cellB hb (by omega) b3, cellB hb (by omega) b4, cellB hb (by omega) b5, cellB hb (by omega) b6, cellB hb (by omega) b7, cellB hb (by omega) s0_0, cellB hb (by omega) s0_1, cellB hb (by omega) s0_2, cellB hb (by omega) s1_0, cellB hb (by omega) s1_1, cellB hb (by omega) s1_2, cellB hb (by omega) s2_0, cellB hb (by omega) s2_1, cellB hb (by omega) s2_2⟩ (fun hS => ?_)
              clear hK K hb hz_ hq hp9 hB hz a0 a1 a2 a3 a4 a5 a6 a7 b0 b1 b2 b3 b4 b5 b6 b7 s0_0 s0_1 s0_2 s1_0 s1_1 s1_2 s2_0 s2_1 s2_2
              refine one_ (i := 3) (N := (some 62)) #[true, true, true, true, false, true, false, false, false, false, true, false, false] rfl rfl (by kernel_rfl) (by decide) (fun K hK => ?_)
              obtain ⟨hB, hz, a0, a1, a2, a3, a4, a5, a6, a7, b0, b1, b2, b3, b4, b5, b6, b7, s0_0, s0_1, s0_2, s1_0, s1_1, s1_2, s2_0, s2_1, s2_2⟩ := hS
              refine goes_ Try.func41 (by kernel_rfl) rfl #[enE b B d] (by rfl) rfl rfl (by (try simp only [List.map_toArray, List.map_cons, List.map_nil]); first | done | rfl) ?_
              refine (not_calls b B d _ LB.out (Kd.C_below HB.out hB)).mono ?_
              rintro e w8_3 ⟨⟨B3, c3, rfl, hl3, hC3⟩, hb⟩
              have hz_ := hb.size
              have hC1 := Kd.C_below hC1 hb
              have z0 := cellB hb (by omega) z0
              have f0 := frozB hb (by omega) f0
              have z1 := cellB hb (by omega) z1
              have f1 := frozB hb (by omega) f1
              have z2 := cellB hb (by omega) z2
              have f2 := frozB hb (by omega) f2
              have hp1 : p9 < w8_3.heap.size := (by omega)
              refine ⟨_, rfl, hK.out _ _ ⟨hB.trans (hb.mono (by omega)), (by omega : _ < _), cellB hb (by omega) a0, cellB hb (by omega) a1, cellB hb (by omega) a2, cellB hb (by omega) a3, cellB hb (by omega) a4, cellB hb (by omega) a5, cellB hb (by omega) a6, cellB hb (by omega) a7, cellB hb (by omega) b0, cellB hb (by omega) b1, cellB hb (by omega) b2, cellB hb (by omega) b3, cellB hb (by omega) b4, cellB hb (by omega) b5, cellB hb (by omega) b6, cellB hb (by omega) b7, cellB hb (by omega) s0_0, cellB hb (by omega) s0_1, cellB hb (by omega) s0_2, cellB hb (by omega) s1_0, cellB hb (by omega) s1_1, cellB hb (by omega) s1_2, cellB hb (by omega) s2_0, cellB hb (by omega) s2_1, cellB hb (by omega) s2_2⟩ (fun hS => ?_)⟩
              clear hK K hb hz_ hB hz a0 a1 a2 a3 a4 a5 a6 a7 b0 b1 b2 b3 b4 b5 b6 b7 s0_0 s0_1 s0_2 s1_0 s1_1 s1_2 s2_0 s2_1 s2_2
              refine one_ (i := 4) (N := (some 63)) #[true, true, true, true, true, true, false, false, false, false, true, false, false] rfl rfl (by kernel_rfl) (by decide) (fun K hK => ?_)
              obtain ⟨hB, hz, a0, a1, a2, a3, a4, a5, a6, a7, b0, b1, b2, b3, b4, b5, b6, b7, s0_0, s0_1, s0_2, s1_0, s1_1, s1_2, s2_0, s2_1, s2_2⟩ := hS
              refine goes_ Try.func42 (by kernel_rfl) rfl #[.int .i64 17, enE (one 16 a) (some ⟨B1, 0, none⟩) c1, enE (one 16 b) (some ⟨B3, 0, none⟩) c3] (by rfl) rfl rfl (by (try simp only [List.map_toArray, List.map_cons, List.map_nil]); first | done | rfl) ?_
              refine (two_calls 17 (one 16 a) _ c1 (one 16 b) _ c3 _ hl1 hC1 hl3 hC3).mono ?_
              rintro e w8_4 ⟨⟨B4, c4, rfl, hl4, hC4⟩, hb⟩
              have hz_ := hb.size
              have hC1 := Kd.C_below hC1 hb
              have hC3 := Kd.C_below hC3 hb
              have z0 := cellB hb (by omega) z0
              have f0 := frozB hb (by omega) f0
              have z1 := cellB hb (by omega) z1
              have f1 := frozB hb (by omega) f1
              have z2 := cellB hb (by omega) z2
              have f2 := frozB hb (by omega) f2
              have hp1 : p9 < w8_4.heap.size := (by omega)
              refine ⟨_, rfl, hK.out _ _ ⟨hB.trans (hb.mono (by omega)), (by omega : _ < _), cellB hb (by omega) a0, cellB hb (by omega) a1, cellB hb (by omega) a2, cellB hb (by omega) a3, cellB hb (by omega) a4, cellB hb (by omega) a5, cellB hb (by omega) a6, cellB hb (by omega) a7, cellB hb (by omega) b0, cellB hb (by omega) b1, cellB hb (by omega) b2, cellB hb (by omega) b3, cellB hb (by omega) b4, cellB hb (by omega) b5, cellB hb (by omega) b6, cellB hb (by omega) b7, cellB hb (by omega) s0_0, cellB hb (by omega) s0_1, cellB hb (by omega) s0_2, cellB hb (by omega) s1_0, cellB hb (by omega) s1_1, cellB hb (by omega) s1_2, cellB hb (by omega) s2_0, cellB hb (by omega) s2_1, cellB hb (by omega) s2_2⟩ (fun hS => ?_)⟩
              clear hK K hb hz_ hB hz a0 a1 a2 a3 a4 a5 a6 a7 b0 b1 b2 b3 b4 b5 b6 b7 s0_0 s0_1 s0_2 s1_0 s1_1 s1_2 s2_0 s2_1 s2_2
              refine one_ (i := 6) (N := (some 65)) #[true, true, true, true, true, true, true, false, false, false, true, false, false] rfl rfl (by kernel_rfl) (by decide) (fun K hK => ?_)
              obtain ⟨hB, hz, a0, a1, a2, a3, a4, a5, a6, a7, b0, b1, b2, b3, b4, b5, b6, b7, s0_0, s0_1, s0_2, s1_0, s1_1, s1_2, s2_0, s2_1, s2_2⟩ := hS
              refine goes_ Try.func40 (by kernel_rfl) rfl #[enE (two 17 (one 16 a) (one 16 b)) (some ⟨B4, 0, none⟩) c4, .slice Ar rs.length cr] (by rfl) rfl rfl (by (try simp only [List.map_toArray, List.map_cons, List.map_nil]); first | done | rfl) ?_
              refine (eval_some (two 17 (one 16 a) (one 16 b)) (rs := rs) _ _ Ar cr _ (Kd.C_below HR.out hB) hC4).mono ?_
              rintro e w8_6 ⟨rr, HE, rfl, hb⟩
              have hz_ := hb.size
              have hC1 := Kd.C_below hC1 hb
              have hC3 := Kd.C_below hC3 hb
              have hC4 := Kd.C_below hC4 hb
              have z0 := cellB hb (by omega) z0
              have f0 := frozB hb (by omega) f0
              have z1 := cellB hb (by omega) z1
              have f1 := frozB hb (by omega) f1
              have z2 := cellB hb (by omega) z2
              have f2 := frozB hb (by omega) f2
              have hp1 : p9 < w8_6.heap.size := (by omega)
              refine ⟨_, rfl, hK.out _ _ ⟨hB.trans (hb.mono (by omega)), (by omega : _ < _), cellB hb (by omega) a0, cellB hb (by omega) a1, cellB hb (by omega) a2, cellB hb (by omega) a3, cellB hb (by omega) a4, cellB hb (by omega) a5, cellB hb (by omega) a6, cellB hb (by omega) a7, cellB hb (by omega) b0, cellB hb (by omega) b1, cellB hb (by omega) b2, cellB hb (by omega) b3, cellB hb (by omega) b4, cellB hb (by omega) b5, cellB hb (by omega) b6, cellB hb (by omega) b7, cellB hb (by omega) s0_0, cellB hb (by omega) s0_1, cellB hb (by omega) s0_2, cellB hb (by omega) s1_0, cellB hb (by omega) s1_1, cellB hb (by omega) s1_2, cellB hb (by omega) s2_0, cellB hb (by omega) s2_1, cellB hb (by omega) s2_2⟩ (fun hS => ?_)⟩
              clear hK K hb hz_ hB hz a0 a1 a2 a3 a4 a5 a6 a7 b0 b1 b2 b3 b4 b5 b6 b7 s0_0 s0_1 s0_2 s1_0 s1_1 s1_2 s2_0 s2_1 s2_2
              refine pure_ (i := 7) (N := (some 58)) (v := ?_) (a' := ?_) #[true, true, true, true, true, true, true, true, false, false, true, false, false] rfl rfl (by kernel_rfl) (fun _ _ _ h => h) (Or.inl ⟨by rfl, ?_⟩) ?_ ?_
              rotate_left
              · intro w'
                go_simp
                with_reducible rfl
              rotate_left
              · simp only [Act.put, List.setIfInBounds_toArray, List.set_cons_zero, List.set_cons_succ, i64_w, i32_w]
                rfl
              refine pure_ (i := 8) (N := (some 66)) (v := ?_) (a' := ?_) #[true, true, true, true, true, true, true, true, true, false, true, false, false] rfl rfl (by kernel_rfl) (fun _ _ _ h => h) (Or.inl ⟨by rfl, ?_⟩) ?_ ?_
              rotate_left
              · intro w'
                go_simp
                with_reducible rfl
              rotate_left
              · simp only [Act.put, List.setIfInBounds_toArray, List.set_cons_zero, List.set_cons_succ, i64_w, i32_w]
                rfl
              refine pure_ (i := 9) (N := (some 67)) (v := ?_) (a' := ?_) #[true, true, true, true, true, true, true, true, true, true, true, false, false] rfl rfl (by kernel_rfl) (fun _ _ _ h => h) (Or.inl ⟨by rfl, ?_⟩) ?_ ?_
              rotate_left
              · intro w'
                go_simp
                with_reducible rfl
              rotate_left
              · simp only [Act.put, List.setIfInBounds_toArray, List.set_cons_zero, List.set_cons_succ, i64_w, i32_w]
                rfl
              obtain ⟨hB, hz, a0, a1, a2, a3, a4, a5, a6, a7, b0, b1, b2, b3, b4, b5, b6, b7, s0_0, s0_1, s0_2, s1_0, s1_1, s1_2, s2_0, s2_1, s2_2⟩ := hS
              have hJ' := hJ (p9, enE (one 16 a) (some ⟨B1, 0, none⟩) c1, enE (one 16 b) (some ⟨B3, 0, none⟩) c3, enE (two 17 (one 16 a) (one 16 b)) (some ⟨B4, 0, none⟩) c4, rr) _ ⟨HE, hp0, hp1, z0, z1, z2, f0, f1, f2, hB, hz, a0, a1, a2, a3, a4, a5, a6, a7, b0, b1, b2, b3, b4, b5, b6, b7, s0_0, s0_1, s0_2, s1_0, s1_1, s1_2, s2_0, s2_1, s2_2⟩
              clear hJ
              simp only [putAll, Act.put, List.setIfInBounds_toArray, List.set_cons_zero, List.set_cons_succ] at hJ' ⊢
              exact hJ'
          · have dummy := trivial
            obtain ⟨hB, hz, a0, a1, a2, a3, a4, a5, a6, a7, b0, b1, b2, b3, b4, b5, b6, b7, s0_0, s0_1, s0_2, s1_0, s1_1, s1_2, s2_0, s2_1, s2_2⟩ := hS
            refine value_ (v := .pointer (some ⟨wr.heap.size, 0, none⟩)) (w1 := (wr.alloc (.cells #[.int .i64 0, .int .i64 0, .string ⟨#[]⟩] 30))) (by rfl) rfl (by go_simp) ?_
            have hb : Below wr.heap.size wr (wr.alloc (.cells #[.int .i64 0, .int .i64 0, .string ⟨#[]⟩] 30)) := below_alloc (Below.refl _ _) _
            have hz_ := hb.size
            have hq : wr.heap.size < (wr.alloc (.cells #[.int .i64 0, .int .i64 0, .string ⟨#[]⟩] 30)).heap.size := (by simp)
            obtain ⟨p9, hp9⟩ : ∃ p9, p9 = wr.heap.size := ⟨_, rfl⟩
            have hp0 : x7.heap.size < p9 := (by omega)
            have hp1 : p9 < (wr.alloc (.cells #[.int .i64 0, .int .i64 0, .string ⟨#[]⟩] 30)).heap.size := (by omega)
            have z0 : (wr.alloc (.cells #[.int .i64 0, .int .i64 0, .string ⟨#[]⟩] 30)).cell? ⟨p9, 0, none⟩ = some (.int .i64 0) := (by rw [hp9]; go_simp)
            have z1 : (wr.alloc (.cells #[.int .i64 0, .int .i64 0, .string ⟨#[]⟩] 30)).cell? ⟨p9, 1, none⟩ = some (.int .i64 0) := (by rw [hp9]; go_simp)
            have z2 : (wr.alloc (.cells #[.int .i64 0, .int .i64 0, .string ⟨#[]⟩] 30)).cell? ⟨p9, 2, none⟩ = some (.string ⟨#[]⟩) := (by rw [hp9]; go_simp)
            have f0 : (wr.alloc (.cells #[.int .i64 0, .int .i64 0, .string ⟨#[]⟩] 30)).frozen? ⟨p9, 0, none⟩ = false := (by rw [hp9]; go_simp)
            have f1 : (wr.alloc (.cells #[.int .i64 0, .int .i64 0, .string ⟨#[]⟩] 30)).frozen? ⟨p9, 1, none⟩ = false := (by rw [hp9]; go_simp)
            have f2 : (wr.alloc (.cells #[.int .i64 0, .int .i64 0, .string ⟨#[]⟩] 30)).frozen? ⟨p9, 2, none⟩ = false := (by rw [hp9]; go_simp)
            rw [← hp9]
            refine hK.out _ _ ⟨hB.trans (hb.mono (by omega)), (by omega : _ < _), cellB hb (by omega) a0, cellB hb (by omega) a1, cellB hb (by omega) a2, cellB hb (by omega) a3, cellB hb (by omega) a4, cellB hb (by omega) a5, cellB hb (by omega) a6, cellB hb (by omega) a7, cellB hb (by omega) b0, cellB hb (by omega) b1, cellB hb (by omega) b2, cellB hb (by omega) b3, cellB hb (by omega) b4, cellB hb (by omega) b5, cellB hb (by omega) b6, cellB hb (by omega) b7, cellB hb (by omega) s0_0, cellB hb (by omega) s0_1, cellB hb (by omega) s0_2, cellB hb (by omega) s1_0, cellB hb (by omega) s1_1, cellB hb (by omega) s1_2, cellB hb (by omega) s2_0, cellB hb (by omega) s2_1, cellB hb (by omega) s2_2⟩ (fun hS => ?_)
            clear hK K hb hz_ hq hp9 hB hz a0 a1 a2 a3 a4 a5 a6 a7 b0 b1 b2 b3 b4 b5 b6 b7 s0_0 s0_1 s0_2 s1_0 s1_1 s1_2 s2_0 s2_1 s2_2
            refine one_ (i := 1) (N := (some 60)) #[true, true, true, false, false, true, false, false, false, false, true, false, false] rfl rfl (by kernel_rfl) (by decide) (fun K hK => ?_)
            obtain ⟨hB, hz, a0, a1, a2, a3, a4, a5, a6, a7, b0, b1, b2, b3, b4, b5, b6, b7, s0_0, s0_1, s0_2, s1_0, s1_1, s1_2, s2_0, s2_1, s2_2⟩ := hS
            refine goes_ Try.func41 (by kernel_rfl) rfl #[enE a A c] (by rfl) rfl rfl (by (try simp only [List.map_toArray, List.map_cons, List.map_nil]); first | done | rfl) ?_
            refine (not_calls a A c _ LA.out (Kd.C_below HA.out hB)).mono ?_
            rintro e w8_1 ⟨⟨B1, c1, rfl, hl1, hC1⟩, hb⟩
            have hz_ := hb.size
            have z0 := cellB hb (by omega) z0
            have f0 := frozB hb (by omega) f0
            have z1 := cellB hb (by omega) z1
            have f1 := frozB hb (by omega) f1
            have z2 := cellB hb (by omega) z2
            have f2 := frozB hb (by omega) f2
            have hp1 : p9 < w8_1.heap.size := (by omega)
            refine ⟨_, rfl, hK.out _ _ ⟨hB.trans (hb.mono (by omega)), (by omega : _ < _), cellB hb (by omega) a0, cellB hb (by omega) a1, cellB hb (by omega) a2, cellB hb (by omega) a3, cellB hb (by omega) a4, cellB hb (by omega) a5, cellB hb (by omega) a6, cellB hb (by omega) a7, cellB hb (by omega) b0, cellB hb (by omega) b1, cellB hb (by omega) b2, cellB hb (by omega) b3, cellB hb (by omega) b4, cellB hb (by omega) b5, cellB hb (by omega) b6, cellB hb (by omega) b7, cellB hb (by omega) s0_0, cellB hb (by omega) s0_1, cellB hb (by omega) s0_2, cellB hb (by omega) s1_0, cellB hb (by omega) s1_1, cellB hb (by omega) s1_2, cellB hb (by omega) s2_0, cellB hb (by omega) s2_1, cellB hb (by omega) s2_2⟩ (fun hS => ?_)⟩
            clear hK K hb hz_ hB hz a0 a1 a2 a3 a4 a5 a6 a7 b0 b1 b2 b3 b4 b5 b6 b7 s0_0 s0_1 s0_2 s1_0 s1_1 s1_2 s2_0 s2_1 s2_2
            refine one_ (i := 3) (N := (some 62)) #[true, true, true, true, false, true, false, false, false, false, true, false, false] rfl rfl (by kernel_rfl) (by decide) (fun K hK => ?_)
            obtain ⟨hB, hz, a0, a1, a2, a3, a4, a5, a6, a7, b0, b1, b2, b3, b4, b5, b6, b7, s0_0, s0_1, s0_2, s1_0, s1_1, s1_2, s2_0, s2_1, s2_2⟩ := hS
            refine goes_ Try.func41 (by kernel_rfl) rfl #[enE b B d] (by rfl) rfl rfl (by (try simp only [List.map_toArray, List.map_cons, List.map_nil]); first | done | rfl) ?_
            refine (not_calls b B d _ LB.out (Kd.C_below HB.out hB)).mono ?_
            rintro e w8_3 ⟨⟨B3, c3, rfl, hl3, hC3⟩, hb⟩
            have hz_ := hb.size
            have hC1 := Kd.C_below hC1 hb
            have z0 := cellB hb (by omega) z0
            have f0 := frozB hb (by omega) f0
            have z1 := cellB hb (by omega) z1
            have f1 := frozB hb (by omega) f1
            have z2 := cellB hb (by omega) z2
            have f2 := frozB hb (by omega) f2
            have hp1 : p9 < w8_3.heap.size := (by omega)
            refine ⟨_, rfl, hK.out _ _ ⟨hB.trans (hb.mono (by omega)), (by omega : _ < _), cellB hb (by omega) a0, cellB hb (by omega) a1, cellB hb (by omega) a2, cellB hb (by omega) a3, cellB hb (by omega) a4, cellB hb (by omega) a5, cellB hb (by omega) a6, cellB hb (by omega) a7, cellB hb (by omega) b0, cellB hb (by omega) b1, cellB hb (by omega) b2, cellB hb (by omega) b3, cellB hb (by omega) b4, cellB hb (by omega) b5, cellB hb (by omega) b6, cellB hb (by omega) b7, cellB hb (by omega) s0_0, cellB hb (by omega) s0_1, cellB hb (by omega) s0_2, cellB hb (by omega) s1_0, cellB hb (by omega) s1_1, cellB hb (by omega) s1_2, cellB hb (by omega) s2_0, cellB hb (by omega) s2_1, cellB hb (by omega) s2_2⟩ (fun hS => ?_)⟩
            clear hK K hb hz_ hB hz a0 a1 a2 a3 a4 a5 a6 a7 b0 b1 b2 b3 b4 b5 b6 b7 s0_0 s0_1 s0_2 s1_0 s1_1 s1_2 s2_0 s2_1 s2_2
            refine one_ (i := 4) (N := (some 63)) #[true, true, true, true, true, true, false, false, false, false, true, false, false] rfl rfl (by kernel_rfl) (by decide) (fun K hK => ?_)
            obtain ⟨hB, hz, a0, a1, a2, a3, a4, a5, a6, a7, b0, b1, b2, b3, b4, b5, b6, b7, s0_0, s0_1, s0_2, s1_0, s1_1, s1_2, s2_0, s2_1, s2_2⟩ := hS
            refine goes_ Try.func42 (by kernel_rfl) rfl #[.int .i64 17, enE (one 16 a) (some ⟨B1, 0, none⟩) c1, enE (one 16 b) (some ⟨B3, 0, none⟩) c3] (by rfl) rfl rfl (by (try simp only [List.map_toArray, List.map_cons, List.map_nil]); first | done | rfl) ?_
            refine (two_calls 17 (one 16 a) _ c1 (one 16 b) _ c3 _ hl1 hC1 hl3 hC3).mono ?_
            rintro e w8_4 ⟨⟨B4, c4, rfl, hl4, hC4⟩, hb⟩
            have hz_ := hb.size
            have hC1 := Kd.C_below hC1 hb
            have hC3 := Kd.C_below hC3 hb
            have z0 := cellB hb (by omega) z0
            have f0 := frozB hb (by omega) f0
            have z1 := cellB hb (by omega) z1
            have f1 := frozB hb (by omega) f1
            have z2 := cellB hb (by omega) z2
            have f2 := frozB hb (by omega) f2
            have hp1 : p9 < w8_4.heap.size := (by omega)
            refine ⟨_, rfl, hK.out _ _ ⟨hB.trans (hb.mono (by omega)), (by omega : _ < _), cellB hb (by omega) a0, cellB hb (by omega) a1, cellB hb (by omega) a2, cellB hb (by omega) a3, cellB hb (by omega) a4, cellB hb (by omega) a5, cellB hb (by omega) a6, cellB hb (by omega) a7, cellB hb (by omega) b0, cellB hb (by omega) b1, cellB hb (by omega) b2, cellB hb (by omega) b3, cellB hb (by omega) b4, cellB hb (by omega) b5, cellB hb (by omega) b6, cellB hb (by omega) b7, cellB hb (by omega) s0_0, cellB hb (by omega) s0_1, cellB hb (by omega) s0_2, cellB hb (by omega) s1_0, cellB hb (by omega) s1_1, cellB hb (by omega) s1_2, cellB hb (by omega) s2_0, cellB hb (by omega) s2_1, cellB hb (by omega) s2_2⟩ (fun hS => ?_)⟩
            clear hK K hb hz_ hB hz a0 a1 a2 a3 a4 a5 a6 a7 b0 b1 b2 b3 b4 b5 b6 b7 s0_0 s0_1 s0_2 s1_0 s1_1 s1_2 s2_0 s2_1 s2_2
            refine one_ (i := 6) (N := (some 65)) #[true, true, true, true, true, true, true, false, false, false, true, false, false] rfl rfl (by kernel_rfl) (by decide) (fun K hK => ?_)
            obtain ⟨hB, hz, a0, a1, a2, a3, a4, a5, a6, a7, b0, b1, b2, b3, b4, b5, b6, b7, s0_0, s0_1, s0_2, s1_0, s1_1, s1_2, s2_0, s2_1, s2_2⟩ := hS
            refine goes_ Try.func40 (by kernel_rfl) rfl #[enE (two 17 (one 16 a) (one 16 b)) (some ⟨B4, 0, none⟩) c4, .slice Ar rs.length cr] (by rfl) rfl rfl (by (try simp only [List.map_toArray, List.map_cons, List.map_nil]); first | done | rfl) ?_
            refine (eval_some (two 17 (one 16 a) (one 16 b)) (rs := rs) _ _ Ar cr _ (Kd.C_below HR.out hB) hC4).mono ?_
            rintro e w8_6 ⟨rr, HE, rfl, hb⟩
            have hz_ := hb.size
            have hC1 := Kd.C_below hC1 hb
            have hC3 := Kd.C_below hC3 hb
            have hC4 := Kd.C_below hC4 hb
            have z0 := cellB hb (by omega) z0
            have f0 := frozB hb (by omega) f0
            have z1 := cellB hb (by omega) z1
            have f1 := frozB hb (by omega) f1
            have z2 := cellB hb (by omega) z2
            have f2 := frozB hb (by omega) f2
            have hp1 : p9 < w8_6.heap.size := (by omega)
            refine ⟨_, rfl, hK.out _ _ ⟨hB.trans (hb.mono (by omega)), (by omega : _ < _), cellB hb (by omega) a0, cellB hb (by omega) a1, cellB hb (by omega) a2, cellB hb (by omega) a3, cellB hb (by omega) a4, cellB hb (by omega) a5, cellB hb (by omega) a6, cellB hb (by omega) a7, cellB hb (by omega) b0, cellB hb (by omega) b1, cellB hb (by omega) b2, cellB hb (by omega) b3, cellB hb (by omega) b4, cellB hb (by omega) b5, cellB hb (by omega) b6, cellB hb (by omega) b7, cellB hb (by omega) s0_0, cellB hb (by omega) s0_1, cellB hb (by omega) s0_2, cellB hb (by omega) s1_0, cellB hb (by omega) s1_1, cellB hb (by omega) s1_2, cellB hb (by omega) s2_0, cellB hb (by omega) s2_1, cellB hb (by omega) s2_2⟩ (fun hS => ?_)⟩
            clear hK K hb hz_ hB hz a0 a1 a2 a3 a4 a5 a6 a7 b0 b1 b2 b3 b4 b5 b6 b7 s0_0 s0_1 s0_2 s1_0 s1_1 s1_2 s2_0 s2_1 s2_2
            refine pure_ (i := 7) (N := (some 58)) (v := ?_) (a' := ?_) #[true, true, true, true, true, true, true, true, false, false, true, false, false] rfl rfl (by kernel_rfl) (fun _ _ _ h => h) (Or.inl ⟨by rfl, ?_⟩) ?_ ?_
            rotate_left
            · intro w'
              go_simp
              with_reducible rfl
            rotate_left
            · simp only [Act.put, List.setIfInBounds_toArray, List.set_cons_zero, List.set_cons_succ, i64_w, i32_w]
              rfl
            refine pure_ (i := 8) (N := (some 66)) (v := ?_) (a' := ?_) #[true, true, true, true, true, true, true, true, true, false, true, false, false] rfl rfl (by kernel_rfl) (fun _ _ _ h => h) (Or.inl ⟨by rfl, ?_⟩) ?_ ?_
            rotate_left
            · intro w'
              go_simp
              with_reducible rfl
            rotate_left
            · simp only [Act.put, List.setIfInBounds_toArray, List.set_cons_zero, List.set_cons_succ, i64_w, i32_w]
              rfl
            refine pure_ (i := 9) (N := (some 67)) (v := ?_) (a' := ?_) #[true, true, true, true, true, true, true, true, true, true, true, false, false] rfl rfl (by kernel_rfl) (fun _ _ _ h => h) (Or.inl ⟨by rfl, ?_⟩) ?_ ?_
            rotate_left
            · intro w'
              go_simp
              with_reducible rfl
            rotate_left
            · simp only [Act.put, List.setIfInBounds_toArray, List.set_cons_zero, List.set_cons_succ, i64_w, i32_w]
              rfl
            obtain ⟨hB, hz, a0, a1, a2, a3, a4, a5, a6, a7, b0, b1, b2, b3, b4, b5, b6, b7, s0_0, s0_1, s0_2, s1_0, s1_1, s1_2, s2_0, s2_1, s2_2⟩ := hS
            have hJ' := hJ (p9, enE (one 16 a) (some ⟨B1, 0, none⟩) c1, enE (one 16 b) (some ⟨B3, 0, none⟩) c3, enE (two 17 (one 16 a) (one 16 b)) (some ⟨B4, 0, none⟩) c4, rr) _ ⟨HE, hp0, hp1, z0, z1, z2, f0, f1, f2, hB, hz, a0, a1, a2, a3, a4, a5, a6, a7, b0, b1, b2, b3, b4, b5, b6, b7, s0_0, s0_1, s0_2, s1_0, s1_1, s1_2, s2_0, s2_1, s2_2⟩
            clear hJ
            simp only [putAll, Act.put, List.setIfInBounds_toArray, List.set_cons_zero, List.set_cons_succ] at hJ' ⊢
            exact hJ'
        obtain ⟨p13, _, _, _, r13⟩ := s
        obtain ⟨HEr13, hp0, hp1, z0, z1, z2, f0, f1, f2, hB, hz, a0, a1, a2, a3, a4, a5, a6, a7, b0, b1, b2, b3, b4, b5, b6, b7, s0_0, s0_1, s0_2, s1_0, s1_1, s1_2, s2_0, s2_1, s2_2⟩ := hF
        simp only [putAll, Act.put, List.setIfInBounds_toArray, List.set_cons_zero, List.set_cons_succ]
        refine last_ (i := 11) (N := none) #[true, true, true, true, true, true, true, true, true, true, true, true, false] rfl rfl (by kernel_rfl) (by decide) (fun K hK => ?_)
        refine skip_ (w1 := ?_) (by rfl) rfl ?_ ?_
        rotate_left
        · go_simp
          rfl
        refine hK.out _ _ ?_
        clear hK K
        refine pure_ (i := 12) (N := (some 14)) (v := ?_) (a' := ?_) #[true, true, true, true, true, true, true, true, true, true, true, true, true] rfl rfl (by kernel_rfl) (fun _ _ _ h => h) (Or.inl ⟨by rfl, ?_⟩) ?_ ?_
        rotate_left
        · intro w'
          go_simp
          with_reducible rfl
        rotate_left
        · simp only [Act.put, List.setIfInBounds_toArray, List.set_cons_zero, List.set_cons_succ, i64_w, i32_w]
          rfl
        refine done_ (by kernel_rfl) ?_
        have e13 : r13 = r11 := HEr13.out.symm.trans ((dm2 rs a b).symm.trans HEr11.out)
        subst e13
        clear HEr13
        obtain ⟨q34_0, q34_1, q34_2, q34_3, q34_4, q34_5, q34_6⟩ := lt_chain6 (show w.heap.size < p13 by omega)
        obtain ⟨q35_0, q35_1, q35_2, q35_3, q35_4, q35_5, q35_6⟩ := lt_chain6 (show w.heap.size + 1 < p13 by omega)
        obtain ⟨q36_0, q36_1, q36_2, q36_3, q36_4, q36_5, q36_6⟩ := lt_chain6 (show w7.heap.size < p13 by omega)
        obtain ⟨q37_0, q37_1, q37_2, q37_3, q37_4, q37_5, q37_6⟩ := lt_chain6 (show p9 < p13 by omega)
        obtain ⟨q38_0, q38_1, q38_2, q38_3, q38_4, q38_5, q38_6⟩ := lt_chain6 (show x7.heap.size < p13 by omega)
        go_wp2
        refine ret_ex rfl ?_
        apply Exists.intro
        refine ⟨?_, ?_, ?_⟩
        · simp [results, Try.results8]; rfl
        · simp
        · repeat (first | assumption | exact Below.refl _ _ | apply below_alloc | apply pw_below_drewN | apply below_drew1 | (refine setC ?_ (by omega) _))
end Go.Proofs.Ytfneopcbnlfkiaa.Ex
