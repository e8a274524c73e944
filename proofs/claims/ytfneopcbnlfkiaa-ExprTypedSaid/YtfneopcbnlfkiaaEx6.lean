/-
expr.Eval of an operator of two parts.
-/
import Derived.Test.YtfneopcbnlfkiaaEx5
namespace Go.Proofs.Ytfneopcbnlfkiaa.Ex
open Go.RowKit Go.Proofs.YtfneopcbnlfkiaaW.PrintWords Go.Proofs.Ytfneopcbnlfkiaa.Kin Go.Proofs.Ytfneopcbnlfkiaa.Num Go.Proofs.Ytfneopcbnlfkiaa.Base Go.Proofs.YtfneopcbnlfkiaaW.PrintLast
set_option linter.unusedVariables false
set_option linter.unusedSimpArgs false
theorem two_elem {w : World} {A : Option Addr} {a b : S32} (h : k32.C w A 2 [a, b]) : ∃ ad A7 c7 B7 d7, A = some ad ∧ ad.block < w.heap.size ∧ (w.cell? ad = some (.int .i64 a.f0) ∧ w.cell? ⟨ad.block, ad.off + 1, none⟩ = some (.string a.f1) ∧ w.cell? ⟨ad.block, ad.off + 2, none⟩ = some (.string a.f2) ∧ w.cell? ⟨ad.block, ad.off + 3, none⟩ = some (.int .i64 a.f3) ∧ w.cell? ⟨ad.block, ad.off + 4, none⟩ = some (.int .i64 a.f4.f0) ∧ w.cell? ⟨ad.block, ad.off + 5, none⟩ = some (.int .i64 a.f4.f1) ∧ w.cell? ⟨ad.block, ad.off + 6, none⟩ = some (.string a.f4.f2) ∧ w.cell? ⟨ad.block, ad.off + 7, none⟩ = some (.slice A7 a.f5.length c7) ∧ a.f5.length ≤ c7 ∧ k32.C w A7 a.f5.length a.f5) ∧ w.cell? ⟨ad.block, ad.off + 8, none⟩ = some (.int .i64 b.f0) ∧ w.cell? ⟨ad.block, ad.off + 8 + 1, none⟩ = some (.string b.f1) ∧ w.cell? ⟨ad.block, ad.off + 8 + 2, none⟩ = some (.string b.f2) ∧ w.cell? ⟨ad.block, ad.off + 8 + 3, none⟩ = some (.int .i64 b.f3) ∧ w.cell? ⟨ad.block, ad.off + 8 + 4, none⟩ = some (.int .i64 b.f4.f0) ∧ w.cell? ⟨ad.block, ad.off + 8 + 5, none⟩ = some (.int .i64 b.f4.f1) ∧ w.cell? ⟨ad.block, ad.off + 8 + 6, none⟩ = some (.string b.f4.f2) ∧ w.cell? ⟨ad.block, ad.off + 8 + 7, none⟩ = some (.slice B7 b.f5.length d7) ∧ b.f5.length ≤ d7 ∧ k32.C w B7 b.f5.length b.f5 := by
  obtain ⟨ad, A7, c7, e, g0, g⟩ := at_T32 h 0 (by omega) (by omega)
  obtain ⟨ad', B7, d7, e', k0, k⟩ := at_T32 h 1 (by omega) (by omega)
  obtain rfl : ad = ad' := Option.some.inj (e.symm.trans e')
  exact ⟨ad, A7, c7, B7, d7, e, World.block_lt_of_cell? w _ g0, ⟨g0, g⟩, k0, k⟩
set_option maxHeartbeats 16000000 in
set_option maxRecDepth 100000 in
/-- An operator of two parts. -/
theorem eval_two (op : Int) (t n : ByteArray) (k : Int) (v : S30) (a b : S32) (A c) (Ar : Option Addr) (rs : List S30) (cr : Nat) (w : World) (p q : S30 × Int)
    (hr : k30.C w Ar rs.length rs) (ha : k32.C w A 2 [a, b])
    (ih : ∀ A' c' W, k32.C W A' a.f5.length a.f5 → a.f5.length ≤ c' → k30.C W Ar rs.length rs → Calls Try.prog 40 #[enE a A' c', .slice Ar rs.length cr] W fun e w' => e = .returned (enVE p) ∧ Below W.heap.size W w')
    (ih2 : ∀ A' c' W, k32.C W A' b.f5.length b.f5 → b.f5.length ≤ c' → k30.C W Ar rs.length rs → Calls Try.prog 40 #[enE b A' c', .slice Ar rs.length cr] W fun e w' => e = .returned (enVE q) ∧ Below W.heap.size W w')
    (e1 : (parts op != 2) = false) (e2 : (op == 2) = false) (e3 : sumOp op = false) (e4 : (op == 1) = false) (e5 : (op == 3) = false) (h190 : op ≠ 19) :
    Calls Try.prog 40 #[enE ⟨op, t, n, k, v, [a, b]⟩ A c, .slice Ar rs.length cr] w fun e w' => e = .returned (enVE (seq2 op p q)) ∧ Below w.heap.size w w' := by
  have hu := Try.underlying30
  have hu32 := Try.underlying32
  have hu157 := Try.underlying157
  obtain ⟨ad, A7, c7, B7, d7, rfl, hlt, ⟨g0, g1, g2, g3, g4, g5, g6, g7, hl, gA⟩, k0, k1, k2, k3, k4, k5, k6, k7, hl2, gB⟩ := two_elem ha
  obtain ⟨l0, l1, l2, l3, l4, l5, l6⟩ := lt_chain6 hlt
  have hltA := hlt
  have HC := Aside0.mk gA
  have HC2 := Aside0.mk gB
  have HR := Aside0.mk hr
  have HI := Aside0.mk ih
  have HI2 := Aside0.mk ih2
  have H19 := Aside0.mk h190
  clear gA gB hr ih ih2 ha h190
  obtain ⟨p, er⟩ := p
  obtain ⟨q, er2⟩ := q
  cases he : (er != 0)
  · have HE0 := Aside0.mk (show er = 0 by simpa using he)
    cases he2 : (er2 != 0)
    · have HE2 := Aside0.mk (show er2 = 0 by simpa using he2)
      go_enter Try.func40, Try.ntmps40
      go_wp2_with fail
      go_quiet ((first | (go_at_call 106; exact quiet_eq (parts_calls _ _)) | (go_at_call 107; exact quiet_eq (sum_calls _ _))))
      go_wp2_with fail
      refine wp_loop_rounds 3 ?_
      rw [rounds_succ]
      go_wp2_with (first | (go_at_call 40; refine (HI.out _ _ _ ?_ hl ?_).mono ?_; (refine Kd.C_below HC.out ?_; repeat (first | assumption | exact Below.refl _ _ | apply below_alloc | apply pw_below_drewN | apply below_drew1 | (refine setC ?_ (by omega) _))); (refine Kd.C_below HR.out ?_; repeat (first | assumption | exact Below.refl _ _ | apply below_alloc | apply pw_below_drewN | apply below_drew1 | (refine setC ?_ (by omega) _))); rintro e w2 ⟨rfl, hb1⟩; have hB1 : Below w.heap.size w w2 := (by refine belT ?_ hb1; repeat (first | assumption | exact Below.refl _ _ | apply below_alloc | apply pw_below_drewN | apply below_drew1 | (refine setC ?_ (by omega) _))); obtain ⟨hc1, hf1⟩ := bcell hb1; have hz1 := hb1.size; (simp at hz1); obtain ⟨z0, z1, z2, z3, z4, z5, z6⟩ := lt_chain6 (show w.heap.size < w2.heap.size by omega); obtain ⟨y0, y1, y2, y3, y4, y5, y6⟩ := lt_chain6 (show w.heap.size + 1 < w2.heap.size by omega); obtain ⟨x0, x1, x2, x3, x4, x5, x6⟩ := lt_chain6 (show w.heap.size + 1 + 1 < w2.heap.size by omega); obtain ⟨m0, m1, m2, m3, m4, m5, m6⟩ := lt_chain6 (show ad.block < w2.heap.size by omega)))
      rw [rounds_succ]
      go_wp2_with (first | (go_at_call 40; refine (HI2.out _ _ _ ?_ hl2 ?_).mono ?_; (refine Kd.C_below HC2.out ?_; repeat (first | assumption | exact Below.refl _ _ | apply below_alloc | apply pw_below_drewN | apply below_drew1 | (refine setC ?_ (by omega) _))); (refine Kd.C_below HR.out ?_; repeat (first | assumption | exact Below.refl _ _ | apply below_alloc | apply pw_below_drewN | apply below_drew1 | (refine setC ?_ (by omega) _))); rintro e w4 ⟨rfl, hb2⟩; have hB2 : Below w.heap.size w w4 := (by refine belT ?_ hb2; repeat (first | assumption | exact Below.refl _ _ | apply below_alloc | apply pw_below_drewN | apply below_drew1 | (refine setC ?_ (by omega) _))); obtain ⟨hc2, hf2⟩ := bcell hb2; have hz2 := hb2.size; (simp at hz2); obtain ⟨u0, u1, u2, u3, u4, u5, u6⟩ := lt_chain6 (show w.heap.size < w4.heap.size by omega); obtain ⟨v0, v1, v2, v3, v4, v5, v6⟩ := lt_chain6 (show w.heap.size + 1 < w4.heap.size by omega); obtain ⟨s0, s1, s2, s3, s4, s5, s6⟩ := lt_chain6 (show w.heap.size + 1 + 1 < w4.heap.size by omega); obtain ⟨n0, n1, n2, n3, n4, n5, n6⟩ := lt_chain6 (show ad.block < w4.heap.size by omega)))
      rw [rounds_succ]
      have h190 := H19.out
      cases h19 : (op == 19)
      · cases hcm : cmpOp op
        · have HF := Aside0.mk (show seq2 op (p, er) (q, er2) = applyV op (whole p) (whole q) from (by have hE := HE0.out; have hE2 := HE2.out; have h9 : op ≠ 19 := (by simpa using h19); simp [seq1, seq2, fin, hE, hE2, h9, hcm]))
          go_wp2_with (first | (go_at_call 109; refine (compares_calls _ _).mono ?_; rintro e w3 ⟨rfl, rfl⟩; (try rw [hcm])))
          clear h19 hcm g0 g1 g2 g3 g4 g5 g6 g7 k0 k1 k2 k3 k4 k5 k6 k7 HC HC2 HR HI HI2 l0 l1 l2 l3 l4 l5 l6 hl hl2 hlt
          refine startG (n := 13) (S := (fun w' => Below w.heap.size w w' ∧ w.heap.size + 1 + 1 < w'.heap.size ∧ w'.cell? ⟨w.heap.size, 0, none⟩ = some (.int .i64 op) ∧ w'.cell? ⟨w.heap.size + 1 + 1, 0, none⟩ = some (.int .i64 p.f0) ∧ w'.cell? ⟨w.heap.size + 1 + 1, 1, none⟩ = some (.int .i64 p.f1) ∧ w'.cell? ⟨w.heap.size + 1 + 1, 2, none⟩ = some (.string p.f2) ∧ w'.cell? ⟨w.heap.size + 1 + 1, 3, none⟩ = some (.int .i64 q.f0) ∧ w'.cell? ⟨w.heap.size + 1 + 1, 4, none⟩ = some (.int .i64 q.f1) ∧ w'.cell? ⟨w.heap.size + 1 + 1, 5, none⟩ = some (.string q.f2) ∧ w'.cell? ⟨w.heap.size + 1, 0, none⟩ = some (.int .i64 0) ∧ w'.cell? ⟨w.heap.size + 1, 1, none⟩ = some (.int .i64 0) ∧ w'.cell? ⟨w.heap.size + 1, 2, none⟩ = some (.string ⟨#[]⟩) ∧ w'.frozen? ⟨w.heap.size + 1, 0, none⟩ = false ∧ w'.frozen? ⟨w.heap.size + 1, 1, none⟩ = false ∧ w'.frozen? ⟨w.heap.size + 1, 2, none⟩ = false)) (ds := [11]) #[false, false, false, false, false, false, false, false, false, false, false, false, false] (by kernel_rfl) rfl rfl ?_ (fun wr hS => ?_)
          · refine ⟨?_, ?_, ?_, ?_, ?_, ?_, ?_, ?_, ?_, ?_, ?_, ?_, ?_, ?_, ?_⟩; (repeat (first | assumption | exact Below.refl _ _ | apply below_alloc | apply pw_below_drewN | apply below_drew1 | (refine setC ?_ (by omega) _))); (first | (simp; done) | (simp; omega)); all_goals go_simp
          refine pure_ (i := 0) (N := (some 93)) (v := ?_) (a' := ?_) #[true, false, false, false, false, false, false, false, false, false, false, false, false] rfl rfl (by kernel_rfl) (fun _ _ _ h => h) (Or.inl ⟨by rfl, ?_⟩) ?_ ?_
          rotate_left
          · intro w'
            go_simp
            with_reducible rfl
          rotate_left
          · simp only [Act.put, List.setIfInBounds_toArray, List.set_cons_zero, List.set_cons_succ, i64_w, i32_w]
            rfl
          refine take_ (i := 1) (N := (some 94)) (v := ?_) (a' := ?_) #[true, true, false, false, false, false, false, false, false, false, false, false, false] rfl rfl (by kernel_rfl) (fun _ _ _ h => h) (Or.inl ⟨by rfl, ?_⟩) hS ?_ ?_
          rotate_left
          · rintro w' ⟨hB, hz, c0, a0, a1, a2, a3, a4, a5, r0, r1, r2, f0, f1, f2⟩
            go_simp
            with_reducible rfl
          rotate_left
          · simp only [Act.put, List.setIfInBounds_toArray, List.set_cons_zero, List.set_cons_succ, i64_w, i32_w]
            rfl
          refine pure_ (i := 2) (N := (some 95)) (v := ?_) (a' := ?_) #[true, true, true, false, false, false, false, false, false, false, false, false, false] rfl rfl (by kernel_rfl) (fun _ _ _ h => h) (Or.inl ⟨by rfl, ?_⟩) ?_ ?_
          rotate_left
          · intro w'
            go_simp
            with_reducible rfl
          rotate_left
          · simp only [Act.put, List.setIfInBounds_toArray, List.set_cons_zero, List.set_cons_succ, i64_w, i32_w]
            rfl
          refine take_ (i := 3) (N := (some 96)) (v := ?_) (a' := ?_) #[true, true, true, true, false, false, false, false, false, false, false, false, false] rfl rfl (by kernel_rfl) (fun _ _ _ h => h) (Or.inl ⟨by rfl, ?_⟩) hS ?_ ?_
          rotate_left
          · rintro w' ⟨hB, hz, c0, a0, a1, a2, a3, a4, a5, r0, r1, r2, f0, f1, f2⟩
            go_simp
            with_reducible rfl
          rotate_left
          · simp only [Act.put, List.setIfInBounds_toArray, List.set_cons_zero, List.set_cons_succ, i64_w, i32_w]
            rfl
          refine pure_ (i := 5) (N := (some 98)) (v := ?_) (a' := ?_) #[true, true, true, true, false, true, false, false, false, false, false, false, false] rfl rfl (by kernel_rfl) (fun _ _ _ h => h) (Or.inl ⟨by rfl, ?_⟩) ?_ ?_
          rotate_left
          · intro w'
            go_simp
            with_reducible rfl
          rotate_left
          · simp only [Act.put, List.setIfInBounds_toArray, List.set_cons_zero, List.set_cons_succ, i64_w, i32_w]
            rfl
          refine take_ (i := 6) (N := (some 99)) (v := ?_) (a' := ?_) #[true, true, true, true, false, true, true, false, false, false, false, false, false] rfl rfl (by kernel_rfl) (fun _ _ _ h => h) (Or.inl ⟨by rfl, ?_⟩) hS ?_ ?_
          rotate_left
          · rintro w' ⟨hB, hz, c0, a0, a1, a2, a3, a4, a5, r0, r1, r2, f0, f1, f2⟩
            go_simp
            with_reducible rfl
          rotate_left
          · simp only [Act.put, List.setIfInBounds_toArray, List.set_cons_zero, List.set_cons_succ, i64_w, i32_w]
            rfl
          refine one_ (i := 4) (N := (some 97)) #[true, true, true, true, true, true, true, false, false, false, false, false, false] rfl rfl (by kernel_rfl) (by decide) (fun K hK => ?_)
          obtain ⟨hB, hz, c0, a0, a1, a2, a3, a4, a5, r0, r1, r2, f0, f1, f2⟩ := hS
          refine goes_ Try.func112 (by kernel_rfl) rfl #[enV p] (by rfl) rfl rfl (by (try simp only [List.map_toArray, List.map_cons, List.map_nil]); first | done | rfl) ?_
          refine (whole_calls p _).mono ?_
          rintro e wa ⟨rfl, hb⟩
          have hz_ := hb.size
          refine ⟨_, rfl, hK.out _ _ ⟨hB.trans (hb.mono (by omega)), (by omega : _ < _), cellB hb (by omega) c0, cellB hb (by omega) a0, cellB hb (by omega) a1, cellB hb (by omega) a2, cellB hb (by omega) a3, cellB hb (by omega) a4, cellB hb (by omega) a5, cellB hb (by omega) r0, cellB hb (by omega) r1, cellB hb (by omega) r2, frozB hb (by omega) f0, frozB hb (by omega) f1, frozB hb (by omega) f2⟩ (fun hS => ?_)⟩
          clear hK K hb hz_ hB hz c0 a0 a1 a2 a3 a4 a5 r0 r1 r2 f0 f1 f2
          skip
          refine one_ (i := 7) (N := (some 100)) #[true, true, true, true, true, true, true, true, false, false, false, false, false] rfl rfl (by kernel_rfl) (by decide) (fun K hK => ?_)
          obtain ⟨hB, hz, c0, a0, a1, a2, a3, a4, a5, r0, r1, r2, f0, f1, f2⟩ := hS
          refine goes_ Try.func112 (by kernel_rfl) rfl #[enV q] (by rfl) rfl rfl (by (try simp only [List.map_toArray, List.map_cons, List.map_nil]); first | done | rfl) ?_
          refine (whole_calls q _).mono ?_
          rintro e wb ⟨rfl, hb⟩
          have hz_ := hb.size
          refine ⟨_, rfl, hK.out _ _ ⟨hB.trans (hb.mono (by omega)), (by omega : _ < _), cellB hb (by omega) c0, cellB hb (by omega) a0, cellB hb (by omega) a1, cellB hb (by omega) a2, cellB hb (by omega) a3, cellB hb (by omega) a4, cellB hb (by omega) a5, cellB hb (by omega) r0, cellB hb (by omega) r1, cellB hb (by omega) r2, frozB hb (by omega) f0, frozB hb (by omega) f1, frozB hb (by omega) f2⟩ (fun hS => ?_)⟩
          clear hK K hb hz_ hB hz c0 a0 a1 a2 a3 a4 a5 r0 r1 r2 f0 f1 f2
          skip
          refine one_ (i := 8) (N := (some 101)) #[true, true, true, true, true, true, true, true, true, false, false, false, false] rfl rfl (by kernel_rfl) (by decide) (fun K hK => ?_)
          obtain ⟨hB, hz, c0, a0, a1, a2, a3, a4, a5, r0, r1, r2, f0, f1, f2⟩ := hS
          refine goes_ Try.func111 (by kernel_rfl) rfl #[.int .i64 op, enV (whole p), enV (whole q)] (by rfl) rfl rfl (by (try simp only [List.map_toArray, List.map_cons, List.map_nil]); first | done | rfl) ?_
          refine (apply_calls op p q _).mono ?_
          rintro e wc ⟨rfl, hb⟩
          have hz_ := hb.size
          refine ⟨_, rfl, hK.out _ _ ⟨hB.trans (hb.mono (by omega)), (by omega : _ < _), cellB hb (by omega) c0, cellB hb (by omega) a0, cellB hb (by omega) a1, cellB hb (by omega) a2, cellB hb (by omega) a3, cellB hb (by omega) a4, cellB hb (by omega) a5, cellB hb (by omega) r0, cellB hb (by omega) r1, cellB hb (by omega) r2, frozB hb (by omega) f0, frozB hb (by omega) f1, frozB hb (by omega) f2⟩ (fun hS => ?_)⟩
          clear hK K hb hz_ hB hz c0 a0 a1 a2 a3 a4 a5 r0 r1 r2 f0 f1 f2
          skip
          refine pure_ (i := 9) (N := (some 102)) (v := ?_) (a' := ?_) #[true, true, true, true, true, true, true, true, true, true, false, false, false] rfl rfl (by kernel_rfl) (fun _ _ _ h => h) (Or.inl ⟨by rfl, ?_⟩) ?_ ?_
          rotate_left
          · intro w'
            go_simp
            with_reducible rfl
          rotate_left
          · simp only [Act.put, List.setIfInBounds_toArray, List.set_cons_zero, List.set_cons_succ, i64_w, i32_w]
            rfl
          refine pure_ (i := 10) (N := (some 103)) (v := ?_) (a' := ?_) #[true, true, true, true, true, true, true, true, true, true, true, false, false] rfl rfl (by kernel_rfl) (fun _ _ _ h => h) (Or.inl ⟨by rfl, ?_⟩) ?_ ?_
          rotate_left
          · intro w'
            go_simp
            with_reducible rfl
          rotate_left
          · simp only [Act.put, List.setIfInBounds_toArray, List.set_cons_zero, List.set_cons_succ, i64_w, i32_w]
            rfl
          refine last_ (i := 11) (N := none) #[true, true, true, true, true, true, true, true, true, true, true, true, false] rfl rfl (by kernel_rfl) (by decide) (fun K hK => ?_)
          obtain ⟨hB, hz, c0, a0, a1, a2, a3, a4, a5, r0, r1, r2, f0, f1, f2⟩ := hS
          refine skip_ (w1 := ?_) (by rfl) rfl ?_ ?_
          rotate_left
          · go_simp
            rfl
          refine hK.out _ _ ?_
          clear hK K
          refine pure_ (i := 12) (N := (some 5)) (v := ?_) (a' := ?_) #[true, true, true, true, true, true, true, true, true, true, true, true, true] rfl rfl (by kernel_rfl) (fun _ _ _ h => h) (Or.inl ⟨by rfl, ?_⟩) ?_ ?_
          rotate_left
          · intro w'
            go_simp
            with_reducible rfl
          rotate_left
          · simp only [Act.put, List.setIfInBounds_toArray, List.set_cons_zero, List.set_cons_succ, i64_w, i32_w]
            rfl
          refine done_ (by kernel_rfl) ?_
          go_wp2
          refine ret_ex rfl ?_
          apply Exists.intro
          refine ⟨?_, ?_, ?_⟩
          · simp [results, Try.results40]; (try go_simp); rfl
          · exact congrArg (fun z => Ending.returned (enVE z)) HF.out.symm
          · exact set3 hB (by omega) _ _ _
        · have HF := Aside0.mk (show seq2 op (p, er) (q, er2) = (compareV op p q, 0) from (by have hE := HE0.out; have hE2 := HE2.out; have h9 : op ≠ 19 := (by simpa using h19); simp [seq1, seq2, fin, hE, hE2, h9, hcm]))
          go_wp2_with (first | (go_at_call 109; refine (compares_calls _ _).mono ?_; rintro e w3 ⟨rfl, rfl⟩; (try rw [hcm])) | (go_at_call 110; refine (compare_calls op p q _).mono ?_; rintro e w3 ⟨rfl, hb3⟩; have hB3 : Below w.heap.size w w3 := (by refine belT ?_ hb3; repeat (first | assumption | exact Below.refl _ _ | apply below_alloc | apply pw_below_drewN | apply below_drew1 | (refine setC ?_ (by omega) _))); obtain ⟨hc3, hf3⟩ := bcell hb3))
          refine ret_ex rfl ?_
          apply Exists.intro
          refine ⟨?_, ?_, ?_⟩
          · simp [results, Try.results40]; (try go_simp); rfl
          · exact congrArg (fun z => Ending.returned (enVE z)) HF.out.symm
          · exact set3 hB3 (by omega) _ _ _
      · exact absurd (show op = 19 by simpa using h19) h190
    · have HF := Aside0.mk (show seq2 op (p, er) (q, er2) = (z30, er2) from (by have hE := HE0.out; have hE2 : er2 ≠ 0 := (by simpa using he2); simp [seq2, hE, hE2]))
      go_enter Try.func40, Try.ntmps40
      go_wp2_with fail
      go_quiet ((first | (go_at_call 106; exact quiet_eq (parts_calls _ _)) | (go_at_call 107; exact quiet_eq (sum_calls _ _))))
      go_wp2_with fail
      refine wp_loop_rounds 3 ?_
      rw [rounds_succ]
      go_wp2_with (first | (go_at_call 40; refine (HI.out _ _ _ ?_ hl ?_).mono ?_; (refine Kd.C_below HC.out ?_; repeat (first | assumption | exact Below.refl _ _ | apply below_alloc | apply pw_below_drewN | apply below_drew1 | (refine setC ?_ (by omega) _))); (refine Kd.C_below HR.out ?_; repeat (first | assumption | exact Below.refl _ _ | apply below_alloc | apply pw_below_drewN | apply below_drew1 | (refine setC ?_ (by omega) _))); rintro e w2 ⟨rfl, hb1⟩; have hB1 : Below w.heap.size w w2 := (by refine belT ?_ hb1; repeat (first | assumption | exact Below.refl _ _ | apply below_alloc | apply pw_below_drewN | apply below_drew1 | (refine setC ?_ (by omega) _))); obtain ⟨hc1, hf1⟩ := bcell hb1; have hz1 := hb1.size; (simp at hz1); obtain ⟨z0, z1, z2, z3, z4, z5, z6⟩ := lt_chain6 (show w.heap.size < w2.heap.size by omega); obtain ⟨y0, y1, y2, y3, y4, y5, y6⟩ := lt_chain6 (show w.heap.size + 1 < w2.heap.size by omega); obtain ⟨x0, x1, x2, x3, x4, x5, x6⟩ := lt_chain6 (show w.heap.size + 1 + 1 < w2.heap.size by omega); obtain ⟨m0, m1, m2, m3, m4, m5, m6⟩ := lt_chain6 (show ad.block < w2.heap.size by omega)))
      rw [rounds_succ]
      go_wp2_with (first | (go_at_call 40; refine (HI2.out _ _ _ ?_ hl2 ?_).mono ?_; (refine Kd.C_below HC2.out ?_; repeat (first | assumption | exact Below.refl _ _ | apply below_alloc | apply pw_below_drewN | apply below_drew1 | (refine setC ?_ (by omega) _))); (refine Kd.C_below HR.out ?_; repeat (first | assumption | exact Below.refl _ _ | apply below_alloc | apply pw_below_drewN | apply below_drew1 | (refine setC ?_ (by omega) _))); rintro e w4 ⟨rfl, hb2⟩; have hB2 : Below w.heap.size w w4 := (by refine belT ?_ hb2; repeat (first | assumption | exact Below.refl _ _ | apply below_alloc | apply pw_below_drewN | apply below_drew1 | (refine setC ?_ (by omega) _))); obtain ⟨hc2, hf2⟩ := bcell hb2; have hz2 := hb2.size; (simp at hz2); obtain ⟨u0, u1, u2, u3, u4, u5, u6⟩ := lt_chain6 (show w.heap.size < w4.heap.size by omega); obtain ⟨v0, v1, v2, v3, v4, v5, v6⟩ := lt_chain6 (show w.heap.size + 1 < w4.heap.size by omega); obtain ⟨s0, s1, s2, s3, s4, s5, s6⟩ := lt_chain6 (show w.heap.size + 1 + 1 < w4.heap.size by omega); obtain ⟨n0, n1, n2, n3, n4, n5, n6⟩ := lt_chain6 (show ad.block < w4.heap.size by omega)))
      refine ret_ex rfl ?_
      apply Exists.intro
      refine ⟨?_, ?_, ?_⟩
      · simp [results, Try.results40]; (try go_simp); rfl
      · exact congrArg (fun z => Ending.returned (enVE z)) HF.out.symm
      · repeat (first | assumption | exact Below.refl _ _ | apply below_alloc | apply pw_below_drewN | apply below_drew1 | (refine setC ?_ (by omega) _))
  · have HF := Aside0.mk (show seq2 op (p, er) (q, er2) = (z30, er) from (by have hE : er ≠ 0 := (by simpa using he); simp [seq2, hE]))
    go_enter Try.func40, Try.ntmps40
    go_wp2_with fail
    go_quiet ((first | (go_at_call 106; exact quiet_eq (parts_calls _ _)) | (go_at_call 107; exact quiet_eq (sum_calls _ _))))
    go_wp2_with fail
    refine wp_loop_rounds 3 ?_
    rw [rounds_succ]
    go_wp2_with (first | (go_at_call 40; refine (HI.out _ _ _ ?_ hl ?_).mono ?_; (refine Kd.C_below HC.out ?_; repeat (first | assumption | exact Below.refl _ _ | apply below_alloc | apply pw_below_drewN | apply below_drew1 | (refine setC ?_ (by omega) _))); (refine Kd.C_below HR.out ?_; repeat (first | assumption | exact Below.refl _ _ | apply below_alloc | apply pw_below_drewN | apply below_drew1 | (refine setC ?_ (by omega) _))); rintro e w2 ⟨rfl, hb1⟩; have hB1 : Below w.heap.size w w2 := (by refine belT ?_ hb1; repeat (first | assumption | exact Below.refl _ _ | apply below_alloc | apply pw_below_drewN | apply below_drew1 | (refine setC ?_ (by omega) _))); obtain ⟨hc1, hf1⟩ := bcell hb1; have hz1 := hb1.size; (simp at hz1); obtain ⟨z0, z1, z2, z3, z4, z5, z6⟩ := lt_chain6 (show w.heap.size < w2.heap.size by omega); obtain ⟨y0, y1, y2, y3, y4, y5, y6⟩ := lt_chain6 (show w.heap.size + 1 < w2.heap.size by omega); obtain ⟨x0, x1, x2, x3, x4, x5, x6⟩ := lt_chain6 (show w.heap.size + 1 + 1 < w2.heap.size by omega); obtain ⟨m0, m1, m2, m3, m4, m5, m6⟩ := lt_chain6 (show ad.block < w2.heap.size by omega)))
    refine ret_ex rfl ?_
    apply Exists.intro
    refine ⟨?_, ?_, ?_⟩
    · simp [results, Try.results40]; (try go_simp); rfl
    · exact congrArg (fun z => Ending.returned (enVE z)) HF.out.symm
    · repeat (first | assumption | exact Below.refl _ _ | apply below_alloc | apply pw_below_drewN | apply below_drew1 | (refine setC ?_ (by omega) _))
end Go.Proofs.Ytfneopcbnlfkiaa.Ex
