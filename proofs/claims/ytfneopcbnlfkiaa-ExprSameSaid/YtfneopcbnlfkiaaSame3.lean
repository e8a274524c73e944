/-
plenumref19.SameExprs: whether two expressions are one.
-/
import Derived.Test.YtfneopcbnlfkiaaSame2
namespace Go.Proofs.Ytfneopcbnlfkiaa.Ex
open Go.RowKit Go.Proofs.YtfneopcbnlfkiaaW.PrintWords Go.Proofs.Ytfneopcbnlfkiaa.Kin Go.Proofs.Ytfneopcbnlfkiaa.Num Go.Proofs.Ytfneopcbnlfkiaa.Base Go.Proofs.YtfneopcbnlfkiaaW.PrintLast
set_option linter.unusedVariables false
set_option linter.unusedSimpArgs false
attribute [local go_sem high] eqA30
set_option maxHeartbeats 8000000 in
set_option maxRecDepth 100000 in
theorem equals_calls (l m : List S32) (A B : Option Addr) (c d : Nat) (w : World) (ha : k32.C w A l.length l) (hb : k32.C w B m.length m)
    (ih : ∀ a ∈ l, ∀ (b : S32) (A' B' : Option Addr) (c' d' : Nat) (W : World), k32.C W A' a.f5.length a.f5 → k32.C W B' b.f5.length b.f5 → Calls Try.prog 52 #[enE a A' c', enE b B' d'] W fun e w' => e = .returned (.bool (sameE a b)) ∧ Below W.heap.size W w') :
    Calls Try.prog 120 #[.slice A l.length c, .slice B m.length d] w fun e w' => e = .returned (.bool (sameL l m)) ∧ Below w.heap.size w w' := by
  have hu := Try.underlying30
  have hu32 := Try.underlying32
  have hmax := Kd.C_max ha
  have hmax2 := Kd.C_max hb
  have HA := Aside0.mk ha
  have HB := Aside0.mk hb
  have IH := Aside0.mk ih
  clear ha hb ih
  by_cases hn : l.length = m.length
  · have hn' : ((l.length : Int) != (m.length : Int)) = false := by simp [hn]
    have HN := Aside0.mk hn
    clear hn
    go_enter Try.func120, Try.ntmps120
    go_wp2_with fail
    clear hn'
    go_loopg [13] l.length (fun k s13 wr => ∃ i : Nat, s13 = .int .i64 i ∧ i + k = l.length ∧ Aside0 (l.take i = m.take i) ∧ Below w.heap.size w wr)
    · exact ⟨0, rfl, by omega, ⟨by simp⟩, Below.refl _ _⟩
    · obtain ⟨i, rfl, hi, ht, hB⟩ := hrel
      by_cases hlt : i < l.length
      · have hlt2 : i < m.length := by have := HN.out; omega
        obtain ⟨ad, A7, c7, rfl, g0, g1, g2, g3, g4, g5, g6, g7, hl7, gA⟩ := at_T32 (Kd.C_below HA.out hB) i (by omega) (by omega)
        obtain ⟨bd, B7, d7, rfl, k0, k1, k2, k3, k4, k5, k6, k7, hm7, gB⟩ := at_T32 (Kd.C_below HB.out hB) i (by omega) (by omega)
        simp only [Int.toNat_natCast] at g0 g1 g2 g3 g4 g5 g6 g7 k0 k1 k2 k3 k4 k5 k6 k7
        obtain ⟨q0, q1, q2, q3, q4, q5, q6⟩ := lt_chain6 (World.block_lt_of_cell? wr _ g0)
        obtain ⟨p0, p1, p2, p3, p4, p5, p6⟩ := lt_chain6 (World.block_lt_of_cell? wr _ k0)
        have HI := Aside0.mk hi
        have GA0 := Aside0.mk gA
        have GB0 := Aside0.mk gB
        have hm : Aside0 (rd_T32 l i ∈ l) := Aside0.mk (by rw [show rd_T32 l i = l[i] from by simp [rd_T32, hlt]]; exact List.getElem_mem hlt)
        clear hi gA gB
        go_wp2_with fail
        refine startG (n := 10) (S := (fun w' => Below w.heap.size w w' ∧ Below wr.heap.size wr w' ∧ (ad.add (i * 8)).block < w'.heap.size ∧ (bd.add (i * 8)).block < w'.heap.size ∧ w'.cell? (ad.add (i * 8)) = some (.int .i64 (rd_T32 l ↑i).f0) ∧ w'.cell? ⟨(ad.add (i * 8)).block, (ad.add (i * 8)).off + 1, none⟩ = some (.string (rd_T32 l ↑i).f1) ∧ w'.cell? ⟨(ad.add (i * 8)).block, (ad.add (i * 8)).off + 2, none⟩ = some (.string (rd_T32 l ↑i).f2) ∧ w'.cell? ⟨(ad.add (i * 8)).block, (ad.add (i * 8)).off + 3, none⟩ = some (.int .i64 (rd_T32 l ↑i).f3) ∧ w'.cell? ⟨(ad.add (i * 8)).block, (ad.add (i * 8)).off + 4, none⟩ = some (.int .i64 (rd_T32 l ↑i).f4.f0) ∧ w'.cell? ⟨(ad.add (i * 8)).block, (ad.add (i * 8)).off + 5, none⟩ = some (.int .i64 (rd_T32 l ↑i).f4.f1) ∧ w'.cell? ⟨(ad.add (i * 8)).block, (ad.add (i * 8)).off + 6, none⟩ = some (.string (rd_T32 l ↑i).f4.f2) ∧ w'.cell? ⟨(ad.add (i * 8)).block, (ad.add (i * 8)).off + 7, none⟩ = some (.slice A7 (rd_T32 l ↑i).f5.length c7) ∧ w'.cell? (bd.add (i * 8)) = some (.int .i64 (rd_T32 m ↑i).f0) ∧ w'.cell? ⟨(bd.add (i * 8)).block, (bd.add (i * 8)).off + 1, none⟩ = some (.string (rd_T32 m ↑i).f1) ∧ w'.cell? ⟨(bd.add (i * 8)).block, (bd.add (i * 8)).off + 2, none⟩ = some (.string (rd_T32 m ↑i).f2) ∧ w'.cell? ⟨(bd.add (i * 8)).block, (bd.add (i * 8)).off + 3, none⟩ = some (.int .i64 (rd_T32 m ↑i).f3) ∧ w'.cell? ⟨(bd.add (i * 8)).block, (bd.add (i * 8)).off + 4, none⟩ = some (.int .i64 (rd_T32 m ↑i).f4.f0) ∧ w'.cell? ⟨(bd.add (i * 8)).block, (bd.add (i * 8)).off + 5, none⟩ = some (.int .i64 (rd_T32 m ↑i).f4.f1) ∧ w'.cell? ⟨(bd.add (i * 8)).block, (bd.add (i * 8)).off + 6, none⟩ = some (.string (rd_T32 m ↑i).f4.f2) ∧ w'.cell? ⟨(bd.add (i * 8)).block, (bd.add (i * 8)).off + 7, none⟩ = some (.slice B7 (rd_T32 m ↑i).f5.length d7))) (ds := []) #[false, false, false, false, false, false, false, false, false, false] (by kernel_rfl) rfl rfl ?_ (fun wq hS => ?_)
        · refine ⟨?_, ?_, ?_, ?_, ?_, ?_, ?_, ?_, ?_, ?_, ?_, ?_, ?_, ?_, ?_, ?_, ?_, ?_, ?_, ?_⟩; (repeat (first | assumption | exact Below.refl _ _ | apply below_drew1 | apply pw_below_drewN)); all_goals (first | exact q0 | exact p0 | assumption | go_simp)
        refine pure_ (i := 0) (N := (some 16)) (v := ?_) (a' := ?_) #[true, false, false, false, false, false, false, false, false, false] rfl rfl (by kernel_rfl) (fun _ _ _ h => h) (Or.inl ⟨by rfl, ?_⟩) ?_ ?_
        rotate_left
        · intro w'
          go_simp
          with_reducible rfl
        rotate_left
        · simp only [Act.put, List.setIfInBounds_toArray, List.set_cons_zero, List.set_cons_succ, i64_w, i32_w]
          rfl
        refine pure_ (i := 1) (N := (some 17)) (v := ?_) (a' := ?_) #[true, true, false, false, false, false, false, false, false, false] rfl rfl (by kernel_rfl) (fun _ _ _ h => h) (Or.inl ⟨by rfl, ?_⟩) ?_ ?_
        rotate_left
        · intro w'
          go_simp
          with_reducible rfl
        rotate_left
        · simp only [Act.put, List.setIfInBounds_toArray, List.set_cons_zero, List.set_cons_succ, i64_w, i32_w]
          rfl
        refine pure_ (i := 2) (N := (some 18)) (v := ?_) (a' := ?_) #[true, true, true, false, false, false, false, false, false, false] rfl rfl (by kernel_rfl) (fun _ _ _ h => h) (Or.inl ⟨by rfl, ?_⟩) ?_ ?_
        rotate_left
        · intro w'
          go_simp
          with_reducible rfl
        rotate_left
        · simp only [Act.put, List.setIfInBounds_toArray, List.set_cons_zero, List.set_cons_succ, i64_w, i32_w]
          rfl
        refine take_ (i := 3) (N := (some 19)) (v := ?_) (a' := ?_) #[true, true, true, true, false, false, false, false, false, false] rfl rfl (by kernel_rfl) (fun _ _ _ h => h) (Or.inl ⟨by rfl, ?_⟩) hS ?_ ?_
        rotate_left
        · rintro w' ⟨hB, hBr, gl, kl, g0, g1, g2, g3, g4, g5, g6, g7, k0, k1, k2, k3, k4, k5, k6, k7⟩
          go_simp
          with_reducible rfl
        rotate_left
        · simp only [Act.put, List.setIfInBounds_toArray, List.set_cons_zero, List.set_cons_succ, i64_w, i32_w]
          rfl
        refine pure_ (i := 4) (N := (some 20)) (v := ?_) (a' := ?_) #[true, true, true, true, true, false, false, false, false, false] rfl rfl (by kernel_rfl) (fun _ _ _ h => h) (Or.inl ⟨by rfl, ?_⟩) ?_ ?_
        rotate_left
        · intro w'
          go_simp
          with_reducible rfl
        rotate_left
        · simp only [Act.put, List.setIfInBounds_toArray, List.set_cons_zero, List.set_cons_succ, i64_w, i32_w]
          rfl
        refine pure_ (i := 5) (N := (some 21)) (v := ?_) (a' := ?_) #[true, true, true, true, true, true, false, false, false, false] rfl rfl (by kernel_rfl) (fun _ _ _ h => h) (Or.inl ⟨by rfl, ?_⟩) ?_ ?_
        rotate_left
        · intro w'
          go_simp
          with_reducible rfl
        rotate_left
        · simp only [Act.put, List.setIfInBounds_toArray, List.set_cons_zero, List.set_cons_succ, i64_w, i32_w]
          rfl
        refine pure_ (i := 6) (N := (some 22)) (v := ?_) (a' := ?_) #[true, true, true, true, true, true, true, false, false, false] rfl rfl (by kernel_rfl) (fun _ _ _ h => h) (Or.inl ⟨by rfl, ?_⟩) ?_ ?_
        rotate_left
        · intro w'
          go_simp
          with_reducible rfl
        rotate_left
        · simp only [Act.put, List.setIfInBounds_toArray, List.set_cons_zero, List.set_cons_succ, i64_w, i32_w]
          rfl
        refine take_ (i := 7) (N := (some 23)) (v := ?_) (a' := ?_) #[true, true, true, true, true, true, true, true, false, false] rfl rfl (by kernel_rfl) (fun _ _ _ h => h) (Or.inl ⟨by rfl, ?_⟩) hS ?_ ?_
        rotate_left
        · rintro w' ⟨hB, hBr, gl, kl, g0, g1, g2, g3, g4, g5, g6, g7, k0, k1, k2, k3, k4, k5, k6, k7⟩
          go_simp
          with_reducible rfl
        rotate_left
        · simp only [Act.put, List.setIfInBounds_toArray, List.set_cons_zero, List.set_cons_succ, i64_w, i32_w]
          rfl
        refine one_ (i := 8) (N := (some 24)) #[true, true, true, true, true, true, true, true, true, false] rfl rfl (by kernel_rfl) (by decide) (fun K hK => ?_)
        obtain ⟨hB, hBr, gl, kl, g0, g1, g2, g3, g4, g5, g6, g7, k0, k1, k2, k3, k4, k5, k6, k7⟩ := hS
        refine goes_ Try.func52 (by kernel_rfl) rfl #[enE (rd_T32 l i) A7 c7, enE (rd_T32 m i) B7 d7] (by rfl) rfl rfl (by (try simp only [List.map_toArray, List.map_cons, List.map_nil]); first | done | rfl) ?_
        refine (IH.out _ hm.out (rd_T32 m i) _ _ _ _ _ (Kd.C_below GA0.out hBr) (Kd.C_below GB0.out hBr)).mono ?_
        rintro e w2 ⟨rfl, hb⟩
        have hz_ := hb.size
        have hz1_ := hB.size
        have hz2_ := hBr.size
        refine ⟨_, rfl, hK.out _ _ ⟨hB.trans (hb.mono (by omega)), hBr.trans (hb.mono (by omega)), (by omega : _ < _), (by omega : _ < _), (hb.cell (p := ad.add (i * 8)) (by omega)).trans g0, cellB hb (by omega) g1, cellB hb (by omega) g2, cellB hb (by omega) g3, cellB hb (by omega) g4, cellB hb (by omega) g5, cellB hb (by omega) g6, cellB hb (by omega) g7, (hb.cell (p := bd.add (i * 8)) (by omega)).trans k0, cellB hb (by omega) k1, cellB hb (by omega) k2, cellB hb (by omega) k3, cellB hb (by omega) k4, cellB hb (by omega) k5, cellB hb (by omega) k6, cellB hb (by omega) k7⟩ (fun hS => ?_)⟩
        clear hK K hb hz_ hB hBr gl kl g0 g1 g2 g3 g4 g5 g6 g7 k0 k1 k2 k3 k4 k5 k6 k7
        skip
        refine pure_ (i := 9) (N := (some 25)) (v := ?_) (a' := ?_) #[true, true, true, true, true, true, true, true, true, true] rfl rfl (by kernel_rfl) (fun _ _ _ h => h) (Or.inl ⟨by rfl, ?_⟩) ?_ ?_
        rotate_left
        · intro w'
          go_simp
          with_reducible rfl
        rotate_left
        · simp only [Act.put, List.setIfInBounds_toArray, List.set_cons_zero, List.set_cons_succ, i64_w, i32_w]
          rfl
        refine done_ (by kernel_rfl) ?_
        obtain ⟨hB, hBr, gl, kl, g0, g1, g2, g3, g4, g5, g6, g7, k0, k1, k2, k3, k4, k5, k6, k7⟩ := hS
        have hB2 : Below w.heap.size w w2 := hB
        cases hs : sameE (rd_T32 l i) (rd_T32 m i)
        · have hne : sameL l m = false := by
            refine sameL_false (fun e => ?_)
            subst e
            rw [sameE_iff.2 rfl] at hs
            cases hs
          go_wp2
          refine ret_ex rfl ?_
          apply Exists.intro
          refine ⟨?_, ?_, ?_⟩
          · simp [results, Try.results120]; rfl
          · rw [hne]
          · exact hB2
        · have hq := take_next hlt hlt2 ht.out (sameE_iff.1 hs)
          have HQ := Aside0.mk hq
          clear hq
          go_wp2
          go_roundg (gk - 1)
          · exact ⟨i + 1, by simp, by have := HI.out; omega, HQ, hB2⟩
          · have := HI.out; omega
      · have he : sameL l m = true := by
          refine sameL_iff.2 ?_
          have e1 := ht.out
          rw [List.take_of_length_le (by omega), List.take_of_length_le (by have := HN.out; omega)] at e1
          exact e1
        go_wp2
        refine ret_ex rfl ?_
        apply Exists.intro
        refine ⟨?_, ?_, ?_⟩
        · simp [results, Try.results120]; rfl
        · rw [he]
        · exact hB
  · have hn' : ((l.length : Int) != (m.length : Int)) = true := by simp; omega
    have he : sameL l m = false := sameL_false (fun e => hn (by rw [e]))
    clear hn
    go_enter Try.func120, Try.ntmps120
    go_wp2
    refine ret_ex rfl ?_
    apply Exists.intro
    refine ⟨?_, ?_, ?_⟩
    · simp [results, Try.results120]; rfl
    · rw [he]
    · exact Below.refl _ _
end Go.Proofs.Ytfneopcbnlfkiaa.Ex
