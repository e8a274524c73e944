/-
plenumlaw22.ExprTyped returns true.
-/
import Derived.Test.YtfneopcbnlfkiaaTyP
import Derived.Deep.LoopGhost
import Derived.Deep.QuietTactic
import Derived.BigQuiet
namespace Go.Proofs.Ytfneopcbnlfkiaa.Ex
open Go.RowKit Go.Proofs.YtfneopcbnlfkiaaW.PrintWords Go.Proofs.Ytfneopcbnlfkiaa.Kin Go.Proofs.Ytfneopcbnlfkiaa.Num Go.Proofs.Ytfneopcbnlfkiaa.Base Go.Proofs.YtfneopcbnlfkiaaW.PrintLast
set_option linter.unusedVariables false
set_option linter.unusedSimpArgs false
theorem mem_rd85 {l : List S85} {i : Nat} (h : i < l.length) : rd_T85 l i ∈ l := List.mem_of_getElem? (rd85_get h)
theorem all_next {l : List S85} {i : Nat} {p : S85 → Prop} (h : i < l.length) (ht : ∀ s ∈ l.take i, p s) (hp : p (rd_T85 l i)) : ∀ s ∈ l.take (i + 1), p s := fun s hs => by
  rw [List.take_add_one, rd85_get h] at hs
  rcases List.mem_append.1 hs with h1 | h1
  · exact ht s h1
  · obtain rfl : s = rd_T85 l i := by simpa using h1
    exact hp
theorem any_next {l : List S85} {i : Nat} {p : S85 → Bool} (h : i < l.length) : (l.take (i + 1)).any p = ((l.take i).any p || p (rd_T85 l i)) := by
  rw [List.take_add_one, rd85_get h]; simp
theorem ball_next {n : Nat} {p : Nat → Prop} (h : ∀ j, j < n → p j) (hn : p n) : ∀ j, j < n + 1 → p j := fun j hj => by
  rcases Nat.lt_or_ge j n with h1 | h1
  · exact h j h1
  · obtain rfl : j = n := by omega
    exact hn
set_option maxHeartbeats 8000000 in
set_option maxRecDepth 100000 in
theorem exprtyped_calls (l : List S85) (A0 : Option Addr) (c0 : Nat) (x : S32) (A : Option Addr) (c : Nat) (rs : List S30) (Ar : Option Addr) (cr : Nat) (w : World) (hl : k85.C w A0 l.length l) (ha : k32.C w A x.f5.length x.f5) (hr : k30.C w Ar rs.length rs) :
    Calls Try.prog 13 #[.slice A0 l.length c0, enE x A c, .slice Ar rs.length cr] w fun e w' => e = .returned (.bool true) ∧ Below w.heap.size w w' := by
  have hu := Try.underlying30
  have hu32 := Try.underlying32
  have hmax := Kd.C_max hl
  have hmaxr := Kd.C_max hr
  have HA := Aside0.mk ha
  have HL := Aside0.mk hl
  have HR := Aside0.mk hr
  clear ha hl hr
  go_enter Try.func13, Try.ntmps13
  go_wp2_with fail
  refine (awake_calls _).mono ?_
  rintro e w1 ⟨rfl, hb1⟩
  have hB1 : Below w.heap.size w w1 := (by refine belT ?_ hb1; repeat (first | (with_reducible assumption) | (with_reducible exact Below.refl _ _) | (with_reducible apply below_alloc) | (with_reducible apply pw_below_drewN) | (with_reducible apply below_drew1) | ((with_reducible refine setC ?_ ?_ _); rotate_left; omega)))
  have b1 := Aside0.mk (show w1.heap[w.heap.size]? = some (O32 x (.slice A x.f5.length c)) from blk_below (by repeat (first | (with_reducible assumption) | ((with_reducible refine blk_new ?_); (first | rfl | (simp; done))) | (with_reducible refine blk_alloc ?_ _) | (with_reducible refine blk_drewN ?_ _) | (with_reducible refine blk_drew ?_) | ((with_reducible refine blk_far ?_ ?_ _); rotate_left; (first | (simp; omega) | (simp; done))))) hb1)
  go_wp2_with fail
  refine (scoped_calls l A0 c0 _ (Kd.C_below HL.out hB1)).mono ?_
  rintro e w2 ⟨rfl, hb2⟩
  have hB2 : Below w.heap.size w w2 := (by refine belT ?_ hb2; repeat (first | (with_reducible assumption) | (with_reducible exact Below.refl _ _) | (with_reducible apply below_alloc) | (with_reducible apply pw_below_drewN) | (with_reducible apply below_drew1) | ((with_reducible refine setC ?_ ?_ _); rotate_left; omega)))
  have b2 := Aside0.mk (blk_below b1.out hb2)
  clear b1 hb1 hb2 hB1
  cases hsc : scopedL l
  · go_wp2
    refine ret_ex rfl ?_; apply Exists.intro; refine ⟨?_, ?_, ?_⟩; (simp [results, Try.results13]; rfl)
    · rfl
    · exact hB2
  have HSC := Aside0.mk hsc
  clear hsc
  obtain ⟨⟨t0, t1, t2, t3, t4, t5, t6, t7⟩, -, q2⟩ := box32 b2.out
  go_wp2_with fail
  refine (light_calls x A c 10 _ (Kd.C_below HA.out hB2)).mono ?_
  rintro e w3 ⟨⟨b, rfl⟩, hb3⟩
  have hB3 : Below w.heap.size w w3 := (by refine belT ?_ hb3; repeat (first | (with_reducible assumption) | (with_reducible exact Below.refl _ _) | (with_reducible apply below_alloc) | (with_reducible apply pw_below_drewN) | (with_reducible apply below_drew1) | ((with_reducible refine setC ?_ ?_ _); rotate_left; omega)))
  have b3 := Aside0.mk (blk_below b2.out hb3)
  clear t0 t1 t2 t3 t4 t5 t6 t7 q2 b2 hb3 hB2
  cases b
  · go_wp2
    refine ret_ex rfl ?_; apply Exists.intro; refine ⟨?_, ?_, ?_⟩; (simp [results, Try.results13]; rfl)
    · rfl
    · exact hB3
  go_wp2_with fail
  refine (fewL_calls rs Ar cr _ (Kd.C_below HR.out hB3)).mono ?_
  rintro e w4 ⟨rfl, hb4⟩
  have hB4 : Below w.heap.size w w4 := (by refine belT ?_ hb4; repeat (first | (with_reducible assumption) | (with_reducible exact Below.refl _ _) | (with_reducible apply below_alloc) | (with_reducible apply pw_below_drewN) | (with_reducible apply below_drew1) | ((with_reducible refine setC ?_ ?_ _); rotate_left; omega)))
  have b4 := Aside0.mk (blk_below b3.out hb4)
  clear b3 hb4 hB3
  cases hfw : fewL rs
  · go_wp2
    refine ret_ex rfl ?_; apply Exists.intro; refine ⟨?_, ?_, ?_⟩; (simp [results, Try.results13]; rfl)
    · rfl
    · exact hB4
  have hlen : rs.length ≤ 20 := by simp only [fewL, Bool.and_eq_true, decide_eq_true_iff] at hfw; exact hfw.2
  clear hfw
  go_wp2_with fail
  go_loopg [41] l.length (fun k s41 wr => ∃ i : Nat, s41 = .int .i64 i ∧ i + k = l.length ∧ Aside0 (∀ s ∈ l.take i, colsOk rs s) ∧ Aside0 (wr.heap[w.heap.size]? = some (O32 x (.slice A x.f5.length c))) ∧ Below w.heap.size w wr)
  · exact ⟨0, rfl, by omega, ⟨by simp⟩, b4, hB4⟩
  · obtain ⟨i, rfl, hi, ht, b5, hB⟩ := hrel
    by_cases hlt : i < l.length
    · obtain ⟨ad, A3, c3, A5, c5, rfl, g0, g1, g2, g3, g4, g5, g6, hl3, gA, hl5, gB⟩ := at_T85 (Kd.C_below HL.out hB) i (by omega) (by omega)
      simp only [Int.toNat_natCast] at g0 g1 g2 g3 g4 g5 g6
      have HI := Aside0.mk hi
      have GA := Aside0.mk gA
      have hmx := Kd.C_max gA
      have q1 := World.block_lt_of_cell? wr _ g0
      obtain ⟨m1, m2, m3⟩ := scoped_mem HSC.out (mem_rd85 hlt)
      clear hi gA gB
      obtain ⟨wo, rfl⟩ : ∃ wo : World, wo = wr := ⟨_, rfl⟩
      obtain ⟨ko, rfl⟩ : ∃ ko : Nat, ko = gk := ⟨_, rfl⟩
      go_wp2_with fail
      go_loopg [49] (rd_T85 l i).f1.f2.length (fun k s49 wq => ∃ j : Nat, s49 = .int .i64 j ∧ j + k = (rd_T85 l i).f1.f2.length ∧ Aside0 (∀ j', j' < j → colOk rs (rd_T85 l i) j') ∧ Below wo.heap.size wo wq ∧ wo.heap.size < wq.heap.size ∧ wq.cell? ⟨wo.heap.size, 3, none⟩ = some (.slice A3 (rd_T85 l i).f1.f2.length c3) ∧ wq.cell? ⟨wo.heap.size, 6, none⟩ = some (.int .i64 (rd_T85 l i).f2))
      · exact ⟨0, rfl, by omega, ⟨fun j h => absurd h (by omega)⟩, (by repeat (first | (with_reducible assumption) | (with_reducible exact Below.refl _ _) | (with_reducible apply below_alloc) | (with_reducible apply pw_below_drewN) | (with_reducible apply below_drew1) | ((with_reducible refine setC ?_ ?_ _); rotate_left; omega))), by simp, by go_simp, by go_simp⟩
      · obtain ⟨j, rfl, hj, htj, hBr, hlt1, h3, h6⟩ := hrel
        have hBw : Below w.heap.size w wr := belT hB hBr
        by_cases hjl : j < (rd_T85 l i).f1.f2.length
        · obtain ⟨bd, rfl, k0, k1, k2⟩ := at_T87 (Kd.C_below GA.out hBr) j (by omega) (by omega)
          simp only [Int.toNat_natCast] at k0 k1 k2
          have HJ := Aside0.mk hj
          have q2 := World.block_lt_of_cell? wr _ k0
          clear hj
          have hxa : Aside0 (colOk rs (rd_T85 l i) j ↔ ((rd_T85 l i).f2 + j < rs.length → (rd_T30 rs ((rd_T85 l i).f2 + j)).f0 = 0 ∨ (rd_T30 rs ((rd_T85 l i).f2 + j)).f0 = (rd_T87 (rd_T85 l i).f1.f2 j).f1)) := ⟨Iff.rfl⟩
          by_cases e1 : (rd_T85 l i).f2 + (j : Int) < (rs.length : Int)
          · obtain ⟨rd, rfl, r0, r1, r2⟩ := at_T30 (Kd.C_below HR.out hBw) ((rd_T85 l i).f2 + j) (by omega) (by omega)
            have d1 : decide ((rd_T85 l i).f2 + (j : Int) < (rs.length : Int)) = true := by simpa using e1
            have p1 : 0 ≤ (rd_T85 l i).f2 + (j : Int) := by omega
            have q3 := World.block_lt_of_cell? wr _ r0
            cases e2 : ((rd_T30 rs ((rd_T85 l i).f2 + j)).f0 == 0)
            · cases e3 : ((rd_T30 rs ((rd_T85 l i).f2 + j)).f0 == (rd_T87 (rd_T85 l i).f1.f2 j).f1)
              · have e2' : ((rd_T30 rs ((rd_T85 l i).f2 + j)).f0 != 0) = true := by simp only [bne, e2, Bool.not_false]
                have e3' : ((rd_T30 rs ((rd_T85 l i).f2 + j)).f0 != (rd_T87 (rd_T85 l i).f1.f2 j).f1) = true := by simp only [bne, e3, Bool.not_false]
                go_wp2_with fail
                go_quiet (fail)
                go_wp2
                refine ret_ex rfl ?_; apply Exists.intro; refine ⟨?_, ?_, ?_⟩; (simp [results, Try.results13]; rfl)
                · rfl
                · repeat (first | (with_reducible assumption) | (with_reducible exact Below.refl _ _) | (with_reducible apply below_alloc) | (with_reducible apply pw_below_drewN) | (with_reducible apply below_drew1) | ((with_reducible refine setC ?_ ?_ _); rotate_left; omega))
              · have e2' : ((rd_T30 rs ((rd_T85 l i).f2 + j)).f0 != 0) = true := by simp only [bne, e2, Bool.not_false]
                have e3' : ((rd_T30 rs ((rd_T85 l i).f2 + j)).f0 != (rd_T87 (rd_T85 l i).f1.f2 j).f1) = false := by simp only [bne, e3, Bool.not_true]
                have HC := Aside0.mk (hxa.out.2 (fun _ => Or.inr (by simpa using e3)))
                go_wp2_with fail
                go_quiet (fail)
                go_wp2
                go_roundg (gk - 1)
                · exact ⟨j + 1, by simp, by have := HJ.out; omega, ⟨ball_next htj.out HC.out⟩, (by repeat (first | (with_reducible assumption) | (with_reducible exact Below.refl _ _) | (with_reducible apply below_alloc) | (with_reducible apply pw_below_drewN) | (with_reducible apply below_drew1) | ((with_reducible refine setC ?_ ?_ _); rotate_left; omega))), by simp; omega, cellB (W := wr) (by repeat (first | (with_reducible assumption) | (with_reducible exact Below.refl _ _) | (with_reducible apply below_alloc) | (with_reducible apply pw_below_drewN) | (with_reducible apply below_drew1) | ((with_reducible refine setC ?_ ?_ _); rotate_left; omega))) (by omega) h3, cellB (W := wr) (by repeat (first | (with_reducible assumption) | (with_reducible exact Below.refl _ _) | (with_reducible apply below_alloc) | (with_reducible apply pw_below_drewN) | (with_reducible apply below_drew1) | ((with_reducible refine setC ?_ ?_ _); rotate_left; omega))) (by omega) h6⟩
                · have := HJ.out; omega
            · have e2' : ((rd_T30 rs ((rd_T85 l i).f2 + j)).f0 != 0) = false := by simp only [bne, e2, Bool.not_true]
              have HC := Aside0.mk (hxa.out.2 (fun _ => Or.inl (by simpa using e2)))
              go_wp2_with fail
              go_quiet (fail)
              go_wp2
              go_roundg (gk - 1)
              · exact ⟨j + 1, by simp, by have := HJ.out; omega, ⟨ball_next htj.out HC.out⟩, (by repeat (first | (with_reducible assumption) | (with_reducible exact Below.refl _ _) | (with_reducible apply below_alloc) | (with_reducible apply pw_below_drewN) | (with_reducible apply below_drew1) | ((with_reducible refine setC ?_ ?_ _); rotate_left; omega))), by simp; omega, cellB (W := wr) (by repeat (first | (with_reducible assumption) | (with_reducible exact Below.refl _ _) | (with_reducible apply below_alloc) | (with_reducible apply pw_below_drewN) | (with_reducible apply below_drew1) | ((with_reducible refine setC ?_ ?_ _); rotate_left; omega))) (by omega) h3, cellB (W := wr) (by repeat (first | (with_reducible assumption) | (with_reducible exact Below.refl _ _) | (with_reducible apply below_alloc) | (with_reducible apply pw_below_drewN) | (with_reducible apply below_drew1) | ((with_reducible refine setC ?_ ?_ _); rotate_left; omega))) (by omega) h6⟩
              · have := HJ.out; omega
          · have d1 : decide ((rd_T85 l i).f2 + (j : Int) < (rs.length : Int)) = false := by simpa using e1
            have HC := Aside0.mk (hxa.out.2 (fun h => absurd h e1))
            clear e1
            go_wp2_with fail
            go_quiet (fail)
            go_wp2
            go_roundg (gk - 1)
            · exact ⟨j + 1, by simp, by have := HJ.out; omega, ⟨ball_next htj.out HC.out⟩, (by repeat (first | (with_reducible assumption) | (with_reducible exact Below.refl _ _) | (with_reducible apply below_alloc) | (with_reducible apply pw_below_drewN) | (with_reducible apply below_drew1) | ((with_reducible refine setC ?_ ?_ _); rotate_left; omega))), by simp; omega, cellB (W := wr) (by repeat (first | (with_reducible assumption) | (with_reducible exact Below.refl _ _) | (with_reducible apply below_alloc) | (with_reducible apply pw_below_drewN) | (with_reducible apply below_drew1) | ((with_reducible refine setC ?_ ?_ _); rotate_left; omega))) (by omega) h3, cellB (W := wr) (by repeat (first | (with_reducible assumption) | (with_reducible exact Below.refl _ _) | (with_reducible apply below_alloc) | (with_reducible apply pw_below_drewN) | (with_reducible apply below_drew1) | ((with_reducible refine setC ?_ ?_ _); rotate_left; omega))) (by omega) h6⟩
            · have := HJ.out; omega
        · have HC : Aside0 (colsOk rs (rd_T85 l i)) := ⟨fun j' hj' => htj.out j' (by omega)⟩
          clear htj
          obtain ⟨wq, rfl⟩ : ∃ wq : World, wq = wr := ⟨_, rfl⟩
          have n3 : Aside0 (∀ s ∈ l.take (i + 1), colsOk rs s) := ⟨all_next hlt ht.out HC.out⟩
          have b6 := Aside0.mk (blk_below b5.out hBr)
          clear HC g0 g1 g2 g3 g4 g5 g6 hj
          go_wp2_with fail
          go_loopg [83] l.length (fun k s83 wp => ∃ u : Nat, s83 = .int .i64 u ∧ u + k = l.length ∧ Below wq.heap.size wq wp)
          · exact ⟨0, rfl, by omega, (by repeat (first | (with_reducible assumption) | (with_reducible exact Below.refl _ _) | (with_reducible apply below_alloc) | (with_reducible apply pw_below_drewN) | (with_reducible apply below_drew1) | ((with_reducible refine setC ?_ ?_ _); rotate_left; omega)))⟩
          · obtain ⟨u, rfl, hu', hBq⟩ := hrel
            have hBv : Below w.heap.size w wr := belT hBw hBq
            have h3' := cellB hBq (by omega) h3
            have h6' := cellB hBq (by omega) h6
            have hlt2 : wo.heap.size < wr.heap.size := by have := hBq.size; omega
            by_cases hlu : u < l.length
            · obtain ⟨bd, A3', c3', A5', c5', he, k0, k1, k2, k3, k4, k5, k6, hk3, kA, hk5, kB⟩ := at_T85 (Kd.C_below HL.out hBv) u (by omega) (by omega)
              cases he
              simp only [Int.toNat_natCast] at k0 k1 k2 k3 k4 k5 k6
              have HU := Aside0.mk hu'
              have q3 := World.block_lt_of_cell? wr _ k0
              obtain ⟨o1, o2, o3⟩ := scoped_mem HSC.out (mem_rd85 hlu)
              clear hu' kA kB
              cases e1 : ((rd_T85 l u).f2 == (rd_T85 l i).f2)
              · have e1' : ((rd_T85 l u).f2 != (rd_T85 l i).f2) = true := by simp only [bne, e1, Bool.not_false]
                by_cases e2 : (rd_T85 l u).f2 < (rd_T85 l i).f2 + ((rd_T85 l i).f1.f2.length : Int)
                · have d2 : decide ((rd_T85 l u).f2 < (rd_T85 l i).f2 + ((rd_T85 l i).f1.f2.length : Int)) = true := by simpa using e2
                  by_cases e3 : (rd_T85 l i).f2 < (rd_T85 l u).f2 + ((rd_T85 l u).f1.f2.length : Int)
                  · have d3 : decide ((rd_T85 l i).f2 < (rd_T85 l u).f2 + ((rd_T85 l u).f1.f2.length : Int)) = true := by simpa using e3
                    clear e2 e3
                    go_wp2
                    refine ret_ex rfl ?_; apply Exists.intro; refine ⟨?_, ?_, ?_⟩; (simp [results, Try.results13]; rfl)
                    · rfl
                    · repeat (first | (with_reducible assumption) | (with_reducible exact Below.refl _ _) | (with_reducible apply below_alloc) | (with_reducible apply pw_below_drewN) | (with_reducible apply below_drew1) | ((with_reducible refine setC ?_ ?_ _); rotate_left; omega))
                  · have d3 : decide ((rd_T85 l i).f2 < (rd_T85 l u).f2 + ((rd_T85 l u).f1.f2.length : Int)) = false := by simpa using e3
                    clear e2 e3
                    go_wp2
                    go_roundg (gk - 1)
                    · exact ⟨u + 1, by simp, by have := HU.out; omega, (by repeat (first | (with_reducible assumption) | (with_reducible exact Below.refl _ _) | (with_reducible apply below_alloc) | (with_reducible apply pw_below_drewN) | (with_reducible apply below_drew1) | ((with_reducible refine setC ?_ ?_ _); rotate_left; omega)))⟩
                    · have := HU.out; omega
                · have d2 : decide ((rd_T85 l u).f2 < (rd_T85 l i).f2 + ((rd_T85 l i).f1.f2.length : Int)) = false := by simpa using e2
                  clear e2
                  go_wp2
                  go_roundg (gk - 1)
                  · exact ⟨u + 1, by simp, by have := HU.out; omega, (by repeat (first | (with_reducible assumption) | (with_reducible exact Below.refl _ _) | (with_reducible apply below_alloc) | (with_reducible apply pw_below_drewN) | (with_reducible apply below_drew1) | ((with_reducible refine setC ?_ ?_ _); rotate_left; omega)))⟩
                  · have := HU.out; omega
              · have e1' : ((rd_T85 l u).f2 != (rd_T85 l i).f2) = false := by simp only [bne, e1, Bool.not_true]
                go_wp2
                go_roundg (gk - 1)
                · exact ⟨u + 1, by simp, by have := HU.out; omega, (by repeat (first | (with_reducible assumption) | (with_reducible exact Below.refl _ _) | (with_reducible apply below_alloc) | (with_reducible apply pw_below_drewN) | (with_reducible apply below_drew1) | ((with_reducible refine setC ?_ ?_ _); rotate_left; omega)))⟩
                · have := HU.out; omega
            · go_wp2
              go_roundg (ko - 1)
              · exact ⟨i + 1, by simp, by have := HI.out; omega, n3, ⟨blk_below b6.out hBq⟩, hBv⟩
              · have := HI.out; omega
    · have hP1 : Aside0 (∀ s ∈ l, colsOk rs s) := ⟨by have := ht.out; rwa [List.take_of_length_le (by omega)] at this⟩
      clear ht hi
      obtain ⟨wo, rfl⟩ : ∃ wo : World, wo = wr := ⟨_, rfl⟩
      go_wp2_with fail
      go_loopg [120] rs.length (fun k s120 wr => ∃ i : Nat, s120 = .int .i64 i ∧ i + k = rs.length ∧ Aside0 (∀ k', k' < i → rowOk l rs k') ∧ Below wo.heap.size wo wr)
      · exact ⟨0, rfl, by omega, ⟨fun j h => absurd h (by omega)⟩, Below.refl _ _⟩
      · obtain ⟨n, rfl, hn, htn, hBn⟩ := hrel
        have hBw : Below w.heap.size w wr := belT hB hBn
        by_cases hnl : n < rs.length
        · obtain ⟨ad, rfl, g0, g1, g2⟩ := at_T30 (Kd.C_below HR.out hBw) n (by omega) (by omega)
          simp only [Int.toNat_natCast] at g0 g1 g2
          have HN := Aside0.mk hn
          have q1 := World.block_lt_of_cell? wr _ g0
          clear hn
          obtain ⟨wp, rfl⟩ : ∃ wp : World, wp = wr := ⟨_, rfl⟩
          obtain ⟨ko, rfl⟩ : ∃ ko : Nat, ko = gk := ⟨_, rfl⟩
          go_wp2_with fail
          go_loopg [127, 16] l.length (fun k s127 s16 wq => ∃ (u : Nat) (b : Bool), s127 = .int .i64 u ∧ s16 = .bool b ∧ u + k = l.length ∧ Aside0 (b = (l.take u).any (covers n)) ∧ Below wp.heap.size wp wq ∧ wp.heap.size < wq.heap.size ∧ wq.cell? ⟨wp.heap.size, 0, none⟩ = some (.int .i64 (rd_T30 rs n).f0))
          · exact ⟨0, false, rfl, rfl, by omega, ⟨by simp⟩, (by repeat (first | (with_reducible assumption) | (with_reducible exact Below.refl _ _) | (with_reducible apply below_alloc) | (with_reducible apply pw_below_drewN) | (with_reducible apply below_drew1) | ((with_reducible refine setC ?_ ?_ _); rotate_left; omega))), by simp, by go_simp⟩
          · obtain ⟨u, b, rfl, rfl, hu', hb, hBq, hlt1, h0⟩ := hrel
            have hBv : Below w.heap.size w wr := belT hBw hBq
            by_cases hlu : u < l.length
            · obtain ⟨bd, A3', c3', A5', c5', rfl, k0, k1, k2, k3, k4, k5, k6, hk3, kA, hk5, kB⟩ := at_T85 (Kd.C_below HL.out hBv) u (by omega) (by omega)
              simp only [Int.toNat_natCast] at k0 k1 k2 k3 k4 k5 k6
              have HU := Aside0.mk hu'
              have q3 := World.block_lt_of_cell? wr _ k0
              obtain ⟨o1, o2, o3⟩ := scoped_mem HSC.out (mem_rd85 hlu)
              have hnx := Aside0.mk (any_next (p := covers n) hlu)
              have hcv : Aside0 (covers n (rd_T85 l u) = (decide ((rd_T85 l u).f2 ≤ n) && decide ((n : Int) - (rd_T85 l u).f2 < (rd_T85 l u).f1.f2.length))) := ⟨rfl⟩
              clear hu' kA kB
              cases b
              · by_cases e1 : (rd_T85 l u).f2 ≤ (n : Int)
                · have d1 : decide ((rd_T85 l u).f2 ≤ (n : Int)) = true := by simpa using e1
                  by_cases e2 : (n : Int) - (rd_T85 l u).f2 < ((rd_T85 l u).f1.f2.length : Int)
                  · have d2 : decide ((n : Int) - (rd_T85 l u).f2 < ((rd_T85 l u).f1.f2.length : Int)) = true := by simpa using e2
                    have HB : Aside0 (true = (l.take (u + 1)).any (covers n)) := ⟨by rw [hnx.out, ← hb.out, hcv.out, d1, d2]; rfl⟩
                    go_wp2
                    go_roundg (gk - 1)
                    · exact ⟨u + 1, true, by simp, by simp, by have := HU.out; omega, HB, (by repeat (first | (with_reducible assumption) | (with_reducible exact Below.refl _ _) | (with_reducible apply below_alloc) | (with_reducible apply pw_below_drewN) | (with_reducible apply below_drew1) | ((with_reducible refine setC ?_ ?_ _); rotate_left; omega))), by simp; omega, cellB (W := wr) (by repeat (first | (with_reducible assumption) | (with_reducible exact Below.refl _ _) | (with_reducible apply below_alloc) | (with_reducible apply pw_below_drewN) | (with_reducible apply below_drew1) | ((with_reducible refine setC ?_ ?_ _); rotate_left; omega))) (by omega) h0⟩
                    · have := HU.out; omega
                  · have d2 : decide ((n : Int) - (rd_T85 l u).f2 < ((rd_T85 l u).f1.f2.length : Int)) = false := by simpa using e2
                    have HB : Aside0 (false = (l.take (u + 1)).any (covers n)) := ⟨by rw [hnx.out, ← hb.out, hcv.out, d1, d2]; rfl⟩
                    clear e2
                    go_wp2
                    go_roundg (gk - 1)
                    · exact ⟨u + 1, false, by simp, by simp, by have := HU.out; omega, HB, (by repeat (first | (with_reducible assumption) | (with_reducible exact Below.refl _ _) | (with_reducible apply below_alloc) | (with_reducible apply pw_below_drewN) | (with_reducible apply below_drew1) | ((with_reducible refine setC ?_ ?_ _); rotate_left; omega))), by simp; omega, cellB (W := wr) (by repeat (first | (with_reducible assumption) | (with_reducible exact Below.refl _ _) | (with_reducible apply below_alloc) | (with_reducible apply pw_below_drewN) | (with_reducible apply below_drew1) | ((with_reducible refine setC ?_ ?_ _); rotate_left; omega))) (by omega) h0⟩
                    · have := HU.out; omega
                · have d1 : decide ((rd_T85 l u).f2 ≤ (n : Int)) = false := by simpa using e1
                  have HB : Aside0 (false = (l.take (u + 1)).any (covers n)) := ⟨by rw [hnx.out, ← hb.out, hcv.out, d1]; rfl⟩
                  clear e1
                  go_wp2
                  go_roundg (gk - 1)
                  · exact ⟨u + 1, false, by simp, by simp, by have := HU.out; omega, HB, (by repeat (first | (with_reducible assumption) | (with_reducible exact Below.refl _ _) | (with_reducible apply below_alloc) | (with_reducible apply pw_below_drewN) | (with_reducible apply below_drew1) | ((with_reducible refine setC ?_ ?_ _); rotate_left; omega))), by simp; omega, cellB (W := wr) (by repeat (first | (with_reducible assumption) | (with_reducible exact Below.refl _ _) | (with_reducible apply below_alloc) | (with_reducible apply pw_below_drewN) | (with_reducible apply below_drew1) | ((with_reducible refine setC ?_ ?_ _); rotate_left; omega))) (by omega) h0⟩
                  · have := HU.out; omega
              · have HB : Aside0 (true = (l.take (u + 1)).any (covers n)) := ⟨by rw [hnx.out, ← hb.out]; rfl⟩
                go_wp2
                go_roundg (gk - 1)
                · exact ⟨u + 1, true, by simp, by simp, by have := HU.out; omega, HB, (by repeat (first | (with_reducible assumption) | (with_reducible exact Below.refl _ _) | (with_reducible apply below_alloc) | (with_reducible apply pw_below_drewN) | (with_reducible apply below_drew1) | ((with_reducible refine setC ?_ ?_ _); rotate_left; omega))), by simp; omega, cellB (W := wr) (by repeat (first | (with_reducible assumption) | (with_reducible exact Below.refl _ _) | (with_reducible apply below_alloc) | (with_reducible apply pw_below_drewN) | (with_reducible apply below_drew1) | ((with_reducible refine setC ?_ ?_ _); rotate_left; omega))) (by omega) h0⟩
                · have := HU.out; omega
            · have hb' : Aside0 (b = l.any (covers n)) := ⟨by have := hb.out; rwa [List.take_of_length_le (by omega)] at this⟩
              clear hb hu'
              cases b
              · cases e2 : ((rd_T30 rs n).f0 == 0)
                · have e2' : ((rd_T30 rs n).f0 != 0) = true := by simp only [bne, e2, Bool.not_false]
                  go_wp2
                  refine ret_ex rfl ?_; apply Exists.intro; refine ⟨?_, ?_, ?_⟩; (simp [results, Try.results13]; rfl)
                  · rfl
                  · repeat (first | (with_reducible assumption) | (with_reducible exact Below.refl _ _) | (with_reducible apply below_alloc) | (with_reducible apply pw_below_drewN) | (with_reducible apply below_drew1) | ((with_reducible refine setC ?_ ?_ _); rotate_left; omega))
                · have e2' : ((rd_T30 rs n).f0 != 0) = false := by simp only [bne, e2, Bool.not_true]
                  have HR1 : Aside0 (rowOk l rs n) := ⟨Or.inr (by simpa using e2)⟩
                  go_wp2
                  go_roundg (ko - 1)
                  · exact ⟨n + 1, by simp, by have := HN.out; omega, ⟨ball_next htn.out HR1.out⟩, belT hBn hBq⟩
                  · have := HN.out; omega
              · have HR1 : Aside0 (rowOk l rs n) := ⟨Or.inl hb'.out.symm⟩
                go_wp2
                go_roundg (ko - 1)
                · exact ⟨n + 1, by simp, by have := HN.out; omega, ⟨ball_next htn.out HR1.out⟩, belT hBn hBq⟩
                · have := HN.out; omega
        · have hP2 : Aside0 (∀ k : Nat, k < rs.length → rowOk l rs k) := ⟨fun k hk => htn.out k (by omega)⟩
          clear htn hn
          have b6 := Aside0.mk (blk_below b5.out hBn)
          obtain ⟨⟨t0, t1, t2, t3, t4, t5, t6, t7⟩, -, q2⟩ := box32 b6.out
          go_wp2_with fail
          refine (bind_calls l A0 c0 x A c _ (Kd.C_below HL.out hBw) (Kd.C_below HA.out hBw)).mono ?_
          rintro e w5 ⟨y, kd, bad, Ay, cy, rfl, hwt, hcy, hF, hb5⟩
          have hB5 : Below w.heap.size w w5 := (by refine belT ?_ hb5; repeat (first | (with_reducible assumption) | (with_reducible exact Below.refl _ _) | (with_reducible apply below_alloc) | (with_reducible apply pw_below_drewN) | (with_reducible apply below_drew1) | ((with_reducible refine setC ?_ ?_ _); rotate_left; omega)))
          have HW := Aside0.mk hwt
          have HF := Aside0.mk (Kd.F_now hF)
          clear hwt hF hb5 t0 t1 t2 t3 t4 t5 t6 t7 q2 b6
          by_cases hbad : bad = 0
          · subst hbad
            go_wp2_with fail
            refine (sums_calls y Ay cy _ (Kd.C_below HF.out (by repeat (first | (with_reducible assumption) | (with_reducible exact Below.refl _ _) | (with_reducible apply below_alloc) | (with_reducible apply pw_below_drewN) | (with_reducible apply below_drew1) | ((with_reducible refine setC ?_ ?_ _); rotate_left; omega))))).mono ?_
            rintro e w6 ⟨rfl, hb6⟩
            have hB6 : Below w.heap.size w w6 := (by refine belT ?_ hb6; repeat (first | (with_reducible assumption) | (with_reducible exact Below.refl _ _) | (with_reducible apply below_alloc) | (with_reducible apply pw_below_drewN) | (with_reducible apply below_drew1) | ((with_reducible refine setC ?_ ?_ _); rotate_left; omega)))
            have HF6 := Aside0.mk (Kd.C_below HF.out (show Below w5.heap.size w5 w6 from (by refine belT ?_ hb6; repeat (first | (with_reducible assumption) | (with_reducible exact Below.refl _ _) | (with_reducible apply below_alloc) | (with_reducible apply pw_below_drewN) | (with_reducible apply below_drew1) | ((with_reducible refine setC ?_ ?_ _); rotate_left; omega)))))
            obtain ⟨⟨t0, t1, t2, t3, t4, t5, t6, t7⟩, -, q2⟩ := box32 (g := w5.heap.size) (x := y) (v := .slice Ay y.f5.length cy) (blk_below (by repeat (first | (with_reducible assumption) | ((with_reducible refine blk_new ?_); (first | rfl | (simp; done))) | (with_reducible refine blk_alloc ?_ _) | (with_reducible refine blk_drewN ?_ _) | (with_reducible refine blk_drew ?_) | ((with_reducible refine blk_far ?_ ?_ _); rotate_left; (first | (simp; omega) | (simp; done))))) hb6)
            clear hb6
            cases hsu : sumsX y
            · have HO := Aside0.mk (typed_ok HSC.out hlen hP1.out hP2.out (HW.out (by first | rfl | trivial)) hsu)
              clear hsu
              go_wp2_with fail
              refine (eval_calls y Ay cy Ar rs cr _ (Kd.C_below HR.out hB6) HF6.out).mono ?_
              rintro e w7 ⟨rfl, hb7⟩
              have hB7 : Below w.heap.size w w7 := (by refine belT ?_ hb7; repeat (first | (with_reducible assumption) | (with_reducible exact Below.refl _ _) | (with_reducible apply below_alloc) | (with_reducible apply pw_below_drewN) | (with_reducible apply below_drew1) | ((with_reducible refine setC ?_ ?_ _); rotate_left; omega)))
              generalize evalX rs y = r at HO
              obtain ⟨v, f⟩ := r
              rcases HO.out with ⟨h1, h2⟩ | h1 | h1
              · simp only at h1 h2
                subst h1
                rcases h2 with h2 | h2
                · have d1 : (v.f0 == 0) = true := by simpa using h2
                  clear h2 HO
                  go_wp2
                  refine ret_ex rfl ?_; apply Exists.intro; refine ⟨?_, ?_, ?_⟩; (simp [results, Try.results13]; rfl)
                  · rfl
                  · repeat (first | (with_reducible assumption) | (with_reducible exact Below.refl _ _) | (with_reducible apply below_alloc) | (with_reducible apply pw_below_drewN) | (with_reducible apply below_drew1) | ((with_reducible refine setC ?_ ?_ _); rotate_left; omega))
                · cases d1 : (v.f0 == 0)
                  · have d2 : (v.f0 == kd) = true := by simpa using h2
                    clear h2 HO
                    go_wp2
                    refine ret_ex rfl ?_; apply Exists.intro; refine ⟨?_, ?_, ?_⟩; (simp [results, Try.results13]; rfl)
                    · rfl
                    · repeat (first | (with_reducible assumption) | (with_reducible exact Below.refl _ _) | (with_reducible apply below_alloc) | (with_reducible apply pw_below_drewN) | (with_reducible apply below_drew1) | ((with_reducible refine setC ?_ ?_ _); rotate_left; omega))
                  · clear h2 HO
                    go_wp2
                    refine ret_ex rfl ?_; apply Exists.intro; refine ⟨?_, ?_, ?_⟩; (simp [results, Try.results13]; rfl)
                    · rfl
                    · repeat (first | (with_reducible assumption) | (with_reducible exact Below.refl _ _) | (with_reducible apply below_alloc) | (with_reducible apply pw_below_drewN) | (with_reducible apply below_drew1) | ((with_reducible refine setC ?_ ?_ _); rotate_left; omega))
              · simp only at h1
                subst h1
                clear HO
                go_wp2
                refine ret_ex rfl ?_; apply Exists.intro; refine ⟨?_, ?_, ?_⟩; (simp [results, Try.results13]; rfl)
                · rfl
                · repeat (first | (with_reducible assumption) | (with_reducible exact Below.refl _ _) | (with_reducible apply below_alloc) | (with_reducible apply pw_below_drewN) | (with_reducible apply below_drew1) | ((with_reducible refine setC ?_ ?_ _); rotate_left; omega))
              · simp only at h1
                subst h1
                clear HO
                go_wp2
                refine ret_ex rfl ?_; apply Exists.intro; refine ⟨?_, ?_, ?_⟩; (simp [results, Try.results13]; rfl)
                · rfl
                · repeat (first | (with_reducible assumption) | (with_reducible exact Below.refl _ _) | (with_reducible apply below_alloc) | (with_reducible apply pw_below_drewN) | (with_reducible apply below_drew1) | ((with_reducible refine setC ?_ ?_ _); rotate_left; omega))
            · go_wp2
              refine ret_ex rfl ?_; apply Exists.intro; refine ⟨?_, ?_, ?_⟩; (simp [results, Try.results13]; rfl)
              · rfl
              · exact hB6
          · have d1 : (bad != 0) = true := by simpa using hbad
            clear hbad
            go_wp2
            refine ret_ex rfl ?_; apply Exists.intro; refine ⟨?_, ?_, ?_⟩; (simp [results, Try.results13]; rfl)
            · rfl
            · repeat (first | (with_reducible assumption) | (with_reducible exact Below.refl _ _) | (with_reducible apply below_alloc) | (with_reducible apply pw_below_drewN) | (with_reducible apply below_drew1) | ((with_reducible refine setC ?_ ?_ _); rotate_left; omega))
end Go.Proofs.Ytfneopcbnlfkiaa.Ex
