/-
expr.literal, expr.fits, cat.Column, plenumlaw21.Small, plenumlaw22.Scoped, plenumlaw02.Few: what they return.
-/
import Derived.Test.YtfneopcbnlfkiaaBd1
import Derived.Deep.LoopGhost
import Derived.Deep.QuietTactic
import Derived.BigQuiet
namespace Go.Proofs.Ytfneopcbnlfkiaa.Ex
open Go.RowKit Go.Proofs.YtfneopcbnlfkiaaW.PrintWords Go.Proofs.Ytfneopcbnlfkiaa.Kin Go.Proofs.Ytfneopcbnlfkiaa.Num Go.Proofs.Ytfneopcbnlfkiaa.Base Go.Proofs.YtfneopcbnlfkiaaW.PrintLast
set_option linter.unusedVariables false
set_option linter.unusedSimpArgs false
set_option maxHeartbeats 8000000 in
set_option maxRecDepth 100000 in
theorem literal_yes (x : S32) (A : Option Addr) (c : Nat) (w : World) (h : 0 ≤ x.f4.f0 ∧ x.f4.f0 ≤ 2) :
    Calls Try.prog 121 #[enE x A c] w fun e w' => e = .returned (.tuple #[enE x A c, .int .i64 x.f4.f0, .int .i64 0]) ∧ Below w.heap.size w w' := by
  have hu := Try.underlying30
  have hu32 := Try.underlying32
  have d1 : decide (x.f4.f0 < 0) = false := by simp; omega
  have d2 : decide (2 < x.f4.f0) = false := by simp; omega
  clear h
  go_enter Try.func121, Try.ntmps121
  go_wp2_with fail
  go_region
  all_goals go_wp2
  all_goals refine ret_ex rfl ?_; apply Exists.intro; refine ⟨?_, ?_, ?_⟩; (simp [results, Try.results121]; (try go_simp); rfl)
  all_goals first | rfl | repeat (first | (with_reducible assumption) | (with_reducible exact Below.refl _ _) | (with_reducible apply below_alloc) | (with_reducible apply pw_below_drewN) | (with_reducible apply below_drew1) | ((with_reducible refine setC ?_ ?_ _); rotate_left; omega))
set_option maxHeartbeats 8000000 in
set_option maxRecDepth 100000 in
theorem literal_no (x : S32) (A : Option Addr) (c : Nat) (w : World) (h : ¬ (0 ≤ x.f4.f0 ∧ x.f4.f0 ≤ 2)) :
    Calls Try.prog 121 #[enE x A c] w fun e w' => e = .returned (.tuple #[enE z32 none 0, .int .i64 0, .int .i64 220]) ∧ Below w.heap.size w w' := by
  have hu := Try.underlying30
  have hu32 := Try.underlying32
  by_cases h1 : x.f4.f0 < 0
  · have d1 : decide (x.f4.f0 < 0) = true := by simpa using h1
    clear h h1
    go_enter Try.func121, Try.ntmps121
    go_wp2
    refine ret_ex rfl ?_; apply Exists.intro; refine ⟨?_, ?_, ?_⟩; (simp [results, Try.results121]; (try go_simp); rfl)
    · rfl
    · repeat (first | (with_reducible assumption) | (with_reducible exact Below.refl _ _) | (with_reducible apply below_alloc) | (with_reducible apply pw_below_drewN) | (with_reducible apply below_drew1) | ((with_reducible refine setC ?_ ?_ _); rotate_left; omega))
  · have d1 : decide (x.f4.f0 < 0) = false := by simpa using h1
    have d2 : decide (2 < x.f4.f0) = true := by simp; omega
    clear h h1
    go_enter Try.func121, Try.ntmps121
    go_wp2
    refine ret_ex rfl ?_; apply Exists.intro; refine ⟨?_, ?_, ?_⟩; (simp [results, Try.results121]; (try go_simp); rfl)
    · rfl
    · repeat (first | (with_reducible assumption) | (with_reducible exact Below.refl _ _) | (with_reducible apply below_alloc) | (with_reducible apply pw_below_drewN) | (with_reducible apply below_drew1) | ((with_reducible refine setC ?_ ?_ _); rotate_left; omega))
set_option maxHeartbeats 8000000 in
set_option maxRecDepth 100000 in
theorem indexI_calls (l : List Int) (A : Option Addr) (c : Nat) (a : Int) (w : World) (ha : (Kd.int .i64).C w A l.length l) :
    Calls Try.prog 224 #[.slice A l.length c, .int .i64 a] w fun e w' => (∃ r : Int, e = .returned (.int .i64 r)) ∧ Below w.heap.size w w' := by
  have hmax := Kd.C_max ha
  have HA := Aside0.mk ha
  clear ha
  go_enter Try.func224, Try.ntmps224
  go_wp2_with fail
  go_loopg [8] l.length (fun k s8 wr => ∃ i : Nat, s8 = .int .i64 i ∧ i + k = l.length ∧ Below w.heap.size w wr)
  · exact ⟨0, rfl, by omega, Below.refl _ _⟩
  · obtain ⟨i, rfl, hi, hB⟩ := hrel
    by_cases hlt : i < l.length
    · obtain ⟨ad, rfl, g0⟩ := Kd.at_int (Kd.C_below HA.out hB) i (by omega) (by omega)
      simp only [Int.toNat_natCast] at g0
      have HI := Aside0.mk hi
      clear hi
      cases he : (a == rd l i)
      · go_wp2
        go_roundg (gk - 1)
        · exact ⟨i + 1, by simp, by have := HI.out; omega, (by repeat (first | (with_reducible assumption) | (with_reducible exact Below.refl _ _) | (with_reducible apply below_alloc) | (with_reducible apply pw_below_drewN) | (with_reducible apply below_drew1) | ((with_reducible refine setC ?_ ?_ _); rotate_left; omega)))⟩
        · have := HI.out; omega
      · go_wp2
        refine ret_ex rfl ?_; apply Exists.intro; refine ⟨?_, ?_, ?_⟩; (simp [results, Try.results224]; rfl)
        · exact ⟨_, rfl⟩
        · repeat (first | (with_reducible assumption) | (with_reducible exact Below.refl _ _) | (with_reducible apply below_alloc) | (with_reducible apply pw_below_drewN) | (with_reducible apply below_drew1) | ((with_reducible refine setC ?_ ?_ _); rotate_left; omega))
    · go_wp2
      refine ret_ex rfl ?_; apply Exists.intro; refine ⟨?_, ?_, ?_⟩; (simp [results, Try.results224]; rfl)
      · exact ⟨_, rfl⟩
      · repeat (first | (with_reducible assumption) | (with_reducible exact Below.refl _ _) | (with_reducible apply below_alloc) | (with_reducible apply pw_below_drewN) | (with_reducible apply below_drew1) | ((with_reducible refine setC ?_ ?_ _); rotate_left; omega))
set_option maxHeartbeats 8000000 in
set_option maxRecDepth 100000 in
theorem containsI_calls (l : List Int) (A : Option Addr) (c : Nat) (a : Int) (w : World) (ha : (Kd.int .i64).C w A l.length l) :
    Calls Try.prog 187 #[.slice A l.length c, .int .i64 a] w fun e w' => isBool e ∧ Below w.heap.size w w' := by
  have HA := Aside0.mk ha
  clear ha
  go_enter Try.func187, Try.ntmps187
  go_wp2_with fail
  refine (indexI_calls l A c a _ HA.out).mono ?_
  rintro e w2 ⟨⟨r, rfl⟩, hb⟩
  go_wp2
  refine ret_ex rfl ?_; apply Exists.intro; refine ⟨?_, ?_, ?_⟩; (simp [results, Try.results187]; rfl)
  · exact ⟨_, rfl⟩
  · exact hb
set_option maxHeartbeats 8000000 in
set_option maxRecDepth 100000 in
theorem fits_calls (op : Int) (l : List Int) (A : Option Addr) (c : Nat) (w : World) (ha : (Kd.int .i64).C w A l.length l) (h2 : cmpOp op = true → l.length = 2) :
    Calls Try.prog 125 #[.int .i64 op, .slice A l.length c] w fun e w' => isBool e ∧ Below w.heap.size w w' := by
  cases h19 : (op == 19)
  · cases hc : cmpOp op
    · have HA := Aside0.mk ha
      clear ha h2
      go_enter Try.func125, Try.ntmps125
      go_wp2_with fail
      refine (compares_calls op _).mono ?_
      rintro e w2 ⟨rfl, rfl⟩
      rw [hc]
      clear hc
      go_wp2_with fail
      refine (containsI_calls l A c 2 _ HA.out).mono ?_
      rintro e w2 ⟨⟨b, rfl⟩, hb⟩
      go_wp2
      refine ret_ex rfl ?_; apply Exists.intro; refine ⟨?_, ?_, ?_⟩; (simp [results, Try.results125]; rfl)
      · exact ⟨_, rfl⟩
      · exact hb
    · have hl := h2 hc
      obtain ⟨ad, rfl, g0⟩ := Kd.at_int ha 0 (by omega) (by omega)
      obtain ⟨ad', he, g1⟩ := Kd.at_int ha 1 (by omega) (by omega)
      injection he with he
      subst he
      have HC := Aside0.mk hc
      have i0 : (0 : Int) < (l.length : Int) := by omega
      have i1 : (1 : Int) < (l.length : Int) := by omega
      have n0 : 0 < l.length := by omega
      have n1 : 1 < l.length := by omega
      simp only [Int.toNat_zero, Int.toNat_one] at g0 g1
      have g0' : w.cell? ad = some (.int .i64 (rd l 0)) := by rw [Addr.add_zero'] at g0; exact g0
      have g1' : w.cell? ⟨ad.block, ad.off + 1, none⟩ = some (.int .i64 (rd l 1)) := by simpa [Addr.add] using g1
      clear h2 ha hc hl
      cases e1 : (rd l 0 == rd l 1)
      · cases e2 : (rd l 0 == 0)
        all_goals
          go_enter Try.func125, Try.ntmps125
          go_wp2_with fail
          refine (compares_calls op _).mono ?_
          rintro e w2 ⟨rfl, rfl⟩
          rw [HC.out]
          go_wp2_with fail
          go_quiet (fail)
          go_wp2
          refine ret_ex rfl ?_; apply Exists.intro; refine ⟨?_, ?_, ?_⟩; (simp [results, Try.results125]; rfl)
          · exact ⟨_, rfl⟩
          · repeat (first | (with_reducible assumption) | (with_reducible exact Below.refl _ _) | (with_reducible apply below_alloc) | (with_reducible apply pw_below_drewN) | (with_reducible apply below_drew1) | ((with_reducible refine setC ?_ ?_ _); rotate_left; omega))
      · go_enter Try.func125, Try.ntmps125
        go_wp2_with fail
        refine (compares_calls op _).mono ?_
        rintro e w2 ⟨rfl, rfl⟩
        rw [HC.out]
        go_wp2_with fail
        go_quiet (fail)
        go_wp2
        refine ret_ex rfl ?_; apply Exists.intro; refine ⟨?_, ?_, ?_⟩; (simp [results, Try.results125]; rfl)
        · exact ⟨_, rfl⟩
        · repeat (first | (with_reducible assumption) | (with_reducible exact Below.refl _ _) | (with_reducible apply below_alloc) | (with_reducible apply pw_below_drewN) | (with_reducible apply below_drew1) | ((with_reducible refine setC ?_ ?_ _); rotate_left; omega))
  · clear ha h2
    go_enter Try.func125, Try.ntmps125
    go_wp2
    refine ret_ex rfl ?_; apply Exists.intro; refine ⟨?_, ?_, ?_⟩; (simp [results, Try.results125]; rfl)
    · exact ⟨_, rfl⟩
    · repeat (first | (with_reducible assumption) | (with_reducible exact Below.refl _ _) | (with_reducible apply below_alloc) | (with_reducible apply pw_below_drewN) | (with_reducible apply below_drew1) | ((with_reducible refine setC ?_ ?_ _); rotate_left; omega))
end Go.Proofs.Ytfneopcbnlfkiaa.Ex
