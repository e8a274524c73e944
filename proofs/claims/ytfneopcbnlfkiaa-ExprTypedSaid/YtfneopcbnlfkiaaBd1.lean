/-
expr.kind, expr.place, expr.literal: what they return.
-/
import Derived.Test.YtfneopcbnlfkiaaSums
import Derived.Deep.LoopGhost
namespace Go.Proofs.Ytfneopcbnlfkiaa.Ex
open Go.RowKit Go.Proofs.YtfneopcbnlfkiaaW.PrintWords Go.Proofs.Ytfneopcbnlfkiaa.Kin Go.Proofs.Ytfneopcbnlfkiaa.Num Go.Proofs.Ytfneopcbnlfkiaa.Base Go.Proofs.YtfneopcbnlfkiaaW.PrintLast
set_option linter.unusedVariables false
set_option linter.unusedSimpArgs false
/-- Whether a place is a column of a scope. -/
def inSc (a : Int) (s : S85) : Bool := decide (0 ≤ wrap64 (a - s.f2)) && decide (wrap64 (a - s.f2) < s.f1.f2.length)
/-- The kind of the column at a place. -/
def kindAt (l : List S85) (a : Int) : Int := match l.find? (inSc a) with | some s => (rd_T87 s.f1.f2 (wrap64 (a - s.f2))).f1 | none => 0
theorem rd85_get {l : List S85} {i : Nat} (h : i < l.length) : l[i]? = some (rd_T85 l i) := by simp [rd_T85, h]
theorem find_take {l : List S85} {i : Nat} {a : Int} (h : i < l.length) (ht : (l.take i).find? (inSc a) = none) : (l.take (i + 1)).find? (inSc a) = if inSc a (rd_T85 l i) then some (rd_T85 l i) else none := by
  rw [List.take_add_one, rd85_get h, List.find?_append, ht]
  simp [List.find?_cons]
  split <;> simp_all
theorem find_of_take {l : List S85} {i : Nat} {a : Int} {s : S85} (ht : (l.take i).find? (inSc a) = some s) : l.find? (inSc a) = some s := by
  rw [← List.take_append_drop i l, List.find?_append, ht]; rfl
set_option maxHeartbeats 8000000 in
set_option maxRecDepth 100000 in
theorem kind_calls (l : List S85) (A : Option Addr) (c : Nat) (a : Int) (w : World) (ha : k85.C w A l.length l) :
    Calls Try.prog 123 #[.slice A l.length c, .int .i64 a] w fun e w' => e = .returned (.int .i64 (kindAt l a)) ∧ Below w.heap.size w w' := by
  have hmax := Kd.C_max ha
  have HA := Aside0.mk ha
  clear ha
  go_enter Try.func123, Try.ntmps123
  go_wp2_with fail
  go_loopg [10] l.length (fun k s8 wr => ∃ i : Nat, s8 = .int .i64 i ∧ i + k = l.length ∧ Aside0 ((l.take i).find? (inSc a) = none) ∧ Below w.heap.size w wr)
  · exact ⟨0, rfl, by omega, ⟨by simp⟩, Below.refl _ _⟩
  · obtain ⟨i, rfl, hi, ht, hB⟩ := hrel
    by_cases hlt : i < l.length
    · obtain ⟨ad, A3, c3, A5, c5, rfl, g0, g1, g2, g3, g4, g5, g6, hl3, gA, hl5, gB⟩ := at_T85 (Kd.C_below HA.out hB) i (by omega) (by omega)
      simp only [Int.toNat_natCast] at g0 g1 g2 g3 g4 g5 g6
      have hft := Aside0.mk (find_take (a := a) hlt ht.out)
      have HI := Aside0.mk hi
      have GA := Aside0.mk gA
      clear hi gA gB
      by_cases h1 : 0 ≤ wrap64 (a - (rd_T85 l i).f2)
      · by_cases h2 : wrap64 (a - (rd_T85 l i).f2) < (rd_T85 l i).f1.f2.length
        · obtain ⟨bd, rfl, k0, k1, k2⟩ := at_T87 GA.out (wrap64 (a - (rd_T85 l i).f2)) h1 h2
          have hin : inSc a (rd_T85 l i) = true := by simp [inSc, h1, h2]
          have hk : kindAt l a = (rd_T87 (rd_T85 l i).f1.f2 (wrap64 (a - (rd_T85 l i).f2))).f1 := by
            have h3 := hft.out
            rw [hin, if_pos rfl] at h3
            simp only [kindAt, find_of_take h3]
          have HK := Aside0.mk hk
          clear hk hin
          have d1 : decide (0 ≤ wrap64 (a - (rd_T85 l i).f2)) = true := by simpa using h1
          have d2 : decide (wrap64 (a - (rd_T85 l i).f2) < ((rd_T85 l i).f1.f2.length : Int)) = true := by simpa using h2
          have q1 := World.block_lt_of_cell? wr _ g0
          have q2 := World.block_lt_of_cell? wr _ k0
          go_wp2
          refine ret_ex rfl ?_; apply Exists.intro; refine ⟨?_, ?_, ?_⟩; (simp [results, Try.results123]; rfl)
          · rw [HK.out]
          · repeat (first | (with_reducible assumption) | (with_reducible exact Below.refl _ _) | (with_reducible apply below_alloc) | (with_reducible apply pw_below_drewN) | (with_reducible apply below_drew1) | ((with_reducible refine setC ?_ ?_ _); rotate_left; omega))
        · have hin : inSc a (rd_T85 l i) = false := by simp [inSc, h1, h2]
          have d1 : decide (0 ≤ wrap64 (a - (rd_T85 l i).f2)) = true := by simpa using h1
          have d2 : decide (wrap64 (a - (rd_T85 l i).f2) < ((rd_T85 l i).f1.f2.length : Int)) = false := by simpa using h2
          have HN : Aside0 ((l.take (i + 1)).find? (inSc a) = none) := ⟨by rw [hft.out, hin]; rfl⟩
          clear hin h2
          have q1 := World.block_lt_of_cell? wr _ g0
          go_wp2
          go_roundg (gk - 1)
          · exact ⟨i + 1, by simp, by have := HI.out; omega, HN, (by repeat (first | (with_reducible assumption) | (with_reducible exact Below.refl _ _) | (with_reducible apply below_alloc) | (with_reducible apply pw_below_drewN) | (with_reducible apply below_drew1) | ((with_reducible refine setC ?_ ?_ _); rotate_left; omega)))⟩
          · have := HI.out; omega
      · have hin : inSc a (rd_T85 l i) = false := by simp [inSc, h1]
        have d1 : decide (0 ≤ wrap64 (a - (rd_T85 l i).f2)) = false := by simpa using h1
        have HN : Aside0 ((l.take (i + 1)).find? (inSc a) = none) := ⟨by rw [hft.out, hin]; rfl⟩
        clear hin h1
        have q1 := World.block_lt_of_cell? wr _ g0
        go_wp2
        go_roundg (gk - 1)
        · exact ⟨i + 1, by simp, by have := HI.out; omega, HN, (by repeat (first | (with_reducible assumption) | (with_reducible exact Below.refl _ _) | (with_reducible apply below_alloc) | (with_reducible apply pw_below_drewN) | (with_reducible apply below_drew1) | ((with_reducible refine setC ?_ ?_ _); rotate_left; omega)))⟩
        · have := HI.out; omega
    · have he : kindAt l a = 0 := by
        have e1 := ht.out
        rw [List.take_of_length_le (by omega)] at e1
        simp [kindAt, e1]
      have HE := Aside0.mk he
      clear he
      go_wp2
      refine ret_ex rfl ?_; apply Exists.intro; refine ⟨?_, ?_, ?_⟩; (simp [results, Try.results123]; rfl)
      · rw [HE.out]
      · exact hB
/-- The kind of the column at a place that may be none. -/
def placeK (l : List S85) (n : Int) : Int := if n < 0 ∨ 1048576 < n then 0 else kindAt l n
set_option maxHeartbeats 8000000 in
set_option maxRecDepth 100000 in
theorem place_calls (l : List S85) (A : Option Addr) (c : Nat) (n : Int) (w : World) (ha : k85.C w A l.length l) :
    Calls Try.prog 124 #[.slice A l.length c, .int .i64 n] w fun e w' => e = .returned (.int .i64 (placeK l n)) ∧ Below w.heap.size w w' := by
  have HA := Aside0.mk ha
  clear ha
  by_cases h1 : n < 0
  · have hp : placeK l n = 0 := by simp [placeK, h1]
    have HP := Aside0.mk hp
    have d1 : decide (n < 0) = true := by simpa using h1
    clear hp
    go_enter Try.func124, Try.ntmps124
    go_wp2
    refine ret_ex rfl ?_; apply Exists.intro; refine ⟨?_, ?_, ?_⟩; (simp [results, Try.results124]; rfl)
    · rw [HP.out]
    · repeat (first | (with_reducible assumption) | (with_reducible exact Below.refl _ _) | (with_reducible apply below_alloc) | (with_reducible apply pw_below_drewN) | (with_reducible apply below_drew1) | ((with_reducible refine setC ?_ ?_ _); rotate_left; omega))
  · by_cases h2 : 1048576 < n
    · have hp : placeK l n = 0 := by simp [placeK, h2]
      have HP := Aside0.mk hp
      have d1 : decide (n < 0) = false := by simpa using h1
      have d2 : decide (1048576 < n) = true := by simpa using h2
      clear hp
      go_enter Try.func124, Try.ntmps124
      go_wp2
      refine ret_ex rfl ?_; apply Exists.intro; refine ⟨?_, ?_, ?_⟩; (simp [results, Try.results124]; rfl)
      · rw [HP.out]
      · repeat (first | (with_reducible assumption) | (with_reducible exact Below.refl _ _) | (with_reducible apply below_alloc) | (with_reducible apply pw_below_drewN) | (with_reducible apply below_drew1) | ((with_reducible refine setC ?_ ?_ _); rotate_left; omega))
    · have hp : placeK l n = kindAt l n := by simp [placeK, h1, h2]
      have HP := Aside0.mk hp
      have d1 : decide (n < 0) = false := by simpa using h1
      have d2 : decide (1048576 < n) = false := by simpa using h2
      clear hp
      go_enter Try.func124, Try.ntmps124
      go_wp2_with fail
      refine (kind_calls l A c n _ HA.out).mono ?_
      rintro e w2 ⟨rfl, hb⟩
      go_wp2
      refine ret_ex rfl ?_; apply Exists.intro; refine ⟨?_, ?_, ?_⟩; (simp [results, Try.results124]; rfl)
      · rw [HP.out]
      · exact hb
end Go.Proofs.Ytfneopcbnlfkiaa.Ex
