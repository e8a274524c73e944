/-
plenumlaw21.Small, plenumlaw22.Scoped, plenumlaw02.Few: what they return.
-/
import Derived.Test.YtfneopcbnlfkiaaBd3
import Derived.Deep.LoopGhost
namespace Go.Proofs.Ytfneopcbnlfkiaa.Ex
open Go.RowKit Go.Proofs.YtfneopcbnlfkiaaW.PrintWords Go.Proofs.Ytfneopcbnlfkiaa.Kin Go.Proofs.Ytfneopcbnlfkiaa.Num Go.Proofs.Ytfneopcbnlfkiaa.Base Go.Proofs.YtfneopcbnlfkiaaW.PrintLast
set_option linter.unusedVariables false
set_option linter.unusedSimpArgs false
abbrev enT (x : S25) (A2 : Option Addr) (c2 : Nat) (A4 : Option Addr) (c4 : Nat) : Value := .agg #[.int .i64 x.f0, .string x.f1, .slice A2 x.f2.length c2, .int .i64 x.f3, .slice A4 x.f4.length c4]
def shortB (n : Nat) (s : ByteArray) : Bool := decide (s.size ≤ n)
/-- Whether a table is small. -/
def smallT (x : S25) : Bool := x.f2.all (fun c => shortB 100 c.f0) && (decide (x.f2.length ≤ 14) && (decide (x.f4.length ≤ 6) && shortB 100 x.f1))
theorem rd87_get {l : List S87} {i : Nat} (h : i < l.length) : l[i]? = some (rd_T87 l i) := by simp [rd_T87, h]
theorem all_take {α : Type} {p : α → Bool} {l : List α} {i : Nat} {x : α} (h : l[i]? = some x) (ht : (l.take i).all p = true) : (l.take (i + 1)).all p = p x := by
  rw [List.take_add_one, h]; simp [List.all_append, ht]
theorem all_not {α : Type} {p : α → Bool} {l : List α} {i : Nat} {x : α} (h : l[i]? = some x) (hp : p x = false) : l.all p = false := by
  rw [List.all_eq_false]
  exact ⟨x, List.mem_of_getElem? h, by simp [hp]⟩
set_option maxHeartbeats 8000000 in
set_option maxRecDepth 100000 in
theorem small_calls (x : S25) (A2 : Option Addr) (c2 : Nat) (A4 : Option Addr) (c4 : Nat) (w : World) (ha : k87.C w A2 x.f2.length x.f2) :
    Calls Try.prog 20 #[enT x A2 c2 A4 c4] w fun e w' => e = .returned (.bool (smallT x)) ∧ Below w.heap.size w w' := by
  have hmax := Kd.C_max ha
  have HA := Aside0.mk ha
  have hx : Aside0 (smallT x = (x.f2.all (fun c => shortB 100 c.f0) && (decide (x.f2.length ≤ 14) && (decide (x.f4.length ≤ 6) && shortB 100 x.f1)))) := ⟨rfl⟩
  clear ha
  go_enter Try.func20, Try.ntmps20
  go_wp2_with fail
  go_loopg [8] x.f2.length (fun k s8 wr => ∃ i : Nat, s8 = .int .i64 i ∧ i + k = x.f2.length ∧ Aside0 ((x.f2.take i).all (fun c => shortB 100 c.f0) = true) ∧ Below w.heap.size w wr ∧ w.heap.size < wr.heap.size ∧ wr.cell? ⟨w.heap.size, 1, none⟩ = some (.string x.f1) ∧ wr.cell? ⟨w.heap.size, 2, none⟩ = some (.slice A2 x.f2.length c2) ∧ wr.cell? ⟨w.heap.size, 4, none⟩ = some (.slice A4 x.f4.length c4))
  · exact ⟨0, rfl, by omega, ⟨by simp⟩, (by repeat (first | (with_reducible assumption) | (with_reducible exact Below.refl _ _) | (with_reducible apply below_alloc) | (with_reducible apply pw_below_drewN) | (with_reducible apply below_drew1) | ((with_reducible refine setC ?_ ?_ _); rotate_left; omega))), by simp, by go_simp, by go_simp, by go_simp⟩
  · obtain ⟨i, rfl, hi, ht, hB, hlt0, b1, b2, b4⟩ := hrel
    by_cases hlt : i < x.f2.length
    · obtain ⟨ad, rfl, g0, g1, g2⟩ := at_T87 (Kd.C_below HA.out hB) i (by omega) (by omega)
      simp only [Int.toNat_natCast] at g0 g1 g2
      have HI := Aside0.mk hi
      have q1 := World.block_lt_of_cell? wr _ g0
      clear hi
      cases hs : shortB 100 (rd_T87 x.f2 i).f0
      · have d1 : decide ((100 : Int) < ((rd_T87 x.f2 i).f0.size : Int)) = true := by simp only [shortB, decide_eq_false_iff_not] at hs; simp; omega
        have d2 : decide (100 < (rd_T87 x.f2 i).f0.size) = true := by simp only [shortB, decide_eq_false_iff_not] at hs; simp; omega
        have he := all_not (p := fun c : S87 => shortB 100 c.f0) (rd87_get hlt) hs
        have HE := Aside0.mk he
        clear he hs
        go_wp2
        refine ret_ex rfl ?_; apply Exists.intro; refine ⟨?_, ?_, ?_⟩; (simp [results, Try.results20]; rfl)
        · rw [hx.out, HE.out]; rfl
        · repeat (first | (with_reducible assumption) | (with_reducible exact Below.refl _ _) | (with_reducible apply below_alloc) | (with_reducible apply pw_below_drewN) | (with_reducible apply below_drew1) | ((with_reducible refine setC ?_ ?_ _); rotate_left; omega))
      · have d1 : decide ((100 : Int) < ((rd_T87 x.f2 i).f0.size : Int)) = false := by simp only [shortB, decide_eq_true_iff] at hs; simp; omega
        have d2 : decide (100 < (rd_T87 x.f2 i).f0.size) = false := by simp only [shortB, decide_eq_true_iff] at hs; simp; omega
        have he := all_take (p := fun c : S87 => shortB 100 c.f0) (rd87_get hlt) ht.out
        rw [hs] at he
        have HE := Aside0.mk he
        clear he hs
        go_wp2
        go_roundg (gk - 1)
        · exact ⟨i + 1, by simp, by have := HI.out; omega, ⟨HE.out⟩, (by repeat (first | (with_reducible assumption) | (with_reducible exact Below.refl _ _) | (with_reducible apply below_alloc) | (with_reducible apply pw_below_drewN) | (with_reducible apply below_drew1) | ((with_reducible refine setC ?_ ?_ _); rotate_left; omega))), by simp; omega, cellB (W := wr) (by repeat (first | (with_reducible assumption) | (with_reducible exact Below.refl _ _) | (with_reducible apply below_alloc) | (with_reducible apply pw_below_drewN) | (with_reducible apply below_drew1) | ((with_reducible refine setC ?_ ?_ _); rotate_left; omega))) (by omega) b1, cellB (W := wr) (by repeat (first | (with_reducible assumption) | (with_reducible exact Below.refl _ _) | (with_reducible apply below_alloc) | (with_reducible apply pw_below_drewN) | (with_reducible apply below_drew1) | ((with_reducible refine setC ?_ ?_ _); rotate_left; omega))) (by omega) b2, cellB (W := wr) (by repeat (first | (with_reducible assumption) | (with_reducible exact Below.refl _ _) | (with_reducible apply below_alloc) | (with_reducible apply pw_below_drewN) | (with_reducible apply below_drew1) | ((with_reducible refine setC ?_ ?_ _); rotate_left; omega))) (by omega) b4⟩
        · have := HI.out; omega
    · have he : x.f2.all (fun c => shortB 100 c.f0) = true := by
        have e1 := ht.out
        rwa [List.take_of_length_le (by omega)] at e1
      have HE := Aside0.mk he
      clear he
      by_cases c1 : x.f2.length ≤ 14
      · have d1 : decide (x.f2.length ≤ 14) = true := by simpa using c1
        have d1' : decide ((x.f2.length : Int) ≤ 14) = true := by simp; omega
        by_cases c2 : x.f4.length ≤ 6
        · have d2 : decide (x.f4.length ≤ 6) = true := by simpa using c2
          have d2' : decide ((x.f4.length : Int) ≤ 6) = true := by simp; omega
          go_wp2
          refine ret_ex rfl ?_; apply Exists.intro; refine ⟨?_, ?_, ?_⟩; (simp [results, Try.results20]; rfl)
          · rw [hx.out, HE.out, d1, d2]; simp only [shortB, Bool.true_and, Ending.returned.injEq, Value.bool.injEq]; first | rfl | (congr 1; simp; omega)
          · exact hB
        · have d2 : decide (x.f4.length ≤ 6) = false := by simpa using c2
          have d2' : decide ((x.f4.length : Int) ≤ 6) = false := by simp; omega
          go_wp2
          refine ret_ex rfl ?_; apply Exists.intro; refine ⟨?_, ?_, ?_⟩; (simp [results, Try.results20]; rfl)
          · rw [hx.out, HE.out, d1, d2]; rfl
          · exact hB
      · have d1 : decide (x.f2.length ≤ 14) = false := by simpa using c1
        have d1' : decide ((x.f2.length : Int) ≤ 14) = false := by simp; omega
        go_wp2
        refine ret_ex rfl ?_; apply Exists.intro; refine ⟨?_, ?_, ?_⟩; (simp [results, Try.results20]; rfl)
        · rw [hx.out, HE.out, d1]; rfl
        · exact hB
/-- Whether a scope is small. -/
def scopeT (s : S85) : Bool := smallT s.f1 && (shortB 100 s.f0 && (decide (0 ≤ s.f2) && decide (s.f2 ≤ 1000)))
def scopedL (l : List S85) : Bool := l.all scopeT && decide (l.length ≤ 4)
set_option maxHeartbeats 8000000 in
set_option maxRecDepth 100000 in
theorem scoped_calls (l : List S85) (A : Option Addr) (c : Nat) (w : World) (ha : k85.C w A l.length l) :
    Calls Try.prog 53 #[.slice A l.length c] w fun e w' => e = .returned (.bool (scopedL l)) ∧ Below w.heap.size w w' := by
  have hmax := Kd.C_max ha
  have HA := Aside0.mk ha
  have hx : Aside0 (scopedL l = (l.all scopeT && decide (l.length ≤ 4))) := ⟨rfl⟩
  clear ha
  go_enter Try.func53, Try.ntmps53
  go_wp2_with fail
  go_loopg [7] l.length (fun k s8 wr => ∃ i : Nat, s8 = .int .i64 i ∧ i + k = l.length ∧ Aside0 ((l.take i).all scopeT = true) ∧ Below w.heap.size w wr)
  · exact ⟨0, rfl, by omega, ⟨by simp⟩, Below.refl _ _⟩
  · obtain ⟨i, rfl, hi, ht, hB⟩ := hrel
    by_cases hlt : i < l.length
    · obtain ⟨ad, A3, c3, A5, c5, rfl, g0, g1, g2, g3, g4, g5, g6, hl3, gA, hl5, gB⟩ := at_T85 (Kd.C_below HA.out hB) i (by omega) (by omega)
      simp only [Int.toNat_natCast] at g0 g1 g2 g3 g4 g5 g6
      have HI := Aside0.mk hi
      have GA := Aside0.mk gA
      have q1 := World.block_lt_of_cell? wr _ g0
      have hst : Aside0 (scopeT (rd_T85 l i) = (smallT (rd_T85 l i).f1 && (shortB 100 (rd_T85 l i).f0 && (decide (0 ≤ (rd_T85 l i).f2) && decide ((rd_T85 l i).f2 ≤ 1000))))) := ⟨rfl⟩
      clear hi gA gB
      go_wp2_with fail
      refine (small_calls (rd_T85 l i).f1 A3 c3 A5 c5 _ (Kd.C_below GA.out (by repeat (first | (with_reducible assumption) | (with_reducible exact Below.refl _ _) | (with_reducible apply below_alloc) | (with_reducible apply pw_below_drewN) | (with_reducible apply below_drew1) | ((with_reducible refine setC ?_ ?_ _); rotate_left; omega))))).mono ?_
      rintro e w2 ⟨rfl, hb⟩
      have hB2 : Below w.heap.size w w2 := (by refine belT ?_ hb; repeat (first | (with_reducible assumption) | (with_reducible exact Below.refl _ _) | (with_reducible apply below_alloc) | (with_reducible apply pw_below_drewN) | (with_reducible apply below_drew1) | ((with_reducible refine setC ?_ ?_ _); rotate_left; omega)))
      have c0 := cellB (v := some (.string (rd_T85 l i).f0)) hb (b := wr.heap.size) (o := 0) (by simp) (by go_simp)
      have c6 := cellB (v := some (.int .i64 (rd_T85 l i).f2)) hb (b := wr.heap.size) (o := 6) (by simp) (by go_simp)
      cases hs : smallT (rd_T85 l i).f1
      · have he := all_not (p := scopeT) (rd85_get hlt) (by rw [hst.out, hs]; rfl)
        have HE := Aside0.mk he
        clear he hs
        go_wp2
        refine ret_ex rfl ?_; apply Exists.intro; refine ⟨?_, ?_, ?_⟩; (simp [results, Try.results53]; rfl)
        · rw [hx.out, HE.out]; rfl
        · exact hB2
      · cases h1 : shortB 100 (rd_T85 l i).f0
        · have d1 : decide ((100 : Int) < ((rd_T85 l i).f0.size : Int)) = true := by simp only [shortB, decide_eq_false_iff_not] at h1; simp; omega
          have d2 : decide (100 < (rd_T85 l i).f0.size) = true := by simp only [shortB, decide_eq_false_iff_not] at h1; simp; omega
          have he := all_not (p := scopeT) (rd85_get hlt) (by rw [hst.out, hs, h1]; rfl)
          have HE := Aside0.mk he
          clear he hs h1
          go_wp2
          refine ret_ex rfl ?_; apply Exists.intro; refine ⟨?_, ?_, ?_⟩; (simp [results, Try.results53]; rfl)
          · rw [hx.out, HE.out]; rfl
          · exact hB2
        · have d1 : decide ((100 : Int) < ((rd_T85 l i).f0.size : Int)) = false := by simp only [shortB, decide_eq_true_iff] at h1; simp; omega
          have d2 : decide (100 < (rd_T85 l i).f0.size) = false := by simp only [shortB, decide_eq_true_iff] at h1; simp; omega
          by_cases h2 : 0 ≤ (rd_T85 l i).f2
          · have d3 : decide ((rd_T85 l i).f2 < 0) = false := by simpa using h2
            by_cases h3 : (rd_T85 l i).f2 ≤ 1000
            · have d4 : decide (1000 < (rd_T85 l i).f2) = false := by simpa using h3
              have he := all_take (p := scopeT) (rd85_get hlt) ht.out
              rw [hst.out, hs, h1, decide_eq_true h2, decide_eq_true h3] at he
              have HE := Aside0.mk he
              clear he hs h1 h2 h3
              go_wp2
              go_roundg (gk - 1)
              · exact ⟨i + 1, by simp, by have := HI.out; omega, ⟨HE.out⟩, hB2⟩
              · have := HI.out; omega
            · have d4 : decide (1000 < (rd_T85 l i).f2) = true := by simpa using h3
              have he := all_not (p := scopeT) (rd85_get hlt) (by rw [hst.out, hs, h1, decide_eq_false h3]; simp)
              have HE := Aside0.mk he
              clear he hs h1 h2 h3
              go_wp2
              refine ret_ex rfl ?_; apply Exists.intro; refine ⟨?_, ?_, ?_⟩; (simp [results, Try.results53]; rfl)
              · rw [hx.out, HE.out]; rfl
              · exact hB2
          · have d3 : decide ((rd_T85 l i).f2 < 0) = true := by simpa using h2
            have he := all_not (p := scopeT) (rd85_get hlt) (by rw [hst.out, hs, h1, decide_eq_false h2]; simp)
            have HE := Aside0.mk he
            clear he hs h1 h2
            go_wp2
            refine ret_ex rfl ?_; apply Exists.intro; refine ⟨?_, ?_, ?_⟩; (simp [results, Try.results53]; rfl)
            · rw [hx.out, HE.out]; rfl
            · exact hB2
    · have he : l.all scopeT = true := by
        have e1 := ht.out
        rwa [List.take_of_length_le (by omega)] at e1
      have HE := Aside0.mk he
      clear he
      go_wp2
      refine ret_ex rfl ?_; apply Exists.intro; refine ⟨?_, ?_, ?_⟩; (simp [results, Try.results53]; rfl)
      · rw [hx.out, HE.out]; simp; omega
      · exact hB
def fewL (l : List S30) : Bool := l.all (fun v => shortB 100 v.f2) && decide (l.length ≤ 20)
theorem rd30_get {l : List S30} {i : Nat} (h : i < l.length) : l[i]? = some (rd_T30 l i) := by simp [rd_T30, h]
set_option maxHeartbeats 8000000 in
set_option maxRecDepth 100000 in
theorem fewL_calls (l : List S30) (A : Option Addr) (c : Nat) (w : World) (ha : k30.C w A l.length l) :
    Calls Try.prog 25 #[.slice A l.length c] w fun e w' => e = .returned (.bool (fewL l)) ∧ Below w.heap.size w w' := by
  have hmax := Kd.C_max ha
  have HA := Aside0.mk ha
  have hx : Aside0 (fewL l = (l.all (fun v => shortB 100 v.f2) && decide (l.length ≤ 20))) := ⟨rfl⟩
  clear ha
  go_enter Try.func25, Try.ntmps25
  go_wp2_with fail
  go_loopg [7] l.length (fun k s8 wr => ∃ i : Nat, s8 = .int .i64 i ∧ i + k = l.length ∧ Aside0 ((l.take i).all (fun v => shortB 100 v.f2) = true) ∧ Below w.heap.size w wr)
  · exact ⟨0, rfl, by omega, ⟨by simp⟩, Below.refl _ _⟩
  · obtain ⟨i, rfl, hi, ht, hB⟩ := hrel
    by_cases hlt : i < l.length
    · obtain ⟨ad, rfl, g0, g1, g2⟩ := at_T30 (Kd.C_below HA.out hB) i (by omega) (by omega)
      simp only [Int.toNat_natCast] at g0 g1 g2
      have HI := Aside0.mk hi
      have q1 := World.block_lt_of_cell? wr _ g0
      clear hi
      cases hs : shortB 100 (rd_T30 l i).f2
      · have d1 : decide ((100 : Int) < ((rd_T30 l i).f2.size : Int)) = true := by simp only [shortB, decide_eq_false_iff_not] at hs; simp; omega
        have d2 : decide (100 < (rd_T30 l i).f2.size) = true := by simp only [shortB, decide_eq_false_iff_not] at hs; simp; omega
        have he := all_not (p := fun v : S30 => shortB 100 v.f2) (rd30_get hlt) hs
        have HE := Aside0.mk he
        clear he hs
        go_wp2
        refine ret_ex rfl ?_; apply Exists.intro; refine ⟨?_, ?_, ?_⟩; (simp [results, Try.results25]; rfl)
        · rw [hx.out, HE.out]; rfl
        · repeat (first | (with_reducible assumption) | (with_reducible exact Below.refl _ _) | (with_reducible apply below_alloc) | (with_reducible apply pw_below_drewN) | (with_reducible apply below_drew1) | ((with_reducible refine setC ?_ ?_ _); rotate_left; omega))
      · have d1 : decide ((100 : Int) < ((rd_T30 l i).f2.size : Int)) = false := by simp only [shortB, decide_eq_true_iff] at hs; simp; omega
        have d2 : decide (100 < (rd_T30 l i).f2.size) = false := by simp only [shortB, decide_eq_true_iff] at hs; simp; omega
        have he := all_take (p := fun v : S30 => shortB 100 v.f2) (rd30_get hlt) ht.out
        rw [hs] at he
        have HE := Aside0.mk he
        clear he hs
        go_wp2
        go_roundg (gk - 1)
        · exact ⟨i + 1, by simp, by have := HI.out; omega, ⟨HE.out⟩, (by repeat (first | (with_reducible assumption) | (with_reducible exact Below.refl _ _) | (with_reducible apply below_alloc) | (with_reducible apply pw_below_drewN) | (with_reducible apply below_drew1) | ((with_reducible refine setC ?_ ?_ _); rotate_left; omega)))⟩
        · have := HI.out; omega
    · have he : l.all (fun v => shortB 100 v.f2) = true := by
        have e1 := ht.out
        rwa [List.take_of_length_le (by omega)] at e1
      have HE := Aside0.mk he
      clear he
      go_wp2
      refine ret_ex rfl ?_; apply Exists.intro; refine ⟨?_, ?_, ?_⟩; (simp [results, Try.results25]; rfl)
      · rw [hx.out, HE.out]; simp; omega
      · exact hB
end Go.Proofs.Ytfneopcbnlfkiaa.Ex
