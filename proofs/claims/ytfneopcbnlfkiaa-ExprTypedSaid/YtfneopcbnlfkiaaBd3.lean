/-
cat.Column, plenumlaw21.Small, plenumlaw22.Scoped, plenumlaw02.Few: what they return.
-/
import Derived.Test.YtfneopcbnlfkiaaBd2
import Derived.Deep.LoopGhost
namespace Go.Proofs.Ytfneopcbnlfkiaa.Ex
open Go.RowKit Go.Proofs.YtfneopcbnlfkiaaW.PrintWords Go.Proofs.Ytfneopcbnlfkiaa.Kin Go.Proofs.Ytfneopcbnlfkiaa.Num Go.Proofs.Ytfneopcbnlfkiaa.Base Go.Proofs.YtfneopcbnlfkiaaW.PrintLast
set_option linter.unusedVariables false
set_option linter.unusedSimpArgs false
def isInt2 (e : Ending) : Prop := ∃ a b : Int, e = .returned (.tuple #[.int .i64 a, .int .i64 b])
set_option maxHeartbeats 8000000 in
set_option maxRecDepth 100000 in
theorem column_calls (l : List S85) (A : Option Addr) (c : Nat) (t n : ByteArray) (w : World) (ha : k85.C w A l.length l) :
    Calls Try.prog 122 #[.slice A l.length c, .string t, .string n] w fun e w' => isInt2 e ∧ Below w.heap.size w w' := by
  have hmax := Kd.C_max ha
  have HA := Aside0.mk ha
  clear ha
  go_enter Try.func122, Try.ntmps122
  go_wp2_with fail
  go_loopg [16, 8, 9] l.length (fun k s16 s8 s9 wr => ∃ (i : Nat) (p q : Int), s16 = .int .i64 i ∧ s8 = .int .i64 p ∧ s9 = .int .i64 q ∧ i + k = l.length ∧ Below w.heap.size w wr)
  · exact ⟨0, 0, 0, rfl, rfl, rfl, by omega, Below.refl _ _⟩
  · obtain ⟨i, p, q, rfl, rfl, rfl, hi, hB⟩ := hrel
    by_cases hlt : i < l.length
    · obtain ⟨ad, A3, c3, A5, c5, rfl, g0, g1, g2, g3, g4, g5, g6, hl3, gA, hl5, gB⟩ := at_T85 (Kd.C_below HA.out hB) i (by omega) (by omega)
      simp only [Int.toNat_natCast] at g0 g1 g2 g3 g4 g5 g6
      have HI := Aside0.mk hi
      have GA := Aside0.mk gA
      have hmx := Kd.C_max gA
      have q1 := World.block_lt_of_cell? wr _ g0
      clear hi gA gB
      obtain ⟨wo, rfl⟩ : ∃ wo : World, wo = wr := ⟨_, rfl⟩
      obtain ⟨ko, rfl⟩ : ∃ ko : Nat, ko = gk := ⟨_, rfl⟩
      go_wp2_with fail
      all_goals first
        | (go_roundg (ko - 1)
           · exact ⟨i + 1, p, q, by simp, rfl, rfl, by have := HI.out; omega, (by repeat (first | (with_reducible assumption) | (with_reducible exact Below.refl _ _) | (with_reducible apply below_alloc) | (with_reducible apply pw_below_drewN) | (with_reducible apply below_drew1) | ((with_reducible refine setC ?_ ?_ _); rotate_left; omega)))⟩
           · have := HI.out; omega)
        | skip
      all_goals
        go_loopg [32, 8, 9] (rd_T85 l i).f1.f2.length (fun k s32 s8 s9 wq => ∃ (j : Nat) (p q : Int), s32 = .int .i64 j ∧ s8 = .int .i64 p ∧ s9 = .int .i64 q ∧ j + k = (rd_T85 l i).f1.f2.length ∧ Below w.heap.size w wq ∧ Below wo.heap.size wo wq ∧ wo.heap.size < wq.heap.size ∧ wq.cell? ⟨wo.heap.size, 6, none⟩ = some (.int .i64 (rd_T85 l i).f2))
        · exact ⟨0, p, q, rfl, rfl, rfl, by omega, (by repeat (first | (with_reducible assumption) | (with_reducible exact Below.refl _ _) | (with_reducible apply below_alloc) | (with_reducible apply pw_below_drewN) | (with_reducible apply below_drew1) | ((with_reducible refine setC ?_ ?_ _); rotate_left; omega))), (by repeat (first | (with_reducible assumption) | (with_reducible exact Below.refl _ _) | (with_reducible apply below_alloc) | (with_reducible apply pw_below_drewN) | (with_reducible apply below_drew1) | ((with_reducible refine setC ?_ ?_ _); rotate_left; omega))), by simp, by go_simp⟩
        · obtain ⟨j, p', q', rfl, rfl, rfl, hj, hB1, hBr, hlt1, h6⟩ := hrel
          by_cases hjl : j < (rd_T85 l i).f1.f2.length
          · obtain ⟨bd, rfl, k0, k1, k2⟩ := at_T87 (Kd.C_below GA.out hBr) j (by omega) (by omega)
            simp only [Int.toNat_natCast] at k0 k1 k2
            have HJ := Aside0.mk hj
            have q2 := World.block_lt_of_cell? wr _ k0
            clear hj
            go_wp2
            all_goals
              go_roundg (gk - 1)
              · exact ⟨j + 1, _, _, by simp, rfl, rfl, by have := HJ.out; omega, (by repeat (first | (with_reducible assumption) | (with_reducible exact Below.refl _ _) | (with_reducible apply below_alloc) | (with_reducible apply pw_below_drewN) | (with_reducible apply below_drew1) | ((with_reducible refine setC ?_ ?_ _); rotate_left; omega))), (by repeat (first | (with_reducible assumption) | (with_reducible exact Below.refl _ _) | (with_reducible apply below_alloc) | (with_reducible apply pw_below_drewN) | (with_reducible apply below_drew1) | ((with_reducible refine setC ?_ ?_ _); rotate_left; omega))), by simp; omega, cellB (W := wr) (by repeat (first | (with_reducible assumption) | (with_reducible exact Below.refl _ _) | (with_reducible apply below_alloc) | (with_reducible apply pw_below_drewN) | (with_reducible apply below_drew1) | ((with_reducible refine setC ?_ ?_ _); rotate_left; omega))) (by omega) h6⟩
              · have := HJ.out; omega
          · go_wp2
            go_roundg (ko - 1)
            · exact ⟨i + 1, p', q', by simp, rfl, rfl, by have := HI.out; omega, hB1⟩
            · have := HI.out; omega
    · go_wp2
      all_goals refine ret_ex rfl ?_; apply Exists.intro; refine ⟨?_, ?_, ?_⟩; (simp [results, Try.results122]; rfl)
      all_goals first | exact ⟨_, _, rfl⟩ | exact hB
end Go.Proofs.Ytfneopcbnlfkiaa.Ex
