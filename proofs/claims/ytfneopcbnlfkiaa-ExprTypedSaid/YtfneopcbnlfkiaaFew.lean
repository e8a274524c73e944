/-
plenumlaw02.Few, plenumlaw20.Light: they return, and write nothing that was there.
-/
import Derived.Test.YtfneopcbnlfkiaaAw
import Derived.Deep.LoopGhost
namespace Go.Proofs.Ytfneopcbnlfkiaa.Ex
open Go.RowKit Go.Proofs.YtfneopcbnlfkiaaW.PrintWords Go.Proofs.Ytfneopcbnlfkiaa.Kin Go.Proofs.Ytfneopcbnlfkiaa.Num Go.Proofs.Ytfneopcbnlfkiaa.Base Go.Proofs.YtfneopcbnlfkiaaW.PrintLast
set_option linter.unusedVariables false
set_option linter.unusedSimpArgs false
/-- A Bool is returned. -/
def isBool (e : Ending) : Prop := ∃ b, e = .returned (.bool b)
set_option maxHeartbeats 4000000 in
set_option maxRecDepth 100000 in
/-- Few returns. -/
theorem few_calls (rs : List S30) (A : Option Addr) (cr : Nat) (w : World) (hr : k30.C w A rs.length rs) :
    Calls Try.prog 25 #[.slice A rs.length cr] w fun e w' => isBool e ∧ Below w.heap.size w w' := by
  have hu := Try.underlying30
  have hmax := Kd.C_max hr
  have HR := Aside0.mk hr
  clear hr
  go_enter Try.func25, Try.ntmps25
  go_wp2_with fail
  go_loopg [7] rs.length (fun k s7 wr => ∃ i : Nat, s7 = .int .i64 i ∧ i + k = rs.length ∧ Below w.heap.size w wr)
  · exact ⟨0, rfl, by omega, Below.refl _ _⟩
  · obtain ⟨i, rfl, hi, hB⟩ := hrel
    by_cases hlt : i < rs.length
    · obtain ⟨ad, rfl, g0, g1, g2⟩ := at_T30 (Kd.C_below HR.out hB) i (by omega) (by omega)
      simp only [Int.toNat_natCast] at g0 g1 g2
      have hl := World.block_lt_of_cell? wr _ g0
      have HI := Aside0.mk hi
      clear hi
      go_wp2
      · refine ret_ex rfl ?_
        apply Exists.intro
        refine ⟨?_, ?_, ?_⟩
        · simp [results, Try.results25]; rfl
        · exact ⟨_, rfl⟩
        · exact below_alloc hB _
      · go_roundg (gk - 1)
        · exact ⟨i + 1, by simp, by have := HI.out; omega, below_alloc hB _⟩
        · have := HI.out; omega
    · go_wp2
      refine ret_ex rfl ?_
      apply Exists.intro
      refine ⟨?_, ?_, ?_⟩
      · simp [results, Try.results25]; rfl
      · exact ⟨_, rfl⟩
      · exact hB
set_option maxHeartbeats 4000000 in
set_option maxRecDepth 100000 in
/-- Light returns. -/
theorem light_calls (y : S32) (A : Option Addr) (c : Nat) (d : Int) (w : World) (ha : k32.C w A y.f5.length y.f5) :
    Calls Try.prog 21 #[enE y A c, .int .i64 d] w fun e w' => isBool e ∧ Below w.heap.size w w' := by
  have ih : ∀ a ∈ y.f5, ∀ A' c' d' W, k32.C W A' a.f5.length a.f5 → Calls Try.prog 21 #[enE a A' c', .int .i64 d'] W fun e w' => isBool e ∧ Below W.heap.size W w' := fun a hm A' c' d' W h => light_calls a A' c' d' W h
  obtain ⟨op, t, n, kk, v, l⟩ := y
  simp only at ha ih
  have hu := Try.underlying30
  have hu32 := Try.underlying32
  have hmax := Kd.C_max ha
  have HA := Aside0.mk ha
  have IH := Aside0.mk ih
  clear ha ih
  go_enter Try.func21, Try.ntmps21
  go_wp2_with fail
  all_goals try (refine ret_ex rfl ?_; apply Exists.intro; refine ⟨?_, ?_, ?_⟩; (simp [results, Try.results21]; rfl); exact ⟨_, rfl⟩; exact below_alloc (Below.refl _ _) _)
  rename_i h1 h2 h3 _ _
  clear h1 h2 h3
  go_loopg [33] l.length (fun k s33 wr => ∃ i : Nat, s33 = .int .i64 i ∧ i + k = l.length ∧ Below w.heap.size w wr)
  · exact ⟨0, rfl, by omega, below_alloc (Below.refl _ _) _⟩
  · obtain ⟨i, rfl, hi, hB⟩ := hrel
    by_cases hlt : i < l.length
    · obtain ⟨ad, A7, c7, rfl, g0, g1, g2, g3, g4, g5, g6, g7, hl7, gA⟩ := at_T32 (Kd.C_below HA.out hB) i (by omega) (by omega)
      simp only [Int.toNat_natCast] at g0 g1 g2 g3 g4 g5 g6 g7
      have hl := World.block_lt_of_cell? wr _ g0
      have HI := Aside0.mk hi
      have GA := Aside0.mk gA
      have hm : Aside0 (rd_T32 l i ∈ l) := Aside0.mk (by rw [show rd_T32 l i = l[i] from by simp [rd_T32, hlt]]; exact List.getElem_mem hlt)
      clear hi gA
      go_wp2_with fail
      refine (IH.out _ hm.out _ _ _ _ (Kd.C_below GA.out (below_alloc (Below.refl _ _) _))).mono ?_
      rintro e w2 ⟨⟨b, rfl⟩, hb⟩
      have hB2 : Below w.heap.size w w2 := belT (below_alloc hB _) hb
      cases b
      · go_wp2
        refine ret_ex rfl ?_
        apply Exists.intro
        refine ⟨?_, ?_, ?_⟩
        · simp [results, Try.results21]; rfl
        · exact ⟨_, rfl⟩
        · exact hB2
      · go_wp2
        go_roundg (gk - 1)
        · exact ⟨i + 1, by simp, by have := HI.out; omega, hB2⟩
        · have := HI.out; omega
    · go_wp2
      refine ret_ex rfl ?_
      apply Exists.intro
      refine ⟨?_, ?_, ?_⟩
      · simp [results, Try.results21]; rfl
      · exact ⟨_, rfl⟩
      · exact hB
termination_by SizeOf.sizeOf y
decreasing_by have := List.sizeOf_lt_of_mem hm; cases y; simp at this ⊢; omega
end Go.Proofs.Ytfneopcbnlfkiaa.Ex
