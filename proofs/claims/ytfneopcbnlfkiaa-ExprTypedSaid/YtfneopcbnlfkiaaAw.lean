/-
plenumlaw22.awake: the chapter's examples.
-/
import Derived.Test.YtfneopcbnlfkiaaMk
import Derived.Test.YtfneopcbnlfkiaaEq
namespace Go.Proofs.Ytfneopcbnlfkiaa.Ex
open Go.RowKit Go.Proofs.YtfneopcbnlfkiaaW.PrintWords Go.Proofs.Ytfneopcbnlfkiaa.Kin Go.Proofs.Ytfneopcbnlfkiaa.Num Go.Proofs.Ytfneopcbnlfkiaa.Base Go.Proofs.YtfneopcbnlfkiaaW.PrintLast
set_option linter.unusedVariables false
set_option linter.unusedSimpArgs false
attribute [local go_sem high] eqA30
theorem eval_some (y : S32) {rs : List S30} (A : Option Addr) (c : Nat) (Ar : Option Addr) (cr : Nat) (w : World) (hr : k30.C w Ar rs.length rs) (ha : k32.C w A y.f5.length y.f5) :
    Calls Try.prog 40 #[enE y A c, .slice Ar rs.length cr] w fun x w' => ∃ r, Aside0 (evalX rs y = r) ∧ x = .returned (enVE r) ∧ Below w.heap.size w w' := (eval_calls y A c Ar rs cr w hr ha).mono fun _ _ h => ⟨_, Aside0.mk rfl, h.1, h.2⟩
/-- A literal; an operator of one part, of two. -/
abbrev litE (v : S30) : S32 := ⟨1, ⟨#[]⟩, ⟨#[]⟩, 0, v, []⟩
abbrev two (op : Int) (a b : S32) : S32 := ⟨op, ⟨#[]⟩, ⟨#[]⟩, 0, z30, [a, b]⟩
abbrev one (op : Int) (a : S32) : S32 := ⟨op, ⟨#[]⟩, ⟨#[]⟩, 0, z30, [a]⟩
def n0 : S30 := ⟨1, 0, ⟨#[]⟩⟩
theorem ev1 : evalX [] (two 17 (litE z30) (litE n0)) = (n0, 0) := by rfl
theorem ev2 : evalX [] (two 8 (litE n0) (litE n0)) = (z30, 11) := by rfl
set_option maxHeartbeats 8000000 in
set_option maxRecDepth 100000 in
theorem awake_calls (w : World) : Calls Try.prog 39 #[] w fun e w' => e = .returned (.bool true) ∧ Below w.heap.size w w' := by
  have hu := Try.underlying30
  have hu32 := Try.underlying32
  go_enter Try.func39, Try.ntmps39
  go_wp2_with fail
  refine (eval_some (two 17 (litE z30) (litE n0)) (rs := []) _ _ none 0 _ ?_ ?_).mono ?_
  · exact Kd.C_nil _ _
  · exact mk2 (Nat.le_refl 0) (Kd.C_nil _ _) (Nat.le_refl 0) (Kd.C_nil _ _) (by go_simp <;> rfl) (by go_simp <;> rfl) (by go_simp <;> rfl) (by go_simp <;> rfl) (by go_simp <;> rfl) (by go_simp <;> rfl) (by go_simp <;> rfl) (by go_simp <;> rfl) (by go_simp <;> rfl) (by go_simp <;> rfl) (by go_simp <;> rfl) (by go_simp <;> rfl) (by go_simp <;> rfl) (by go_simp <;> rfl) (by go_simp <;> rfl) (by go_simp <;> rfl)
  rintro e w2 ⟨r1, HE1, rfl, hb1⟩; have E1 : r1 = (n0, 0) := HE1.out.symm.trans ev1; have b1 : (r1.2 == 0) = true := (by rw [E1]; rfl); have b2 : (r1.1.f0 == 1) = true := (by rw [E1]; rfl); have b3 : (r1.1.f1 == 0) = true := (by rw [E1]; rfl); have b4 : r1.1.f2.toList = [] := (by rw [E1]; simp [n0]); clear E1 HE1; have hB1 : Below w.heap.size w w2 := (by refine belT ?_ hb1; repeat (first | assumption | exact Below.refl _ _ | apply below_alloc | apply pw_below_drewN | apply below_drew1 | (refine setC ?_ (by omega) _))); obtain ⟨hc1, hf1⟩ := bcell hb1; have hz1 := hb1.size; (simp at hz1); obtain ⟨z0, z1, z2, z3, z4, z5, z6⟩ := lt_chain6 (show w.heap.size < w2.heap.size by omega)
  go_wp2_with fail
  refine (eval_some (two 8 (litE n0) (litE n0)) (rs := []) _ _ none 0 _ ?_ ?_).mono ?_
  · exact Kd.C_nil _ _
  · exact mk2 (Nat.le_refl 0) (Kd.C_nil _ _) (Nat.le_refl 0) (Kd.C_nil _ _) (by go_simp <;> rfl) (by go_simp <;> rfl) (by go_simp <;> rfl) (by go_simp <;> rfl) (by go_simp <;> rfl) (by go_simp <;> rfl) (by go_simp <;> rfl) (by go_simp <;> rfl) (by go_simp <;> rfl) (by go_simp <;> rfl) (by go_simp <;> rfl) (by go_simp <;> rfl) (by go_simp <;> rfl) (by go_simp <;> rfl) (by go_simp <;> rfl) (by go_simp <;> rfl)
  rintro e w4 ⟨r2, HE2, rfl, hb2⟩; have E2 : r2 = (z30, 11) := HE2.out.symm.trans ev2; have b5 : (r2.2 == 11) = true := (by rw [E2]; rfl); clear E2 HE2; have hB2 : Below w.heap.size w w4 := (by refine belT ?_ hb2; repeat (first | assumption | exact Below.refl _ _ | apply below_alloc | apply pw_below_drewN | apply below_drew1 | (refine setC ?_ (by omega) _))); obtain ⟨hc2, hf2⟩ := bcell hb2; have hz2 := hb2.size; (simp at hz2); obtain ⟨y0, y1, y2, y3, y4, y5, y6⟩ := lt_chain6 (show w.heap.size < w4.heap.size by omega); obtain ⟨x0, x1, x2, x3, x4, x5, x6⟩ := lt_chain6 (show w2.heap.size < w4.heap.size by omega)
  go_wp2
  refine ret_ex rfl ?_
  apply Exists.intro
  refine ⟨?_, ?_, ?_⟩
  · simp [results, Try.results39]; (try go_simp); rfl
  · simp
  · repeat (first | assumption | exact Below.refl _ _ | apply below_alloc | apply pw_below_drewN | apply below_drew1 | (refine setC ?_ (by omega) _))
end Go.Proofs.Ytfneopcbnlfkiaa.Ex
