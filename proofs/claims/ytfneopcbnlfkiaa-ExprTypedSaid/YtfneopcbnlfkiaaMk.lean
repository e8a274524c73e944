/-
Rows of expressions that were just laid.
-/
import Derived.Test.YtfneopcbnlfkiaaEval
namespace Go.Proofs.Ytfneopcbnlfkiaa.Ex
open Go.RowKit Go.Proofs.YtfneopcbnlfkiaaW.PrintWords Go.Proofs.Ytfneopcbnlfkiaa.Kin Go.Proofs.Ytfneopcbnlfkiaa.Num Go.Proofs.Ytfneopcbnlfkiaa.Base Go.Proofs.YtfneopcbnlfkiaaW.PrintLast
set_option linter.unusedVariables false
set_option linter.unusedSimpArgs false
theorem sz32 : k32.sz = 8 := rfl
theorem mk1 {w : World} {B : Nat} {a : S32} {A c} (l : a.f5.length ≤ c) (g : k32.C w A a.f5.length a.f5) (h0 : w.cell? ⟨B, 0, none⟩ = some (.int .i64 a.f0)) (h1 : w.cell? ⟨B, 1, none⟩ = some (.string a.f1)) (h2 : w.cell? ⟨B, 2, none⟩ = some (.string a.f2)) (h3 : w.cell? ⟨B, 3, none⟩ = some (.int .i64 a.f3)) (h4 : w.cell? ⟨B, 4, none⟩ = some (.int .i64 a.f4.f0)) (h5 : w.cell? ⟨B, 5, none⟩ = some (.int .i64 a.f4.f1)) (h6 : w.cell? ⟨B, 6, none⟩ = some (.string a.f4.f2)) (h7 : w.cell? ⟨B, 7, none⟩ = some (.slice A a.f5.length c)) : k32.C w (some ⟨B, 0, none⟩) 1 [a] := by
  refine ⟨rfl, by omega, fun _ => ⟨_, rfl, fun j p hj => ?_⟩⟩
  match j with
  | 0 =>
    obtain rfl : a = p := by simpa using hj
    refine ⟨_, rfl, k32_mk w a l g, fun i u hu => ?_⟩
    match i with
    | 0 => obtain rfl := (Option.some.inj hu); exact h0
    | 1 => obtain rfl := (Option.some.inj hu); exact h1
    | 2 => obtain rfl := (Option.some.inj hu); exact h2
    | 3 => obtain rfl := (Option.some.inj hu); exact h3
    | 4 => obtain rfl := (Option.some.inj hu); exact h4
    | 5 => obtain rfl := (Option.some.inj hu); exact h5
    | 6 => obtain rfl := (Option.some.inj hu); exact h6
    | 7 => obtain rfl := (Option.some.inj hu); exact h7
    | i + 8 => simp at hu
  | j + 1 => simp at hj
theorem mk2 {w : World} {B : Nat} {a b : S32} {A c A' c'} (l : a.f5.length ≤ c) (g : k32.C w A a.f5.length a.f5) (l' : b.f5.length ≤ c') (g' : k32.C w A' b.f5.length b.f5) (h0 : w.cell? ⟨B, 0, none⟩ = some (.int .i64 a.f0)) (h1 : w.cell? ⟨B, 1, none⟩ = some (.string a.f1)) (h2 : w.cell? ⟨B, 2, none⟩ = some (.string a.f2)) (h3 : w.cell? ⟨B, 3, none⟩ = some (.int .i64 a.f3)) (h4 : w.cell? ⟨B, 4, none⟩ = some (.int .i64 a.f4.f0)) (h5 : w.cell? ⟨B, 5, none⟩ = some (.int .i64 a.f4.f1)) (h6 : w.cell? ⟨B, 6, none⟩ = some (.string a.f4.f2)) (h7 : w.cell? ⟨B, 7, none⟩ = some (.slice A a.f5.length c)) (k0 : w.cell? ⟨B, 8, none⟩ = some (.int .i64 b.f0)) (k1 : w.cell? ⟨B, 9, none⟩ = some (.string b.f1)) (k2 : w.cell? ⟨B, 10, none⟩ = some (.string b.f2)) (k3 : w.cell? ⟨B, 11, none⟩ = some (.int .i64 b.f3)) (k4 : w.cell? ⟨B, 12, none⟩ = some (.int .i64 b.f4.f0)) (k5 : w.cell? ⟨B, 13, none⟩ = some (.int .i64 b.f4.f1)) (k6 : w.cell? ⟨B, 14, none⟩ = some (.string b.f4.f2)) (k7 : w.cell? ⟨B, 15, none⟩ = some (.slice A' b.f5.length c')) : k32.C w (some ⟨B, 0, none⟩) 2 [a, b] := by
  refine ⟨rfl, by omega, fun _ => ⟨_, rfl, fun j p hj => ?_⟩⟩
  match j with
  | 0 =>
    obtain rfl : a = p := by simpa using hj
    refine ⟨_, rfl, k32_mk w a l g, fun i u hu => ?_⟩
    match i with
    | 0 => obtain rfl := (Option.some.inj hu); exact h0
    | 1 => obtain rfl := (Option.some.inj hu); exact h1
    | 2 => obtain rfl := (Option.some.inj hu); exact h2
    | 3 => obtain rfl := (Option.some.inj hu); exact h3
    | 4 => obtain rfl := (Option.some.inj hu); exact h4
    | 5 => obtain rfl := (Option.some.inj hu); exact h5
    | 6 => obtain rfl := (Option.some.inj hu); exact h6
    | 7 => obtain rfl := (Option.some.inj hu); exact h7
    | i + 8 => simp at hu
  | 1 =>
    obtain rfl : b = p := by simpa using hj
    refine ⟨_, rfl, k32_mk w b l' g', fun i u hu => ?_⟩
    match i with
    | 0 => obtain rfl := (Option.some.inj hu); exact k0
    | 1 => obtain rfl := (Option.some.inj hu); exact k1
    | 2 => obtain rfl := (Option.some.inj hu); exact k2
    | 3 => obtain rfl := (Option.some.inj hu); exact k3
    | 4 => obtain rfl := (Option.some.inj hu); exact k4
    | 5 => obtain rfl := (Option.some.inj hu); exact k5
    | 6 => obtain rfl := (Option.some.inj hu); exact k6
    | 7 => obtain rfl := (Option.some.inj hu); exact k7
    | i + 8 => simp at hu
  | j + 2 => simp at hj
end Go.Proofs.Ytfneopcbnlfkiaa.Ex
