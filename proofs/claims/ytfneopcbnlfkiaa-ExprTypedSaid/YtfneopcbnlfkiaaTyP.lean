/-
A bound expression without sums comes to a value of its kind, or to Null, or numbers end.
-/
import Derived.Test.YtfneopcbnlfkiaaBd5
namespace Go.Proofs.Ytfneopcbnlfkiaa.Ex
open Go.RowKit Go.Proofs.YtfneopcbnlfkiaaW.PrintWords Go.Proofs.Ytfneopcbnlfkiaa.Kin Go.Proofs.Ytfneopcbnlfkiaa.Num Go.Proofs.Ytfneopcbnlfkiaa.Base Go.Proofs.YtfneopcbnlfkiaaW.PrintLast
set_option linter.unusedVariables false
set_option linter.unusedSimpArgs false
/-- A value is Null or of a kind; or numbers end. -/
def okR (p : S30 × Int) (k : Int) : Prop := (p.2 = 0 ∧ (p.1.f0 = 0 ∨ p.1.f0 = k)) ∨ p.2 = 10 ∨ p.2 = 11
theorem truth_kind (b : Bool) : (truthV b).f0 = 1 := rfl
theorem both_kind (o : Bool) (x y : S30) : (bothV o x y).f0 = 0 ∨ (bothV o x y).f0 = 1 := by
  unfold bothV
  split
  · exact Or.inr rfl
  · split
    · exact Or.inl rfl
    · exact Or.inr rfl
theorem compare_kind (op : Int) (x y : S30) : (compareV op x y).f0 = 0 ∨ (compareV op x y).f0 = 1 := by
  unfold compareV
  split
  · exact Or.inl rfl
  · exact Or.inr rfl
theorem apply_ok (op : Int) (x y : S30) : okR (applyV op x y) 1 := by
  unfold applyV
  split
  · refine Or.inl ⟨rfl, ?_⟩
    split
    · exact Or.inr rfl
    · exact Or.inl rfl
  · split
    · exact Or.inl ⟨rfl, both_kind _ _ _⟩
    · split
      · exact Or.inl ⟨rfl, Or.inl rfl⟩
      · split
        · exact Or.inl ⟨rfl, Or.inr rfl⟩
        · split
          · exact Or.inr (Or.inr rfl)
          · exact Or.inr (Or.inl rfl)
theorem fin_ok (op : Int) (x y : S30) : okR (fin op x y) 1 := by
  unfold fin
  split
  · exact Or.inl ⟨rfl, Or.inr rfl⟩
  · split
    · exact Or.inl ⟨rfl, compare_kind _ _ _⟩
    · exact apply_ok _ _ _
theorem okR_err {p : S30 × Int} {k : Int} (h : okR p k) (hn : p.2 ≠ 0) : p.2 = 10 ∨ p.2 = 11 := by
  rcases h with ⟨h, _⟩ | h
  · exact absurd h hn
  · exact h
theorem seq1_ok {op : Int} {p : S30 × Int} {k : Int} (h : okR p k) : okR (seq1 op p) 1 := by
  unfold seq1
  split
  · exact fin_ok _ _ _
  · rename_i hn; have := okR_err h hn; exact Or.inr this
theorem seq2_ok {op : Int} {p q : S30 × Int} {k k' : Int} (h : okR p k) (h' : okR q k') : okR (seq2 op p q) 1 := by
  unfold seq2
  split
  · split
    · exact fin_ok _ _ _
    · rename_i hn; have := okR_err h' hn; exact Or.inr this
  · rename_i hn; have := okR_err h hn; exact Or.inr this
/-- Of each column of each scope: a row's value there is Null or of its kind. -/
def colOk (rs : List S30) (s : S85) (j : Nat) : Prop := s.f2 + j < rs.length → (rd_T30 rs (s.f2 + j)).f0 = 0 ∨ (rd_T30 rs (s.f2 + j)).f0 = (rd_T87 s.f1.f2 j).f1
def colsOk (rs : List S30) (s : S85) : Prop := ∀ j : Nat, j < s.f1.f2.length → colOk rs s j
/-- Whether a place is a column of a scope. -/
def covers (k : Int) (s : S85) : Bool := decide (s.f2 ≤ k) && decide (k - s.f2 < s.f1.f2.length)
/-- A value that no scope knows is Null. -/
def rowOk (l : List S85) (rs : List S30) (k : Nat) : Prop := l.any (covers k) = true ∨ (rd_T30 rs k).f0 = 0
theorem scoped_mem {l : List S85} (h : scopedL l = true) {s : S85} (hs : s ∈ l) : 0 ≤ s.f2 ∧ s.f2 ≤ 1000 ∧ s.f1.f2.length ≤ 14 := by
  simp only [scopedL, Bool.and_eq_true, List.all_eq_true] at h
  have := h.1 s hs
  simp only [scopeT, smallT, Bool.and_eq_true, decide_eq_true_iff] at this
  omega
theorem inSc_covers {l : List S85} (h : scopedL l = true) {s : S85} (hs : s ∈ l) {k : Int} (h0 : 0 ≤ k) (h1 : k ≤ 1000) : inSc k s = covers k s := by
  obtain ⟨h2, h3, h4⟩ := scoped_mem h hs
  have hw : wrap64 (k - s.f2) = k - s.f2 := by unfold wrap64; omega
  rw [Bool.eq_iff_iff]
  simp only [inSc, covers, hw, Bool.and_eq_true, decide_eq_true_iff]
  omega
theorem kind_ok {l : List S85} {rs : List S30} (h : scopedL l = true) (hr : rs.length ≤ 20) (h1 : ∀ s ∈ l, colsOk rs s) (h2 : ∀ k : Nat, k < rs.length → rowOk l rs k) {k : Int} (h0 : 0 ≤ k) (hk : k < rs.length) :
    (rd_T30 rs k).f0 = 0 ∨ (rd_T30 rs k).f0 = kindAt l k := by
  unfold kindAt
  cases hf : l.find? (inSc k) with
  | none =>
    left
    have hn := List.find?_eq_none.1 hf
    obtain ⟨n, rfl⟩ := Int.eq_ofNat_of_zero_le h0
    rcases h2 n (by omega) with h3 | h3
    · obtain ⟨s, hs, hc⟩ := List.any_eq_true.1 h3
      exact absurd ((inSc_covers h hs (by omega) (by omega)).trans hc) (hn s hs)
    · exact h3
  | some s =>
    have hs := List.mem_of_find?_eq_some hf
    have hc : inSc k s = true := List.find?_some hf
    rw [inSc_covers h hs h0 (by omega)] at hc
    obtain ⟨h3, h4, h5⟩ := scoped_mem h hs
    simp only [covers, Bool.and_eq_true, decide_eq_true_iff] at hc
    have hw : wrap64 (k - s.f2) = k - s.f2 := by unfold wrap64; omega
    have := h1 s hs (k - s.f2).toNat (by omega) (by omega)
    rw [show s.f2 + ((k - s.f2).toNat : Int) = k by omega, show (((k - s.f2).toNat : Nat) : Int) = k - s.f2 by omega] at this
    simp only [hw]
    exact this
theorem val_ok {l : List S85} {rs : List S30} (h : scopedL l = true) (hr : rs.length ≤ 20) (h1 : ∀ s ∈ l, colsOk rs s) (h2 : ∀ k : Nat, k < rs.length → rowOk l rs k) (n : Int) :
    ((valAt rs n).f0 = 0 ∨ (valAt rs n).f0 = kindAt l n) ∧ ((valAt rs n).f0 = 0 ∨ (valAt rs n).f0 = placeK l n) := by
  by_cases hn : 0 ≤ n ∧ n < rs.length
  · have hv : valAt rs n = rd_T30 rs n := if_pos hn
    have hp : placeK l n = kindAt l n := if_neg (by omega)
    rw [hv, hp]
    exact ⟨kind_ok h hr h1 h2 hn.1 hn.2, kind_ok h hr h1 h2 hn.1 hn.2⟩
  · have hv : valAt rs n = z30 := if_neg hn
    rw [hv]
    exact ⟨Or.inl rfl, Or.inl rfl⟩
theorem typed_ok {l : List S85} {rs : List S30} (h : scopedL l = true) (hr : rs.length ≤ 20) (h1 : ∀ s ∈ l, colsOk rs s) (h2 : ∀ k : Nat, k < rs.length → rowOk l rs k) {x : S32} {k : Int} (hw : WT l x k) (hs : sumsX x = false) : okR (evalX rs x) k := by
  induction hw with
  | lit x hx h5 =>
    obtain ⟨op, t, n, kk, v, ll⟩ := x
    simp only at hx h5
    subst hx h5
    refine Or.inl ⟨by simp [evalX], Or.inr (by simp [evalX])⟩
  | pos x hx h5 =>
    obtain ⟨op, t, n, kk, v, ll⟩ := x
    simp only at hx h5
    subst hx h5
    have := (val_ok h hr h1 h2 kk).2
    refine Or.inl ⟨by simp [evalX], ?_⟩
    simpa [evalX] using this
  | col x hx h5 =>
    obtain ⟨op, t, n, kk, v, ll⟩ := x
    simp only at hx h5
    subst hx h5
    have := (val_ok h hr h1 h2 kk).1
    refine Or.inl ⟨by simp [evalX], ?_⟩
    simpa [evalX] using this
  | sum x k hx => rw [sumsX_eq, hx] at hs; simp at hs
  | op x kf hp o1 o2 o3 ha ih =>
    obtain ⟨op, t, n, kk, v, ll⟩ := x
    simp only at hp o1 o2 o3 ha ih
    rw [sumsX_eq] at hs
    simp only [Bool.or_eq_false_iff] at hs
    obtain ⟨hs1, hs2⟩ := hs
    have hso : ¬ (20 ≤ op ∧ op ≤ 23) := by simpa [sumOp] using hs1
    have ih' : ∀ a ∈ ll, okR (evalX rs a) (kf a) := fun a ha' => ih a ha' (by simpa using List.any_eq_false.1 hs2 a ha')
    match ll, hp, ih' with
    | [], hp, _ =>
      exfalso
      simp only [List.length_nil, parts] at hp
      split at hp <;> (try split at hp) <;> (try split at hp) <;> omega
    | [a], hp, ih' =>
      have hop : op = 4 ∨ op = 16 ∨ op = 19 := by
        simp only [List.length_cons, List.length_nil, parts] at hp
        split at hp <;> (try split at hp) <;> (try split at hp) <;> omega
      simp only [evalX]
      rw [if_pos hop]
      exact seq1_ok (ih' a (by simp))
    | [a, b], hp, ih' =>
      have hop : 5 ≤ op ∧ op ≤ 18 ∧ op ≠ 16 := by
        simp only [List.length_cons, List.length_nil, parts] at hp
        split at hp <;> (try split at hp) <;> (try split at hp) <;> omega
      simp only [evalX]
      rw [if_pos hop]
      exact seq2_ok (ih' a (by simp)) (ih' b (by simp))
    | _ :: _ :: _ :: _, hp, _ =>
      exfalso
      have := parts_le op
      simp only [List.length_cons] at hp
      omega
end Go.Proofs.Ytfneopcbnlfkiaa.Ex
