/- One element put into dated evidence (plain). -/
import Derived.Test.YteoonedddgiacaaEvdA
import Derived.Test.YteoonedddgiacaaDecP
namespace Go.Proofs.Yteoonedddgiacaa.Rec
open Go Go.Proofs.Yteoonedddgiacaa.Ab Go.Proofs.Yteoonedddgiacaa.Il
set_option maxRecDepth 10000
set_option linter.unusedSimpArgs false
set_option linter.unusedVariables false

theorem es_lt {r : Rc} {es : List Dt} (hE : GoodE r es) : ∀ (d i : Nat), i + d + 1 < es.length → (es.getD i default).n < (es.getD (i + d + 1) default).n
  | 0, i, h => (hE.2 (i + 1) h).2.2 (by omega)
  | d + 1, i, h => Int.lt_trans (es_lt hE d i (by omega)) ((hE.2 (i + (d + 1) + 1) h).2.2 (by omega))
/-- The first place whose number is not below. -/
def pA (es : List Dt) (x : Dt) : Nat := lowI x.n (es.map Dt.n)
/-- The number is there already. -/
def fA (es : List Dt) (x : Dt) : Prop := pA es x < es.length ∧ (es.getD (pA es x) default).n = x.n
instance (es : List Dt) (x : Dt) : Decidable (fA es x) := inferInstanceAs (Decidable (_ ∧ _))
theorem ns_get {es : List Dt} {i : Nat} (h : i < es.length) : (es.map Dt.n).getD i default = (es.getD i default).n := by
  simp [List.getD_eq_getElem?_getD, List.getElem?_map, List.getElem?_eq_getElem h]
theorem pA_le (es : List Dt) (x : Dt) : pA es x ≤ es.length := by
  have := lowI_le x.n (es.map Dt.n)
  rwa [List.length_map] at this
theorem pA_lt {es : List Dt} {x : Dt} {j : Nat} (h : j < pA es x) : (es.getD j default).n < x.n := by
  have h2 := pA_le es x
  rw [← ns_get (by omega)]
  exact lowI_lt x.n _ j h
theorem pA_at {es : List Dt} {x : Dt} (h : pA es x < es.length) : x.n ≤ (es.getD (pA es x) default).n := by
  rw [← ns_get h]
  exact Int.not_lt.1 (lowI_at x.n _ (by rwa [List.length_map]))
theorem pA_eq {es : List Dt} {x : Dt} {i : Nat} (h1 : i ≤ es.length) (h2 : ∀ j, j < i → (es.getD j default).n < x.n) (h3 : i < es.length → x.n ≤ (es.getD i default).n) : i = pA es x := by
  refine lowI_eq (by rwa [List.length_map]) (fun j hj => ?_) (fun h => ?_)
  · rw [ns_get (by omega)]; exact h2 j hj
  · rw [List.length_map] at h
    rw [ns_get h]; exact Int.not_lt.2 (h3 h)
/-- From the place on all numbers are at least as great. -/
theorem pA_ge {r : Rc} {es : List Dt} (hE : GoodE r es) {x : Dt} {j : Nat} (h1 : pA es x ≤ j) (h2 : j < es.length) : x.n ≤ (es.getD j default).n := by
  have h3 := pA_at (es := es) (x := x) (by omega)
  rcases Nat.lt_or_ge (pA es x) j with h4 | h4
  · have := es_lt hE (j - pA es x - 1) (pA es x) (by omega)
    rw [show pA es x + (j - pA es x - 1) + 1 = j by omega] at this
    omega
  · obtain rfl : pA es x = j := by omega
    exact h3
theorem pA_gt {r : Rc} {es : List Dt} (hE : GoodE r es) {x : Dt} {j : Nat} (h1 : pA es x < j) (h2 : j < es.length) : x.n < (es.getD j default).n := by
  have h3 := pA_at (es := es) (x := x) (by omega)
  have := es_lt hE (j - pA es x - 1) (pA es x) (by omega)
  rw [show pA es x + (j - pA es x - 1) + 1 = j by omega] at this
  omega
/-- Two statements on one context. -/
def cmb (e x : Dt) : Dt := ⟨e.n, max e.f x.f, min e.t x.t⟩
def addR (es : List Dt) (x : Dt) : List Dt := if fA es x then es.set (pA es x) (cmb (es.getD (pA es x) default) x) else es.take (pA es x) ++ [x] ++ es.drop (pA es x)
theorem addR_y {es : List Dt} {x : Dt} (h : fA es x) : addR es x = es.set (pA es x) (cmb (es.getD (pA es x) default) x) := if_pos h
theorem addR_n {es : List Dt} {x : Dt} (h : ¬ fA es x) : addR es x = es.take (pA es x) ++ [x] ++ es.drop (pA es x) := if_neg h
theorem addR_len_y {es : List Dt} {x : Dt} (h : fA es x) : (addR es x).length = es.length := by rw [addR_y h]; simp
theorem addR_len_n {es : List Dt} {x : Dt} (h : ¬ fA es x) : (addR es x).length = es.length + 1 := by
  have := pA_le es x
  rw [addR_n h]; simp; omega
theorem addR_len (es : List Dt) (x : Dt) : (addR es x).length ≤ es.length + 1 := by
  by_cases h : fA es x
  · rw [addR_len_y h]; omega
  · rw [addR_len_n h]; exact Nat.le_refl _
theorem addR_get_y {es : List Dt} {x : Dt} (h : fA es x) (j : Nat) : (addR es x).getD j default = if j = pA es x then cmb (es.getD (pA es x) default) x else es.getD j default := by
  rw [addR_y h, List.getD_eq_getElem?_getD, List.getElem?_set]
  by_cases e : pA es x = j
  · subst e
    rw [if_pos rfl, if_pos rfl, if_pos h.1]; rfl
  · rw [if_neg e, if_neg (Ne.symm e), ← List.getD_eq_getElem?_getD]
theorem addR_get_n {es : List Dt} {x : Dt} (h : ¬ fA es x) (j : Nat) : (addR es x).getD j default = if j < pA es x then es.getD j default else if j = pA es x then x else es.getD (j - 1) default := by
  have hp := pA_le es x
  have hl : (es.take (pA es x)).length = pA es x := by simp; omega
  rw [addR_n h, List.getD_eq_getElem?_getD, List.append_assoc]
  by_cases h1 : j < pA es x
  · rw [if_pos h1, List.getElem?_append_left (by omega), List.getElem?_take, if_pos h1, ← List.getD_eq_getElem?_getD]
  · rw [if_neg h1, List.getElem?_append_right (by omega), hl]
    by_cases h2 : j = pA es x
    · subst h2
      rw [if_pos rfl, Nat.sub_self]; rfl
    · rw [if_neg h2, List.getElem?_append_right (by simp; omega), List.getElem?_drop, ← List.getD_eq_getElem?_getD]
      congr 1
      simp; omega
def okNew (r : Rc) (x : Dt) : Prop := 0 ≤ idx r x.n ∧ isV ⟨x.f, x.t⟩
theorem good_one {r : Rc} {x : Dt} (hC : GoodC r) : GoodE r [x] ↔ okNew r x := by
  constructor
  · intro h
    have := h.2 0 (by simp)
    exact ⟨this.1, this.2.1⟩
  · rintro ⟨h1, h2⟩
    refine ⟨hC, fun i hi => ?_⟩
    have hi0 : i = 0 := by simpa using hi
    subst hi0
    exact ⟨h1, h2, fun h => absurd h (Nat.lt_irrefl _)⟩
/-- When the list with the new element is good. -/
theorem good_add {r : Rc} {es : List Dt} {x : Dt} (hE : GoodE r es) (hx : okNew r x) : GoodE r (addR es x) ↔ (fA es x → max (es.getD (pA es x) default).f x.f ≤ min (es.getD (pA es x) default).t x.t) := by
  by_cases hf : fA es x
  · have hgt := fun j => addR_get_y hf j
    constructor
    · intro h _
      have h1 := (h.2 (pA es x) (by rw [addR_len_y hf]; exact hf.1)).2.1
      rw [hgt, if_pos rfl] at h1
      exact h1.2.2
    · intro h
      have h0 := h hf
      refine ⟨hE.1, fun i hi => ?_⟩
      rw [addR_len_y hf] at hi
      obtain ⟨a1, a2, a3⟩ := hE.2 i hi
      have hn : ∀ j, ((addR es x).getD j default).n = (es.getD j default).n := by
        intro j
        rw [hgt]
        split
        · rename_i e; subst e; rfl
        · rfl
      refine ⟨by rw [hn]; exact a1, ?_, fun h => by rw [hn, hn]; exact a3 h⟩
      rw [hgt]
      split
      · rename_i e
        subst e
        obtain ⟨b1, b2, b3⟩ := a2
        obtain ⟨c1, c2, c3⟩ := hx.2
        simp only at b1 b2 b3 c1 c2 c3
        refine ⟨?_, ?_, h0⟩
        · show -20000 ≤ max _ _ ∧ max _ _ ≤ 2100
          omega
        · show -20000 ≤ min _ _ ∧ min _ _ ≤ 2100
          omega
      · exact a2
  · have hgt := fun j => addR_get_n hf j
    refine ⟨fun _ h => absurd h hf, fun _ => ⟨hE.1, fun i hi => ?_⟩⟩
    rw [addR_len_n hf] at hi
    have hp := pA_le es x
    have hstr : ∀ j, pA es x ≤ j → j < es.length → x.n < (es.getD j default).n := by
      intro j h1 h2
      rcases Nat.lt_or_ge (pA es x) j with h3 | h3
      · exact pA_gt hE h3 h2
      · obtain rfl : pA es x = j := by omega
        have := pA_at (es := es) (x := x) h2
        rcases Int.lt_or_eq_of_le this with h4 | h4
        · exact h4
        · exact absurd ⟨h2, h4.symm⟩ hf
    by_cases h1 : i < pA es x
    · obtain ⟨a1, a2, a3⟩ := hE.2 i (by omega)
      refine ⟨by rw [hgt, if_pos h1]; exact a1, by rw [hgt, if_pos h1]; exact a2, fun h => ?_⟩
      rw [hgt, hgt, if_pos h1, if_pos (by omega)]
      exact a3 h
    · by_cases h2 : i = pA es x
      · refine ⟨by rw [hgt, if_neg h1, if_pos h2]; exact hx.1, by rw [hgt, if_neg h1, if_pos h2]; exact hx.2, fun h => ?_⟩
        rw [hgt, hgt, if_neg h1, if_pos h2, if_pos (by omega)]
        exact pA_lt (by omega)
      · obtain ⟨a1, a2, a3⟩ := hE.2 (i - 1) (by omega)
        refine ⟨by rw [hgt, if_neg h1, if_neg h2]; exact a1, by rw [hgt, if_neg h1, if_neg h2]; exact a2, fun h => ?_⟩
        rw [hgt i, if_neg h1, if_neg h2, hgt, if_neg (by omega)]
        by_cases h3 : i - 1 = pA es x
        · rw [if_pos h3]
          exact hstr _ (by omega) (by omega)
        · rw [if_neg h3]
          exact a3 (by omega)
/-- What the loop has put together behind i elements. -/
def outA (es : List Dt) (x : Dt) (i : Nat) : List Dt := if i ≤ pA es x then es.take i else (addR es x).take (if fA es x then i else i + 1)
theorem takeS {es : List Dt} {i : Nat} (h : i < es.length) : es.take (i + 1) = es.take i ++ [es.getD i default] := by
  rw [List.take_succ_eq_append_getElem h, List.getD_eq_getElem?_getD, List.getElem?_eq_getElem h]; rfl
theorem outA_0 (es : List Dt) (x : Dt) : outA es x 0 = [] := by
  unfold outA; rw [if_pos (Nat.zero_le _)]; rfl
theorem outA_lt {es : List Dt} {x : Dt} {i : Nat} (h : i < pA es x) : outA es x (i + 1) = outA es x i ++ [es.getD i default] := by
  have := pA_le es x
  unfold outA
  rw [if_pos (by omega), if_pos (by omega), takeS (by omega)]
theorem outA_y {es : List Dt} {x : Dt} {i : Nat} (hf : fA es x) (h : i = pA es x) : outA es x (i + 1) = outA es x i ++ [cmb (es.getD i default) x] := by
  subst h
  have hl := addR_len_y hf
  unfold outA
  rw [if_neg (by omega), if_pos (Nat.le_refl _), if_pos hf, takeS (by rw [hl]; exact hf.1), addR_get_y hf, if_pos rfl, addR_y hf, List.take_set_of_le (Nat.le_refl _)]
theorem outA_n {es : List Dt} {x : Dt} {i : Nat} (hf : ¬ fA es x) (h : i = pA es x) (hi : i < es.length) : outA es x (i + 1) = (outA es x i ++ [x]) ++ [es.getD i default] := by
  subst h
  have hl := addR_len_n hf
  unfold outA
  rw [if_neg (by omega), if_pos (Nat.le_refl _), if_neg hf, takeS (by omega), addR_get_n hf, if_neg (by omega), if_neg (by omega), takeS (by omega), addR_get_n hf, if_neg (by omega), if_pos rfl, Nat.add_sub_cancel]
  congr 2
  rw [addR_n hf, List.append_assoc, List.take_left' (by simp; omega)]
theorem outA_gt {es : List Dt} {x : Dt} {i : Nat} (h : pA es x < i) (hi : i < es.length) : outA es x (i + 1) = outA es x i ++ [es.getD i default] := by
  have e1 : ¬ (i + 1 ≤ pA es x) := by omega
  have e2 : ¬ (i ≤ pA es x) := by omega
  unfold outA
  rw [if_neg e1, if_neg e2]
  by_cases hf : fA es x
  · rw [if_pos hf, if_pos hf, takeS (by rw [addR_len_y hf]; exact hi), addR_get_y hf, if_neg (by omega)]
  · rw [if_neg hf, if_neg hf, takeS (by rw [addR_len_n hf]; omega), addR_get_n hf, if_neg (by omega), if_neg (by omega), Nat.add_sub_cancel]
theorem outA_end_y {es : List Dt} {x : Dt} (h : pA es x < es.length) : outA es x es.length = addR es x := by
  unfold outA
  rw [if_neg (by omega)]
  by_cases hf : fA es x
  · rw [if_pos hf, List.take_of_length_le (by rw [addR_len_y hf]; exact Nat.le_refl _)]
  · rw [if_neg hf, List.take_of_length_le (by rw [addR_len_n hf]; exact Nat.le_refl _)]
theorem outA_end_n {es : List Dt} {x : Dt} (h : ¬ pA es x < es.length) : outA es x es.length ++ [x] = addR es x := by
  have hp := pA_le es x
  have hf : ¬ fA es x := fun hf => h hf.1
  unfold outA
  rw [if_pos (by omega), addR_n hf, List.take_of_length_le (Nat.le_refl _), List.take_of_length_le (by omega), List.drop_eq_nil_of_le (by omega), List.append_nil]
theorem outA_len (es : List Dt) (x : Dt) (i : Nat) : (outA es x i).length ≤ i + 1 := by
  unfold outA
  split
  · simp; omega
  · split <;> simp <;> omega
end Go.Proofs.Yteoonedddgiacaa.Rec
