/- Evidence without one of its elements: intervals only grow (plain). -/
import Derived.Test.YtencmeleapmjnaaEvdL
import Derived.Test.YtencmeleapmjnaaDecP
namespace Go.Proofs.Ytencmeleapmjnaa.Rec
open Go Go.Proofs.Ytencmeleapmjnaa.Ab Go.Proofs.Ytencmeleapmjnaa.Il
set_option maxRecDepth 10000
set_option linter.unusedSimpArgs false
set_option linter.unusedVariables false

theorem es_lt {r : Rc} {es : List Dt} (hE : GoodE r es) : ∀ (d i : Nat), i + d + 1 < es.length → (es.getD i default).n < (es.getD (i + d + 1) default).n
  | 0, i, h => (hE.2 (i + 1) h).2.2 (by omega)
  | d + 1, i, h => Int.lt_trans (es_lt hE d i (by omega)) ((hE.2 (i + (d + 1) + 1) h).2.2 (by omega))
theorem del_good {r : Rc} {es : List Dt} (hE : GoodE r es) {k : Nat} (hk : k < es.length) : GoodE r (del es k) := by
  refine ⟨hE.1, fun j hj => ?_⟩
  rw [del_len hk] at hj
  have hg := fun j => del_get (es := es) hk j
  by_cases h1 : j < k
  · obtain ⟨a, b, c⟩ := hE.2 j (by omega)
    refine ⟨by rw [hg, if_pos h1]; exact a, by rw [hg, if_pos h1]; exact b, fun h0 => ?_⟩
    rw [hg, hg, if_pos h1, if_pos (by omega)]
    exact c h0
  · obtain ⟨a, b, c⟩ := hE.2 (j + 1) (by omega)
    refine ⟨by rw [hg, if_neg h1]; exact a, by rw [hg, if_neg h1]; exact b, fun h0 => ?_⟩
    rw [hg, hg, if_neg h1]
    by_cases h2 : j - 1 < k
    · rw [if_pos h2]
      have := es_lt hE 1 (j - 1) (by omega)
      rw [show j - 1 + 1 + 1 = j + 1 by omega] at this
      exact this
    · rw [if_neg h2]
      have := c (by omega)
      rw [show j - 1 + 1 = j + 1 - 1 by omega]
      exact this
theorem idx_num {r : Rc} {m : Int} (h : 0 ≤ idx r m) : (r.cs.getD (idx r m).toNat default).n = m :=
  (ixN_in (p := fun j => (r.cs.getD j default).n = m) (n := r.cs.length) h).2
theorem own_at {r : Rc} {es : List Dt} (hE : GoodE r es) {q i : Nat} (hq : q < es.length) (hi : (idx r (es.getD q default).n).toNat = i) : ∀ n, q < n → n ≤ es.length → ownI r es n i = ⟨(es.getD q default).f, (es.getD q default).t⟩
  | 0, h, _ => absurd h (Nat.not_lt_zero _)
  | n + 1, h, hn => by
    by_cases e : q = n
    · subst e
      simp only [ownI]; rw [if_pos hi]
    · have ih := own_at hE hq hi n (by omega) (by omega)
      have hlt := es_lt hE (n - q - 1) q (by omega)
      rw [show q + (n - q - 1) + 1 = n by omega] at hlt
      have h1 := idx_num (hE.2 q hq).1
      have h2 := idx_num (hE.2 n (by omega)).1
      simp only [ownI]
      rw [if_neg (fun h3 => by rw [h3, ← hi, h1] at h2; omega), ih]
theorem own_no {r : Rc} {es : List Dt} {i : Nat} : ∀ n, (∀ q, q < n → (idx r (es.getD q default).n).toNat ≠ i) → ownI r es n i = ⟨-20000, 2100⟩
  | 0, _ => rfl
  | n + 1, h => by
    simp only [ownI]
    rw [if_neg (h n (by omega))]
    exact own_no n (fun q hq => h q (by omega))
theorem own_bd {r : Rc} {es : List Dt} (hE : GoodE r es) (i : Nat) : ∀ q, q ≤ es.length → -20000 ≤ (ownI r es q i).f ∧ (ownI r es q i).t ≤ 2100
  | 0, _ => by
    show (-20000 : Int) ≤ -20000 ∧ (2100 : Int) ≤ 2100
    decide
  | q + 1, h => by
    have ih := own_bd hE i q (by omega)
    have hk := (hE.2 q (by omega)).2.1
    simp only [ownI]
    split
    · exact ⟨hk.1.1, hk.2.1.2⟩
    · exact ih
/-- Less evidence, wider intervals. -/
theorem own_del {r : Rc} {es : List Dt} (hE : GoodE r es) {k : Nat} (hk : k < es.length) (i : Nat) : (ownI r (del es k) (del es k).length i).f ≤ (ownI r es es.length i).f ∧ (ownI r es es.length i).t ≤ (ownI r (del es k) (del es k).length i).t := by
  by_cases hx : ∃ q, q < (del es k).length ∧ (idx r ((del es k).getD q default).n).toNat = i
  · obtain ⟨q, hq, hi⟩ := hx
    have h1 := own_at (del_good hE hk) hq hi _ hq (Nat.le_refl _)
    rw [del_get hk] at hi h1
    rw [del_len hk] at hq
    split at h1
    · rename_i h2
      rw [if_pos h2] at hi
      rw [h1, own_at hE (q := q) (by omega) hi _ (by omega) (Nat.le_refl _)]
      exact ⟨Int.le_refl _, Int.le_refl _⟩
    · rename_i h2
      rw [if_neg h2] at hi
      rw [h1, own_at hE (q := q + 1) (by omega) hi _ (by omega) (Nat.le_refl _)]
      exact ⟨Int.le_refl _, Int.le_refl _⟩
  · rw [own_no (r := r) (es := del es k) _ (fun q hq h => hx ⟨q, hq, h⟩)]
    exact own_bd hE i _ (Nat.le_refl _)
theorem tF_del {r : Rc} {es : List Dt} (hE : GoodE r es) {k : Nat} (hk : k < es.length) (i : Nat) : ∀ j, tF r (del es k) i j ≤ tF r es i j ∧ tT r es i j ≤ tT r (del es k) i j
  | 0 => own_del hE hk i
  | j + 1 => by
    have ih := tF_del hE hk i j
    have ho := own_del hE hk j
    simp only [tF, tT]
    constructor
    · split <;> omega
    · split <;> omega
theorem tgOK_del {r : Rc} {es : List Dt} (hE : GoodE r es) (h : tgOK r es) {k : Nat} (hk : k < es.length) : tgOK r (del es k) := fun i hi => by
  have h1 := tF_del hE hk i r.cs.length
  have h2 := h i hi
  unfold tg at h2 ⊢
  simp only at h2 ⊢
  omega
theorem prOK_del {r : Rc} {es : List Dt} (h : prOK r es) {k : Nat} (hk : k < es.length) : prOK r (del es k) := ⟨del_good h.1 hk, tgOK_del h.1 h.2 hk⟩
theorem vRowsD (ws : List Iv) : ∀ row ∈ ws.map vRow, ∀ v ∈ row, AV.plain v = true := by
  intro row hr
  obtain ⟨p, _, rfl⟩ := List.mem_map.1 hr
  exact vRow_plain p
/-! ### The decisive numbers -/
def dif (r : Rc) (es : List Dt) (k : Nat) : Prop := tgL r (del es k) r.cs.length ≠ tgL r es r.cs.length
open Classical in
noncomputable def dec (r : Rc) (es : List Dt) : Nat → List Int
  | 0 => []
  | k + 1 => if dif r es k then dec r es k ++ [(es.getD k default).n] else dec r es k
theorem dec_y {r : Rc} {es : List Dt} {k : Nat} (h : dif r es k) : dec r es (k + 1) = dec r es k ++ [(es.getD k default).n] := if_pos h
theorem dec_n {r : Rc} {es : List Dt} {k : Nat} (h : ¬ dif r es k) : dec r es (k + 1) = dec r es k := if_neg h
theorem dec_len (r : Rc) (es : List Dt) : ∀ k, (dec r es k).length ≤ k
  | 0 => Nat.le_refl _
  | k + 1 => by
    have := dec_len r es k
    by_cases h : dif r es k
    · rw [dec_y h]; simp; omega
    · rw [dec_n h]; omega
theorem dec_lt {r : Rc} {es : List Dt} (hE : GoodE r es) : ∀ k, k < es.length → ∀ x ∈ dec r es k, x < (es.getD k default).n
  | 0, _, x, hx => by cases hx
  | k + 1, hk, x, hx => by
    have ih := dec_lt hE k (by omega)
    have hlt := es_lt hE 0 k (by omega)
    by_cases h : dif r es k
    · rw [dec_y h] at hx
      rcases List.mem_append.1 hx with hx | hx
      · exact Int.lt_trans (ih x hx) hlt
      · rw [List.mem_singleton] at hx; subst hx; exact hlt
    · rw [dec_n h] at hx
      exact Int.lt_trans (ih x hx) hlt
theorem dif_iff {r : Rc} {es : List Dt} {k : Nat} : dif r es k ↔ ∃ i, i < r.cs.length ∧ tg r (del es k) i ≠ tg r es i := by
  constructor
  · intro h
    refine Classical.byContradiction fun hn => h ?_
    unfold tgL
    refine List.map_congr_left fun i hi => ?_
    exact Classical.byContradiction fun hne => hn ⟨i, List.mem_range.1 hi, hne⟩
  · rintro ⟨i, hi, hne⟩ h
    have h1 := congrArg (fun l => l[i]?) h
    simp only [tgL, List.getElem?_map, List.getElem?_range hi, Option.map_some, Option.some.injEq] at h1
    exact hne h1
end Go.Proofs.Ytencmeleapmjnaa.Rec
