/- Mixed distributions, as plain facts. -/
import Derived.Test.YtdljklicegcbpaaTabA
import Derived.Test.YtdljklicegcbpaaQtyA
import Derived.Test.YtdljklicegcbpaaCmdA
import Derived.Test.YtdljklicegcbpaaAb1
namespace Go.Proofs.Ytdljklicegcbpaa.Dst
open Go Go.Proofs.Ytdljklicegcbpaa.Ab Go.Proofs.Ytdljklicegcbpaa.Il
set_option linter.unusedSimpArgs false
set_option linter.unusedVariables false
set_option maxHeartbeats 4000000

theorem Trim.uniq {ws : List Int} {f t f' t' : Nat} (h : Trim ws f t) (h' : Trim ws f' t') : f = f' ∧ t = t' := by
  rcases h.ends with ⟨a1, a2, a3⟩ | ⟨a1, a2⟩ <;> rcases h'.ends with ⟨b1, b2, b3⟩ | ⟨b1, b2⟩
  · have hl := h.lt
    have hl' := h'.lt
    have e1 : f = f' := by
      rcases Nat.lt_trichotomy f f' with q | q | q
      · exact absurd (h'.lo f q) a2
      · exact q
      · exact absurd (h.lo f' q) b2
    have e2 : t = t' := by
      rcases Nat.lt_trichotomy t t' with q | q | q
      · exact absurd (h.hi (t' - 1) (by omega) (by omega)) b3
      · exact q
      · exact absurd (h'.hi (t - 1) (by omega) (by omega)) a3
    exact ⟨e1, e2⟩
  · have := h.lt
    exact absurd (h'.lo f (by omega)) a2
  · have := h'.lt
    exact absurd (h.lo f' (by omega)) b2
  · omega
def mixW (a b : Ds) (num den : Int) (y : Int) : Int := num * atY a y * total b + (den - num) * atY b y * total a
def mixF (a b : Ds) : Int := min a.f b.f
def mixE (a b : Ds) : Int := max (a.f + a.ws.length - 1) (b.f + b.ws.length - 1)
def mixN (a b : Ds) : Nat := nY (mixF a b) (mixE a b)
def mixL (a b : Ds) (num den : Int) : List Int := tab (mixF a b) (mixW a b num den) (mixN a b)
def mixIn (a b : Ds) (num den : Int) : Prop := (GoodD a ∧ GoodD b) ∧ frac num den
def mixOK (a b : Ds) (num den : Int) : Prop := mixIn a b num den ∧ mkOK (mixF a b) (mixL a b num den)

theorem sm_ge {ws : List Int} {B : Int} (hb : bnd ws B) : ∀ {i j : Nat}, i ≤ ws.length → j < i → ws.getD j default ≤ sm ws i
  | 0, j, _, h => absurd h (Nat.not_lt_zero _)
  | i + 1, j, hi, h => by
    have h1 := sm_b hb i (by omega)
    have h2 := hb i (by omega)
    simp only [sm]
    rcases Nat.lt_or_ge j i with q | q
    · have := sm_ge hb (i := i) (j := j) (by omega) q
      omega
    · rw [show j = i by omega]; omega
theorem GoodD.tot1 {d : Ds} (h : GoodD d) : 1 ≤ total d := by
  have h1 := sm_ge h.bnd (i := d.ws.length) (j := 0) (Nat.le_refl _) (by have := h.1; omega)
  have h2 := h.2.2.1.1
  unfold total
  omega
theorem atY_at {d : Ds} {k : Nat} (h : k < d.ws.length) : atY d (d.f + (k : Int)) = d.ws.getD k default := by
  obtain ⟨f, ws⟩ := d
  simp only at h ⊢
  exact atY_i h
theorem atY_out {d : Ds} {y : Int} (h : ¬ (d.f ≤ y ∧ y ≤ d.f + d.ws.length - 1)) : atY d y = 0 := if_neg h
theorem gd_mul {ws vs : List Int} {c d : Nat} (h0 : gd vs d = 0) : ∀ k, (∀ j, j < k → at' vs (d + j) = (c : Int) * at' ws j) → gd vs (d + k) = c * gd ws k
  | 0, _ => by simpa [gd] using h0
  | k + 1, h => by
    have ih := gd_mul h0 k (fun j hj => h j (by omega))
    have hk := h k (by omega)
    unfold at' at hk
    show Int.gcd (gd vs (d + k)) (vs.getD (d + k) default) = c * Int.gcd (gd ws k) (ws.getD k default)
    rw [ih, hk, Int.natCast_mul, Int.gcd_mul_left]
    simp
theorem ow_div {ws vs : List Int} {c d : Nat} (hc : 0 < c) : ∀ k, k ≤ ws.length → (∀ j, j < k → at' vs (d + j) = (c : Int) * at' ws j) → ow vs (c : Int) d k = ws.take k
  | 0, _, _ => by simp [ow]
  | k + 1, hk, h => by
    have ih := ow_div (ws := ws) (vs := vs) (c := c) (d := d) hc k (by omega) (fun j hj => h j (by omega))
    simp only [ow]
    rw [ih, h k (by omega), Int.mul_tdiv_cancel_left _ (by omega), List.take_succ_eq_append_getElem (show k < ws.length by omega)]
    congr 2
    simp [at', List.getD_eq_getElem?_getD, List.getElem?_eq_getElem (show k < ws.length by omega)]

/-- All of the first distribution: it comes out as it is. -/
theorem mix_all {a b : Ds} {num : Int} (hA : GoodD a) (hB : GoodD b) (h1 : 1 ≤ num) (h2 : num ≤ 1000) : mkOK (mixF a b) (mixL a b num num) ∧ mkO (mixF a b) (mixL a b num num) = a := by
  have hb1 := hB.tot1
  have ha60 := hA.1
  have hlen : (mixL a b num num).length = mixN a b := tab_len _ _ _
  have hN : mixN a b = (mixE a b - mixF a b + 1).toNat := rfl
  have hF : mixF a b = min a.f b.f := rfl
  have hE : mixE a b = max (a.f + a.ws.length - 1) (b.f + b.ws.length - 1) := rfl
  obtain ⟨c, hc⟩ : ∃ c : Nat, (c : Int) = num * total b := ⟨(num * total b).toNat, by have := Int.mul_nonneg (show 0 ≤ num by omega) (show 0 ≤ total b by omega); omega⟩
  have hc0 : 0 < c := by
    have := Int.mul_pos (show 0 < num by omega) (show 0 < total b by omega)
    omega
  obtain ⟨d, hd⟩ : ∃ d : Nat, (d : Int) = a.f - mixF a b := ⟨(a.f - mixF a b).toNat, by omega⟩
  have hdn : d + a.ws.length ≤ mixN a b := by omega
  have hval : ∀ j, j < mixN a b → at' (mixL a b num num) j = (c : Int) * atY a (mixF a b + (j : Int)) := by
    intro j hj
    have := tab_get (mixF a b) (mixW a b num num) (mixN a b) hj
    show (tab _ _ _).getD j default = _
    rw [this, hc]
    unfold mixW
    rw [Int.sub_self, Int.zero_mul, Int.zero_mul, Int.add_zero, Int.mul_assoc, Int.mul_comm (atY a _), ← Int.mul_assoc]
  have hin : ∀ k, k < a.ws.length → at' (mixL a b num num) (d + k) = (c : Int) * at' a.ws k := by
    intro k hk
    rw [hval _ (by omega)]
    have : mixF a b + ((d + k : Nat) : Int) = a.f + (k : Int) := by omega
    rw [this, atY_at hk]
  have hout : ∀ j, j < mixN a b → (j < d ∨ d + a.ws.length ≤ j) → at' (mixL a b num num) j = 0 := by
    intro j hj ho
    rw [hval _ hj, atY_out (by omega), Int.mul_zero]
  have hw0 := hA.2.2.1.1
  have hw1 := hA.2.2.1.2
  have T : Trim (mixL a b num num) d (d + a.ws.length) := by
    refine ⟨by omega, by omega, fun j hj => hout j (by omega) (.inl hj), fun j h1 h2 => hout j (by omega) (.inr h1), .inl ⟨by omega, ?_, ?_⟩⟩
    · have := hin 0 (by omega)
      rw [Nat.add_zero] at this
      rw [this]
      exact Int.mul_ne_zero (by omega) (by show a.ws.getD 0 default ≠ 0; omega)
    · rw [show d + a.ws.length - 1 = d + (a.ws.length - 1) by omega, hin _ (by omega)]
      exact Int.mul_ne_zero (by omega) (by show a.ws.getD (a.ws.length - 1) default ≠ 0; omega)
  obtain ⟨e1, e2⟩ := (tr (mixL a b num num)).uniq T
  have hgd : gd (mixL a b num num) (mixL a b num num).length = c := by
    rw [← T.gdE, gd_mul (ws := a.ws) (c := c) T.gd0 a.ws.length (fun j hj => hin j hj), hA.2.2.2.2, Nat.mul_one]
  have hO : mkO (mixF a b) (mixL a b num num) = a := by
    unfold mkO
    rw [e1, e2, hgd, show d + a.ws.length - d = a.ws.length by omega, ow_div hc0 a.ws.length (Nat.le_refl _) (fun j hj => hin j hj), List.take_length]
    obtain ⟨f, ws⟩ := a
    congr 1
    simp only at hd
    omega
  exact ⟨⟨by rw [hgd]; omega, by rw [hO]; exact hA⟩, hO⟩
/-- Too far apart: nothing comes of it. -/
theorem mix_far {a b : Ds} {num den : Int} (hA : GoodD a) (hB : GoodD b) (h1 : 1 ≤ num) (h2 : num < den) (hfar : mixE a b - mixF a b ≥ 200) : ¬ mkOK (mixF a b) (mixL a b num den) := by
  intro hm
  have ha1 := hA.tot1
  have hb1 := hB.tot1
  have hlen : (mixL a b num den).length = mixN a b := tab_len _ _ _
  have hN : mixN a b = (mixE a b - mixF a b + 1).toNat := rfl
  have hF : mixF a b = min a.f b.f := rfl
  have hE : mixE a b = max (a.f + a.ws.length - 1) (b.f + b.ws.length - 1) := rfl
  have ha60 := hA.1
  have hb60 := hB.1
  have hval : ∀ j, j < mixN a b → at' (mixL a b num den) j = mixW a b num den (mixF a b + (j : Int)) := by
    intro j hj
    exact tab_get (mixF a b) (mixW a b num den) (mixN a b) hj
  have hpos : ∀ y, (0 < atY a y ∨ 0 < atY b y) → mixW a b num den y ≠ 0 := by
    intro y hy
    have q1 := (hA.at_b y).1
    have q2 := (hB.at_b y).1
    have p1 : 0 ≤ num * atY a y * total b := Int.mul_nonneg (Int.mul_nonneg (by omega) q1) (by omega)
    have p2 : 0 ≤ (den - num) * atY b y * total a := Int.mul_nonneg (Int.mul_nonneg (by omega) q2) (by omega)
    unfold mixW
    rcases hy with h | h
    · have : 0 < num * atY a y * total b := Int.mul_pos (Int.mul_pos (by omega) h) (by omega)
      omega
    · have : 0 < (den - num) * atY b y * total a := Int.mul_pos (Int.mul_pos (by omega) h) (by omega)
      omega
  have fa := atY_at (d := a) (k := 0) (by omega)
  have fb := atY_at (d := b) (k := 0) (by omega)
  have ga := atY_at (d := a) (k := a.ws.length - 1) (by omega)
  have gb := atY_at (d := b) (k := b.ws.length - 1) (by omega)
  have wa := hA.2.2.1
  have wb := hB.2.2.1
  have first : at' (mixL a b num den) 0 ≠ 0 := by
    rw [hval 0 (by omega)]
    refine hpos _ ?_
    rcases Int.le_total a.f b.f with h | h
    · left
      rw [show mixF a b + ((0 : Nat) : Int) = a.f + ((0 : Nat) : Int) by omega, fa]; exact wa.1
    · right
      rw [show mixF a b + ((0 : Nat) : Int) = b.f + ((0 : Nat) : Int) by omega, fb]; exact wb.1
  have last : at' (mixL a b num den) (mixN a b - 1) ≠ 0 := by
    rw [hval _ (by omega)]
    refine hpos _ ?_
    rcases Int.le_total (b.f + b.ws.length - 1) (a.f + a.ws.length - 1) with h | h
    · left
      rw [show mixF a b + ((mixN a b - 1 : Nat) : Int) = a.f + ((a.ws.length - 1 : Nat) : Int) by omega, ga]; exact wa.2
    · right
      rw [show mixF a b + ((mixN a b - 1 : Nat) : Int) = b.f + ((b.ws.length - 1 : Nat) : Int) by omega, gb]; exact wb.2
  have T : Trim (mixL a b num den) 0 (mixN a b) := ⟨by omega, by omega, fun j hj => by omega, fun j h1 h2 => by omega, .inl ⟨by omega, first, last⟩⟩
  obtain ⟨e1, e2⟩ := (tr (mixL a b num den)).uniq T
  have hg := hm.2.1.2
  unfold mkO at hg
  simp only [ow_len, e1, e2] at hg
  omega
theorem mixW_b {a b : Ds} {num den : Int} (hA : GoodD a) (hB : GoodD b) (hF : frac num den) (y : Int) : 0 ≤ mixW a b num den y ∧ mixW a b num den y ≤ 200000000000000000 := by
  have h1 := hF.1
  have h2 := hF.2
  have p1 := mulB (mulB (x := num) (X := 1000) (by omega) (hA.at_b y)) hB.total_b
  have p2 := mulB (mulB (x := den - num) (X := 1000) (by omega) (hB.at_b y)) hA.total_b
  unfold mixW
  omega
end Go.Proofs.Ytdljklicegcbpaa.Dst
