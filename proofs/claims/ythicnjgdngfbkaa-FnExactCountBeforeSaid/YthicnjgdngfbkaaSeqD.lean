/- The ways to come to a set of contexts and the ways to go on: sums over the sets; what a further relation changes; places. -/
import Derived.Test.YthicnjgdngfbkaaSeqA
namespace Go.Proofs.Ythicnjgdngfbkaa.Rec
open Go Go.Proofs.Ythicnjgdngfbkaa.Ab Go.Proofs.Ythicnjgdngfbkaa.Il
set_option maxRecDepth 10000
set_option maxHeartbeats 8000000
set_option linter.unusedSimpArgs false
set_option linter.unusedVariables false

/-! ### Sums -/
theorem sumTo_one {f g : Nat → Nat} {c v : Nat} : ∀ m, c < m → (∀ S, S ≠ c → f S = g S) → f c = g c + v → sumTo f m = sumTo g m + v
  | 0, h, _, _ => absurd h (Nat.not_lt_zero _)
  | m + 1, h, h1, h2 => by
    rw [sumTo, sumTo]
    by_cases e : c = m
    · subst e
      rw [sumTo_congr c (fun i hi => h1 i (by omega)), h2]; omega
    · rw [sumTo_one m (by omega) h1 h2, h1 m (Ne.symm e)]; omega
theorem sumTo_zero {f : Nat → Nat} : ∀ m, (∀ i, i < m → f i = 0) → sumTo f m = 0
  | 0, _ => rfl
  | m + 1, h => by rw [sumTo, sumTo_zero m (fun i hi => h i (by omega)), h m (by omega)]
theorem sumTo_ge {f : Nat → Nat} {c : Nat} : ∀ m, c < m → f c ≤ sumTo f m
  | 0, h => absurd h (Nat.not_lt_zero _)
  | m + 1, h => by
    rw [sumTo]
    by_cases e : c = m
    · subst e; omega
    · have := sumTo_ge (f := f) m (show c < m by omega)
      omega
theorem sumTo_mul (v : Nat) (f : Nat → Nat) : ∀ m, sumTo (fun i => v * f i) m = v * sumTo f m
  | 0 => rfl
  | m + 1 => by rw [sumTo, sumTo, sumTo_mul v f m, Nat.mul_add]
theorem sumTo_pos {f : Nat → Nat} : ∀ m, 0 < sumTo f m → ∃ c, c < m ∧ 0 < f c
  | 0, h => absurd h (Nat.lt_irrefl _)
  | m + 1, h => by
    rw [sumTo] at h
    by_cases e : 0 < f m
    · exact ⟨m, by omega, e⟩
    · obtain ⟨c, h1, h2⟩ := sumTo_pos m (show 0 < sumTo f m by omega)
      exact ⟨c, by omega, h2⟩

/-! ### The ways to come there -/
def stB (n : Nat) (W : Nat → Nat → Bool) (s i : Nat) (f : Nat → Nat) : Nat → Nat := fun S => if rdy n W s i ∧ S = s ||| 2 ^ i then f S + f s else f S
def rwB (n : Nat) (W : Nat → Nat → Bool) (s : Nat) : Nat → (Nat → Nat) → Nat → Nat
  | 0, f => f
  | i + 1, f => stB n W s i (rwB n W s i f)
def tbB (n : Nat) (W : Nat → Nat → Bool) : Nat → Nat → Nat
  | 0 => fun S => if S = 0 then 1 else 0
  | s + 1 => rwB n W s n (tbB n W s)
theorem stB_le {n : Nat} {W : Nat → Nat → Bool} {s i S : Nat} {f : Nat → Nat} (h : S ≤ s) : stB n W s i f S = f S := by
  unfold stB
  rw [if_neg (fun hc => ?_)]
  have := or_gt hc.1.1
  omega
theorem rwB_le {n : Nat} {W : Nat → Nat → Bool} {s S : Nat} {f : Nat → Nat} (h : S ≤ s) : ∀ i, rwB n W s i f S = f S
  | 0 => rfl
  | i + 1 => by rw [rwB, stB_le h, rwB_le h i]
theorem rwB_ge {n : Nat} {W : Nat → Nat → Bool} {s S : Nat} {f : Nat → Nat} : ∀ i, f S ≤ rwB n W s i f S
  | 0 => Nat.le_refl _
  | i + 1 => by
    have := rwB_ge (n := n) (W := W) (s := s) (S := S) (f := f) i
    rw [rwB]; unfold stB; split <;> omega
theorem tbB_fin {n : Nat} {W : Nat → Nat → Bool} {s : Nat} : ∀ d, tbB n W (s + d) s = tbB n W s s
  | 0 => rfl
  | d + 1 => by
    show rwB n W (s + d) n (tbB n W (s + d)) s = _
    rw [rwB_le (by omega), tbB_fin d]
theorem tbB_up {n : Nat} {W : Nat → Nat → Bool} {s S : Nat} : ∀ d, tbB n W s S ≤ tbB n W (s + d) S
  | 0 => Nat.le_refl _
  | d + 1 => Nat.le_trans (tbB_up d) (rwB_ge n)
/-- The ways to come to a set. -/
def bef (n : Nat) (W : Nat → Nat → Bool) (S : Nat) : Nat := tbB n W S S
theorem tbB_bef {n : Nat} {W : Nat → Nat → Bool} {s S : Nat} (h : S ≤ s) : tbB n W s S = bef n W S := by
  have := tbB_fin (n := n) (W := W) (s := S) (s - S)
  rwa [show S + (s - S) = s by omega] at this
theorem rwB_sum {n : Nat} {W : Nat → Nat → Bool} {s : Nat} {f g : Nat → Nat} (hs : s < 2 ^ n) : ∀ i, i ≤ n → sumTo (fun S => rwB n W s i f S * g S) (2 ^ n) = sumTo (fun S => f S * g S) (2 ^ n) + f s * sumTo (fun j => if rdy n W s j then g (s ||| 2 ^ j) else 0) i
  | 0, _ => by simp [rwB, sumTo]
  | i + 1, hi => by
    have ih := rwB_sum (W := W) (f := f) (g := g) hs i (by omega)
    rw [sumTo]
    by_cases hr : rdy n W s i
    · rw [if_pos hr, Nat.mul_add, ← Nat.add_assoc, ← ih]
      refine sumTo_one (c := s ||| 2 ^ i) _ (or_lt hs (by omega)) (fun S hS => ?_) ?_
      · show stB n W s i (rwB n W s i f) S * g S = _
        unfold stB
        rw [if_neg (fun hc => hS hc.2)]
      · show stB n W s i (rwB n W s i f) (s ||| 2 ^ i) * g (s ||| 2 ^ i) = _
        unfold stB
        rw [if_pos ⟨hr, rfl⟩, rwB_le (Nat.le_refl _), Nat.add_mul]
    · simp only [if_neg hr, Nat.add_zero]
      rw [← ih]
      refine sumTo_congr _ fun S hS => ?_
      show stB n W s i (rwB n W s i f) S * g S = _
      unfold stB
      rw [if_neg (fun hc => hr hc.1)]
/-- What is still to be handed on, weighed. -/
def pot (n : Nat) (W : Nat → Nat → Bool) (g : Nat → Nat) (s : Nat) : Nat := sumTo (fun S => tbB n W s S * (if s ≤ S then g S else 0)) (2 ^ n)
theorem pot_step {n : Nat} {W : Nat → Nat → Bool} {g : Nat → Nat} {s : Nat} (hs : s < 2 ^ n) : pot n W g (s + 1) + bef n W s * g s = pot n W g s + bef n W s * sumTo (fun j => if rdy n W s j then g (s ||| 2 ^ j) else 0) n := by
  have h1 : pot n W g s = sumTo (fun S => tbB n W s S * (if s + 1 ≤ S then g S else 0)) (2 ^ n) + bef n W s * g s := by
    refine sumTo_one (c := s) _ hs (fun S hS => ?_) ?_
    · by_cases e : s ≤ S
      · rw [if_pos e, if_pos (by omega)]
      · rw [if_neg e, if_neg (by omega)]
    · rw [if_pos (Nat.le_refl _), if_neg (by omega), Nat.mul_zero, Nat.zero_add]; rfl
  have h2 := rwB_sum (W := W) (f := tbB n W s) (g := fun S => if s + 1 ≤ S then g S else 0) hs n (Nat.le_refl _)
  have h3 : sumTo (fun j => if rdy n W s j then (if s + 1 ≤ s ||| 2 ^ j then g (s ||| 2 ^ j) else 0) else 0) n = sumTo (fun j => if rdy n W s j then g (s ||| 2 ^ j) else 0) n := by
    refine sumTo_congr n fun j hj => ?_
    by_cases e : rdy n W s j
    · have := or_gt e.1
      rw [if_pos e, if_pos e, if_pos (by omega)]
    · rw [if_neg e, if_neg e]
  have h4 : pot n W g (s + 1) = sumTo (fun S => rwB n W s n (tbB n W s) S * (if s + 1 ≤ S then g S else 0)) (2 ^ n) := rfl
  rw [h4, h2, h3, h1]
  show _ + tbB n W s s * _ + bef n W s * g s = _
  have : tbB n W s s = bef n W s := rfl
  rw [this]; omega
theorem pot_0 {n : Nat} {W : Nat → Nat → Bool} {g : Nat → Nat} : pot n W g 0 = g 0 := by
  have := sumTo_one (f := fun S => tbB n W 0 S * (if 0 ≤ S then g S else 0)) (g := fun _ => 0) (c := 0) (v := g 0) (2 ^ n) (Nat.pow_pos (by decide)) (fun S hS => by simp [tbB, hS]) (by simp [tbB])
  rw [pot, this, sumTo_zero _ (fun _ _ => rfl), Nat.zero_add]
theorem pot_end {n : Nat} {W : Nat → Nat → Bool} {g : Nat → Nat} : pot n W g (2 ^ n) = 0 := sumTo_zero _ fun S hS => by rw [if_neg (by omega), Nat.mul_zero]
/-- How many ways at most. -/
theorem bef_pot {n : Nat} {W : Nat → Nat → Bool} (hn : n ≤ 10) : ∀ s, s ≤ 2 ^ n → pot n W (fun S => 10 ^ (10 - pcB S n)) s ≤ 10 ^ 10
  | 0, _ => by
    rw [pot_0]
    exact Nat.pow_le_pow_right (by decide) (by omega)
  | s + 1, hs => by
    have ih := bef_pot (W := W) hn s (by omega)
    have h := pot_step (W := W) (g := fun S => 10 ^ (10 - pcB S n)) (show s < 2 ^ n by omega)
    have h2 : sumTo (fun j => if rdy n W s j then 10 ^ (10 - pcB (s ||| 2 ^ j) n) else 0) n ≤ 10 ^ (10 - pcB s n) := by
      by_cases hp : pcB s n < 10
      · have h3 := sumTo_le (f := fun j => if rdy n W s j then 10 ^ (10 - pcB (s ||| 2 ^ j) n) else 0) (b := 10 ^ (10 - (pcB s n + 1))) n (fun j hj => by
          show (if rdy n W s j then 10 ^ (10 - pcB (s ||| 2 ^ j) n) else 0) ≤ _
          by_cases e : rdy n W s j
          · rw [if_pos e, pcB_or e.1, if_pos hj]
            exact Nat.le_refl _
          · rw [if_neg e]; exact Nat.zero_le _)
        refine Nat.le_trans h3 ?_
        rw [show 10 - pcB s n = (10 - (pcB s n + 1)) + 1 by omega, Nat.pow_succ, Nat.mul_comm]
        exact Nat.mul_le_mul_left _ hn
      · have hpl := pcB_le s n
        have hall := pcB_all n (show pcB s n = n by omega)
        rw [sumTo_zero]
        · exact Nat.zero_le _
        · intro j hj
          show (if rdy n W s j then 10 ^ (10 - pcB (s ||| 2 ^ j) n) else 0) = 0
          rw [if_neg]
          intro e
          have := hall j hj
          rw [e.1] at this
          cases this
    have h4 := Nat.mul_le_mul_left (bef n W s) h2
    omega
theorem bef_b {n S : Nat} {W : Nat → Nat → Bool} (hn : n ≤ 10) (hS : S < 2 ^ n) : bef n W S * 10 ^ (10 - pcB S n) ≤ 10 ^ 10 := by
  refine Nat.le_trans ?_ (bef_pot (W := W) hn S (by omega))
  have := sumTo_ge (f := fun T => tbB n W S T * (if S ≤ T then 10 ^ (10 - pcB T n) else 0)) (2 ^ n) hS
  refine Nat.le_trans (Nat.le_of_eq ?_) this
  show _ = tbB n W S S * _
  rw [if_pos (Nat.le_refl _)]; rfl
theorem bef_le {n S : Nat} {W : Nat → Nat → Bool} (hn : n ≤ 10) (hS : S < 2 ^ n) : bef n W S ≤ 10000000000 := by
  have h := bef_b (W := W) hn hS
  have h2 : bef n W S * 1 ≤ bef n W S * 10 ^ (10 - pcB S n) := Nat.mul_le_mul_left _ (Nat.pow_pos (by decide))
  have h3 : (10 : Nat) ^ 10 = 10000000000 := by decide
  omega
theorem tbB_pot {n S s : Nat} {W : Nat → Nat → Bool} (hn : n ≤ 10) (hS : S < 2 ^ n) (hs : s ≤ 2 ^ n) : tbB n W s S ≤ 10000000000 := by
  by_cases e : S ≤ s
  · rw [tbB_bef e]; exact bef_le hn hS
  · have h1 := tbB_up (n := n) (W := W) (s := s) (S := S) (S - s)
    rw [show s + (S - s) = S by omega] at h1
    exact Nat.le_trans h1 (bef_le (W := W) hn hS)
theorem rwB_up {n : Nat} {W : Nat → Nat → Bool} {s S i : Nat} {f : Nat → Nat} : ∀ d, rwB n W s i f S ≤ rwB n W s (i + d) f S
  | 0 => Nat.le_refl _
  | d + 1 => by
    refine Nat.le_trans (rwB_up d) ?_
    show _ ≤ stB n W s (i + d) (rwB n W s (i + d) f) S
    unfold stB; split <;> omega
theorem rwB_b {n S s i : Nat} {W : Nat → Nat → Bool} (hn : n ≤ 10) (hS : S < 2 ^ n) (hs : s < 2 ^ n) (hi : i ≤ n) : rwB n W s i (tbB n W s) S ≤ 10000000000 := by
  have h1 := rwB_up (n := n) (W := W) (s := s) (S := S) (i := i) (f := tbB n W s) (n - i)
  rw [show i + (n - i) = n by omega] at h1
  exact Nat.le_trans h1 (tbB_pot (W := W) (s := s + 1) hn hS (by omega))
/-- The product of both ways. -/
theorem prod_b {n S i : Nat} {W : Nat → Nat → Bool} (hn : n ≤ 10) (hS : S < 2 ^ n) (h : S.testBit i = false) (hi : i < n) : bef n W S * cnt n W (S ||| 2 ^ i) ≤ 10000000000 := by
  have h1 := bef_b (W := W) hn hS
  have h2 : cnt n W (S ||| 2 ^ i) ≤ 10 ^ (10 - pcB S n) := by
    refine Nat.le_trans (cntD_le hn _ _) (Nat.pow_le_pow_right (by decide) ?_)
    rw [pcB_or h, if_pos hi]; omega
  have h3 := Nat.mul_le_mul_left (bef n W S) h2
  have h4 : (10 : Nat) ^ 10 = 10000000000 := by decide
  omega

/-! ### One more relation: i before k -/
def moreW (W : Nat → Nat → Bool) (i k : Nat) : Nat → Nat → Bool := fun m j => W m j || ((decide (m = i) || W m i) && (W k j || decide (j = k)))
theorem more_rdy {n i k s j : Nat} {W : Nat → Nat → Bool} (hi : i < n) (hk : k < n) (h1 : s.testBit i = false) (h2 : s.testBit k = false) : rdy n (moreW W i k) s j ↔ rdy n W s j ∧ j ≠ k := by
  constructor
  · intro h
    refine ⟨⟨h.1, fun m hm hw => h.2 m hm (by simp [moreW, hw])⟩, fun e => ?_⟩
    subst e
    have := h.2 i hi (by simp [moreW])
    rw [h1] at this
    cases this
  · rintro ⟨h, hjk⟩
    refine ⟨h.1, fun m hm hw => ?_⟩
    simp only [moreW, Bool.or_eq_true, Bool.and_eq_true, decide_eq_true_eq] at hw
    rcases hw with hw | ⟨_, hw | hw⟩
    · exact h.2 m hm hw
    · have := h.2 k hk hw
      rw [h2] at this
      cases this
    · exact absurd hw hjk
theorem more_in {n i k s j : Nat} {W : Nat → Nat → Bool} (h1 : s.testBit i = true) (h2 : ∀ m, m < n → W m i = true → s.testBit m = true) : rdy n (moreW W i k) s j ↔ rdy n W s j := by
  constructor
  · intro h
    exact ⟨h.1, fun m hm hw => h.2 m hm (by simp [moreW, hw])⟩
  · intro h
    refine ⟨h.1, fun m hm hw => ?_⟩
    simp only [moreW, Bool.or_eq_true, Bool.and_eq_true, decide_eq_true_eq] at hw
    rcases hw with hw | ⟨hw | hw, _⟩
    · exact h.2 m hm hw
    · subst hw; exact h1
    · exact h2 m hm hw
theorem more_cnt {n i k : Nat} {W : Nat → Nat → Bool} : ∀ d s, s.testBit i = true → (∀ m, m < n → W m i = true → s.testBit m = true) → cntD n (moreW W i k) d s = cntD n W d s
  | 0, _, _, _ => rfl
  | d + 1, s, h1, h2 => by
    rw [cntD, cntD]
    refine sumTo_congr n fun j hj => ?_
    have e := more_in (k := k) (j := j) h1 h2
    by_cases hr : rdy n W s j
    · rw [if_pos hr, if_pos (e.2 hr)]
      exact more_cnt d _ (by rw [tb_or, h1]; rfl) (fun m hm hw => by rw [tb_or, h2 m hm hw]; rfl)
    · rw [if_neg hr, if_neg (fun h => hr (e.1 h))]
def gM (n : Nat) (W : Nat → Nat → Bool) (i k S : Nat) : Nat := if S.testBit i = false ∧ S.testBit k = false then cnt n (moreW W i k) S else 0
/-- What a set adds: those in which i comes next and k has not come. -/
def addM (n : Nat) (W : Nat → Nat → Bool) (i k s : Nat) : Nat := if s.testBit k = false ∧ rdy n W s i then bef n W s * cnt n W (s ||| 2 ^ i) else 0
theorem more_step {n i k s : Nat} {W : Nat → Nat → Bool} (hi : i < n) (hk : k < n) (hik : i ≠ k) (hs : s < 2 ^ n) : pot n W (gM n W i k) (s + 1) + addM n W i k s = pot n W (gM n W i k) s := by
  have hst := pot_step (W := W) (g := gM n W i k) hs
  by_cases h1 : s.testBit i = false ∧ s.testBit k = false
  · obtain ⟨h1, h2⟩ := h1
    have hne : s ≠ 2 ^ n - 1 := fun e => by
      rw [e, Nat.testBit_two_pow_sub_one] at h1
      simp [hi] at h1
    have e1 : gM n W i k s = sumTo (gS n (moreW W i k) s) n := by
      rw [gM, if_pos ⟨h1, h2⟩, cnt_rec hs hne]
    have e2 : sumTo (gS n (moreW W i k) s) n = sumTo (fun j => if rdy n W s j then gM n W i k (s ||| 2 ^ j) else 0) n + (if rdy n W s i then cnt n W (s ||| 2 ^ i) else 0) := by
      refine sumTo_one (c := i) n hi (fun j hj => ?_) ?_
      · show (if rdy n (moreW W i k) s j then _ else _) = _
        by_cases hr : rdy n W s j
        · rw [if_pos hr]
          by_cases hjk : j = k
          · subst hjk
            rw [if_neg (fun h => ((more_rdy hi hk h1 h2).1 h).2 rfl), gM, if_neg]
            rintro ⟨_, h⟩
            rw [tb_or] at h
            simp at h
          · rw [if_pos ((more_rdy hi hk h1 h2).2 ⟨hr, hjk⟩), gM, if_pos]
            rw [tb_or, tb_or, h1, h2]
            simp [hj, hjk]
        · rw [if_neg hr, if_neg (fun h => hr ((more_rdy hi hk h1 h2).1 h).1)]
      · show (if rdy n (moreW W i k) s i then _ else _) = _
        by_cases hr : rdy n W s i
        · rw [if_pos hr, if_pos hr, if_pos ((more_rdy hi hk h1 h2).2 ⟨hr, hik⟩), gM, if_neg, Nat.zero_add]
          · exact more_cnt _ _ (by rw [tb_or]; simp) (fun m hm hw => by rw [tb_or, hr.2 m hm hw]; rfl)
          · rintro ⟨h, _⟩
            rw [tb_or] at h
            simp at h
        · rw [if_neg hr, if_neg hr, if_neg (fun h => hr ((more_rdy hi hk h1 h2).1 h).1)]
    have e3 : addM n W i k s = bef n W s * (if rdy n W s i then cnt n W (s ||| 2 ^ i) else 0) := by
      unfold addM
      by_cases hr : rdy n W s i
      · rw [if_pos ⟨h2, hr⟩, if_pos hr]
      · rw [if_neg (fun h => hr h.2), if_neg hr, Nat.mul_zero]
    rw [e1, e2, Nat.mul_add, ← e3] at hst
    omega
  · have e1 : gM n W i k s = 0 := if_neg h1
    have e2 : sumTo (fun j => if rdy n W s j then gM n W i k (s ||| 2 ^ j) else 0) n = 0 := sumTo_zero n fun j hj => by
      show (if rdy n W s j then _ else _) = 0
      split
      · rw [gM, if_neg]
        rintro ⟨h3, h4⟩
        rw [tb_or, Bool.or_eq_false_iff] at h3 h4
        exact h1 ⟨h3.1, h4.1⟩
      · rfl
    have e3 : addM n W i k s = 0 := by
      unfold addM
      rw [if_neg]
      rintro ⟨h3, h4⟩
      exact h1 ⟨h4.1, h3⟩
    rw [e1, e2, Nat.mul_zero] at hst
    omega
theorem more_sum {n i k : Nat} {W : Nat → Nat → Bool} (hi : i < n) (hk : k < n) (hik : i ≠ k) : ∀ s, s ≤ 2 ^ n → pot n W (gM n W i k) s + sumTo (addM n W i k) s = cnt n (moreW W i k) 0
  | 0, _ => by
    rw [pot_0, gM, if_pos ⟨Nat.zero_testBit _, Nat.zero_testBit _⟩]; rfl
  | s + 1, hs => by
    have ih := more_sum (W := W) hi hk hik s (by omega)
    have h := more_step (W := W) hi hk hik (show s < 2 ^ n by omega)
    rw [sumTo]; omega
/-- In how many ways i comes before k: both counts. -/
theorem more_eq {n i k : Nat} {W : Nat → Nat → Bool} (hi : i < n) (hk : k < n) (hik : i ≠ k) : sumTo (addM n W i k) (2 ^ n) = cnt n (moreW W i k) 0 := by
  have := more_sum (W := W) hi hk hik (2 ^ n) (Nat.le_refl _)
  rwa [pot_end, Nat.zero_add] at this
theorem more_no {n i k : Nat} {W : Nat → Nat → Bool} (hk : k < n) (h : W k i = true) : ∀ m, sumTo (addM n W i k) m = 0 := fun m => sumTo_zero m fun s _ => by
  unfold addM
  rw [if_neg]
  rintro ⟨h1, h2⟩
  have := h2.2 k hk h
  rw [h1] at this
  cases this
theorem addM_le {n i k s : Nat} {W : Nat → Nat → Bool} (hn : n ≤ 10) (hi : i < n) (hs : s < 2 ^ n) : addM n W i k s ≤ 10000000000 := by
  unfold addM
  split
  · rename_i h
    exact prod_b hn hs h.2.1 hi
  · exact Nat.zero_le _
theorem addM_sum {n i k : Nat} {W : Nat → Nat → Bool} (hn : n ≤ 10) (hi : i < n) (s : Nat) (hs : s ≤ 2 ^ n) : sumTo (addM n W i k) s ≤ 10240000000000 := by
  refine Nat.le_trans (sumTo_le (b := 10000000000) s (fun j hj => addM_le hn hi (by omega))) ?_
  have : 2 ^ n ≤ 1024 := Nat.pow_le_pow_right (by decide) hn
  have := Nat.mul_le_mul_right 10000000000 (Nat.le_trans hs this)
  omega
end Go.Proofs.Ythicnjgdngfbkaa.Rec
