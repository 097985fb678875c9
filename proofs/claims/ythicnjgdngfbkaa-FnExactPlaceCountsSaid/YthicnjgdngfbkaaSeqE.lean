/- At which places a context may stand: the smallest and the greatest; the closure is transitive. -/
import Derived.Test.YthicnjgdngfbkaaSeqD
namespace Go.Proofs.Ythicnjgdngfbkaa.Rec
open Go Go.Proofs.Ythicnjgdngfbkaa.Ab Go.Proofs.Ythicnjgdngfbkaa.Il
set_option maxRecDepth 10000
set_option maxHeartbeats 8000000
set_option linter.unusedSimpArgs false
set_option linter.unusedVariables false

/-! ### The closure is transitive -/
theorem wsR_at (W : Nat → Nat → Bool) (j : Nat) : ∀ i a k, wsR W j i a k = (W a k || (decide (a < i) && (W a j && W j k)))
  | 0, a, k => by simp [wsR]
  | i + 1, a, k => by
    have ih := wsR_at W j i
    show ws (wsR W j i) j i a k = _
    unfold ws
    rw [ih a k, ih i j, ih j k]
    by_cases e : a = i
    · subst e
      by_cases ej : j < a
      · cases h1 : W a k <;> cases h2 : W a j <;> cases h3 : W j k <;> cases h4 : W j j <;> simp [ej, h1, h2, h3, h4]
      · cases h1 : W a k <;> cases h2 : W a j <;> cases h3 : W j k <;> cases h4 : W j j <;> simp [ej, h1, h2, h3, h4]
    · rw [show decide (a < i + 1) = decide (a < i) from decide_eq_decide.2 (by omega)]
      simp [e]
def trn (n j : Nat) (W : Nat → Nat → Bool) : Prop := ∀ a m k, a < n → m < n → m < j → W a m = true → W m k = true → W a k = true
theorem wsA_trn (W : Nat → Nat → Bool) (n : Nat) : ∀ j, j ≤ n → trn n j (wsA W n j)
  | 0, _ => fun a m k _ _ h => absurd h (Nat.not_lt_zero _)
  | j + 1, hj => by
    have ih := wsA_trn W n j (by omega)
    intro a m k ha hmn hm h1 h2
    change wsR (wsA W n j) j n a m = true at h1
    change wsR (wsA W n j) j n m k = true at h2
    show wsR (wsA W n j) j n a k = true
    rw [wsR_at] at h1 h2 ⊢
    simp only [ha, hmn, decide_true, Bool.true_and, Bool.or_eq_true, Bool.and_eq_true] at h1 h2 ⊢
    generalize wsA W n j = V at *
    by_cases e : m = j
    · subst e
      have g1 : V a m = true := by rcases h1 with h | ⟨h, _⟩ <;> exact h
      have g2 : V m k = true := by rcases h2 with h | ⟨_, h⟩ <;> exact h
      exact .inr ⟨g1, g2⟩
    · have hmj : m < j := by omega
      rcases h1 with h1 | ⟨h1, h3⟩
      · rcases h2 with h2 | ⟨h2, h4⟩
        · exact .inl (ih a m k ha hmn hmj h1 h2)
        · exact .inr ⟨ih a m j ha hmn hmj h1 h2, h4⟩
      · rcases h2 with h2 | ⟨h2, h4⟩
        · exact .inr ⟨h1, ih j m k (by omega) hmn hmj h3 h2⟩
        · exact .inr ⟨h1, h4⟩
theorem later_trn (r : Rc) : ∀ a m k, a < r.cs.length → m < r.cs.length → later r a m = true → later r m k = true → later r a k = true :=
  fun a m k ha hm h1 h2 => wsA_trn _ _ _ (Nat.le_refl _) a m k ha hm hm h1 h2

/-! ### Ends -/
theorem min_ex {n : Nat} {R : Nat → Nat → Bool} {p : Nat → Prop} (ht : ∀ a b c, a < n → b < n → c < n → R a b = true → R b c = true → R a c = true) (hr : ∀ a, a < n → R a a = false) : ∀ m, m ≤ n → (∃ j, j < m ∧ p j) → ∃ j, j < m ∧ p j ∧ ∀ x, x < m → p x → R x j = false
  | 0, _, ⟨j, h, _⟩ => absurd h (Nat.not_lt_zero _)
  | m + 1, hm, ⟨j0, h0, hp0⟩ => by
    by_cases e : ∃ j, j < m ∧ p j
    · obtain ⟨j, h1, h2, h3⟩ := min_ex (p := p) ht hr m (by omega) e
      by_cases e2 : p m ∧ R m j = true
      · refine ⟨m, by omega, e2.1, fun x hx hpx => ?_⟩
        by_cases e3 : x = m
        · subst e3; exact hr x (by omega)
        · cases hc : R x m with
          | false => rfl
          | true =>
            have := ht x m j (by omega) (by omega) (by omega) hc e2.2
            rw [h3 x (by omega) hpx] at this
            cases this
      · refine ⟨j, by omega, h2, fun x hx hpx => ?_⟩
        by_cases e3 : x = m
        · subst e3
          cases hc : R x j with
          | false => rfl
          | true => exact absurd ⟨hpx, hc⟩ e2
        · exact h3 x (by omega) hpx
    · have : j0 = m := by
        refine Classical.byContradiction fun hc => e ⟨j0, by omega, hp0⟩
      subst this
      refine ⟨j0, by omega, hp0, fun x hx hpx => ?_⟩
      by_cases e3 : x = j0
      · subst e3; exact hr x (by omega)
      · exact absurd ⟨x, by omega, hpx⟩ e
/-- A set that may stand first. -/
def dwn (n : Nat) (W : Nat → Nat → Bool) (S : Nat) : Prop := S < 2 ^ n ∧ ∀ m j, m < n → j < n → W m j = true → S.testBit j = true → S.testBit m = true
theorem dwn_or {n S j : Nat} {W : Nat → Nat → Bool} (h : dwn n W S) (hj : j < n) (hr : rdy n W S j) : dwn n W (S ||| 2 ^ j) := by
  refine ⟨or_lt h.1 hj, fun m x hm hx hw hb => ?_⟩
  rw [tb_or, Bool.or_eq_true, decide_eq_true_eq] at hb ⊢
  rcases hb with hb | hb
  · exact .inl (h.2 m x hm hx hw hb)
  · subst hb
    exact .inl (hr.2 m hm hw)
theorem dwn_0 (n : Nat) (W : Nat → Nat → Bool) : dwn n W 0 := ⟨Nat.pow_pos (by decide), fun m j _ _ _ h => by rw [Nat.zero_testBit] at h; cases h⟩
theorem rwB_dwn {n s : Nat} {W : Nat → Nat → Bool} {f : Nat → Nat} (hs : s < 2 ^ n) (hf : ∀ S, S < 2 ^ n → 0 < f S → dwn n W S) : ∀ i, i ≤ n → ∀ S, S < 2 ^ n → 0 < rwB n W s i f S → dwn n W S
  | 0, _, S, hS, h => hf S hS h
  | i + 1, hi, S, hS, h => by
    have ih := rwB_dwn hs hf i (by omega)
    change 0 < stB n W s i (rwB n W s i f) S at h
    unfold stB at h
    split at h
    · rename_i hc
      by_cases e : 0 < rwB n W s i f S
      · exact ih S hS e
      · rw [hc.2]
        exact dwn_or (ih s hs (by omega)) (by omega) hc.1
    · exact ih S hS h
theorem tbB_dwn {n : Nat} {W : Nat → Nat → Bool} : ∀ s, s ≤ 2 ^ n → ∀ S, S < 2 ^ n → 0 < tbB n W s S → dwn n W S
  | 0, _, S, hS, h => by
    by_cases e : S = 0
    · subst e; exact dwn_0 n W
    · simp [tbB, e] at h
  | s + 1, hs, S, hS, h => rwB_dwn (by omega) (tbB_dwn s (by omega)) n (Nat.le_refl _) S hS h
theorem bef_dwn {n S : Nat} {W : Nat → Nat → Bool} (hS : S < 2 ^ n) (h : 0 < bef n W S) : dwn n W S := tbB_dwn S (by omega) S hS h
theorem bef_or {n S j : Nat} {W : Nat → Nat → Bool} (hj : j < n) (hr : rdy n W S j) : bef n W S ≤ bef n W (S ||| 2 ^ j) := by
  have hgt := or_gt hr.1
  have h1 : bef n W S ≤ rwB n W S (j + 1) (tbB n W S) (S ||| 2 ^ j) := by
    show _ ≤ stB n W S j (rwB n W S j (tbB n W S)) (S ||| 2 ^ j)
    unfold stB
    rw [if_pos ⟨hr, rfl⟩, rwB_le (Nat.le_refl _)]
    exact Nat.le_add_left _ _
  have h2 := rwB_up (n := n) (W := W) (s := S) (S := S ||| 2 ^ j) (i := j + 1) (f := tbB n W S) (n - (j + 1))
  rw [show j + 1 + (n - (j + 1)) = n by omega] at h2
  have h3 := tbB_up (n := n) (W := W) (s := S + 1) (S := S ||| 2 ^ j) ((S ||| 2 ^ j) - (S + 1))
  rw [show S + 1 + ((S ||| 2 ^ j) - (S + 1)) = S ||| 2 ^ j by omega] at h3
  exact Nat.le_trans h1 (Nat.le_trans h2 h3)
theorem pcB_0 : ∀ n, pcB 0 n = 0
  | 0 => rfl
  | n + 1 => by rw [pcB, pcB_0 n]; simp
theorem tb_xor (S i k : Nat) : (S ^^^ 2 ^ i).testBit k = (S.testBit k ^^ decide (i = k)) := by rw [Nat.testBit_xor, Nat.testBit_two_pow]
theorem bef_pos {n : Nat} {W : Nat → Nat → Bool} (ht : ∀ a b c, a < n → b < n → c < n → W a b = true → W b c = true → W a c = true) (hr : ∀ a, a < n → W a a = false) : ∀ d S, pcB S n = d → dwn n W S → 0 < bef n W S
  | 0, S, hp, h => by
    have : S = 0 := by
      refine Nat.eq_of_testBit_eq fun j => ?_
      rw [Nat.zero_testBit]
      have key : ∀ k, pcB S k = 0 → ∀ j, j < k → S.testBit j = false := by
        intro k
        induction k with
        | zero => intro _ j hj; exact absurd hj (Nat.not_lt_zero _)
        | succ k ih =>
          intro hk j hj
          rw [pcB] at hk
          by_cases e : S.testBit k = true
          · rw [if_pos e] at hk; omega
          · rcases Nat.lt_or_ge j k with g | g
            · exact ih (by omega) j g
            · obtain rfl : j = k := by omega
              simpa using e
      by_cases hj : j < n
      · exact key n hp j hj
      · exact Nat.testBit_lt_two_pow (Nat.lt_of_lt_of_le h.1 (Nat.pow_le_pow_right (by decide) (Nat.le_of_not_lt hj)))
    subst this
    show 0 < tbB n W 0 0
    simp [tbB]
  | d + 1, S, hp, h => by
    have hex : ∃ j, j < n ∧ S.testBit j = true := by
      refine Classical.byContradiction fun hc => ?_
      have key : ∀ k, k ≤ n → pcB S k = 0 := by
        intro k
        induction k with
        | zero => intro _; rfl
        | succ k ih =>
          intro hk
          rw [pcB, ih (by omega), if_neg (fun e => hc ⟨k, by omega, e⟩)]
      rw [key n (Nat.le_refl _)] at hp
      omega
    obtain ⟨j, hj, hb, hmax⟩ := min_ex (R := fun a b => W b a) (p := fun j => S.testBit j = true) (fun a b c ha hb hc h1 h2 => ht c b a hc hb ha h2 h1) hr n (Nat.le_refl _) hex
    have hS' : S ^^^ 2 ^ j < 2 ^ n := Nat.xor_lt_two_pow h.1 (Nat.pow_lt_pow_right (by decide) hj)
    have hoff : (S ^^^ 2 ^ j).testBit j = false := by rw [tb_xor, hb]; simp
    have hor : (S ^^^ 2 ^ j) ||| 2 ^ j = S := by
      refine Nat.eq_of_testBit_eq fun k => ?_
      rw [tb_or, tb_xor]
      by_cases e : j = k
      · subst e; simp [hb]
      · simp [e]
    have hd : dwn n W (S ^^^ 2 ^ j) := by
      refine ⟨hS', fun m x hm hx hw hbx => ?_⟩
      rw [tb_xor] at hbx ⊢
      have hxj : j ≠ x := fun e => by subst e; rw [hb] at hbx; simp at hbx
      have hxS : S.testBit x = true := by simpa [hxj] using hbx
      have hmS := h.2 m x hm hx hw hxS
      have hmj : j ≠ m := fun e => by
        subst e
        have := hmax x hx hxS
        rw [hw] at this
        cases this
      simp [hmS, hmj]
    have hrd : rdy n W (S ^^^ 2 ^ j) j := by
      refine ⟨hoff, fun m hm hw => ?_⟩
      have hmS := h.2 m j hm hj hw hb
      have hmj : j ≠ m := fun e => by
        subst e
        rw [hr j hj] at hw
        cases hw
      rw [tb_xor]
      simp [hmS, hmj]
    have hpc := pcB_or hoff n
    rw [hor, if_pos hj, hp] at hpc
    have ih := bef_pos ht hr d (S ^^^ 2 ^ j) (by omega) hd
    have hle := bef_or hj hrd
    rw [hor] at hle
    omega
theorem cnt_pos {n : Nat} {W : Nat → Nat → Bool} (ht : ∀ a b c, a < n → b < n → c < n → W a b = true → W b c = true → W a c = true) (hr : ∀ a, a < n → W a a = false) : ∀ d S, n - pcB S n = d → dwn n W S → 0 < cnt n W S
  | 0, S, hp, h => by
    rw [cnt, hp]
    show 0 < 1
    omega
  | d + 1, S, hp, h => by
    have hne : S ≠ 2 ^ n - 1 := fun e => by
      rw [e, pcB_top n n (Nat.le_refl _)] at hp; omega
    have hex : ∃ j, j < n ∧ S.testBit j = false := by
      refine Classical.byContradiction fun hc => ?_
      have key : ∀ k, k ≤ n → pcB S k = k := by
        intro k
        induction k with
        | zero => intro _; rfl
        | succ k ih =>
          intro hk
          rw [pcB, ih (by omega), if_pos]
          cases e : S.testBit k with
          | true => rfl
          | false => exact absurd ⟨k, by omega, e⟩ hc
      rw [key n (Nat.le_refl _)] at hp
      omega
    obtain ⟨j, hj, hb, hmin⟩ := min_ex (R := W) (p := fun j => S.testBit j = false) ht hr n (Nat.le_refl _) hex
    have hrd : rdy n W S j := by
      refine ⟨hb, fun m hm hw => ?_⟩
      cases e : S.testBit m with
      | true => rfl
      | false =>
        have := hmin m hm e
        rw [hw] at this
        cases this
    have ih := cnt_pos ht hr d (S ||| 2 ^ j) (by rw [pcB_or hb, if_pos hj]; omega) (dwn_or h hj hrd)
    rw [cnt_rec h.1 hne]
    have := sumTo_ge (f := gS n W S) n hj
    rw [gS, if_pos hrd] at this
    omega

/-! ### Places -/
/-- What a set adds to a place. -/
def addP (n : Nat) (W : Nat → Nat → Bool) (i p s : Nat) : Nat := if rdy n W s i ∧ pcB s n = p then bef n W s * cnt n W (s ||| 2 ^ i) else 0
/-- In how many ways a context stands at a place, the sets below m. -/
def plc (n : Nat) (W : Nat → Nat → Bool) (i p m : Nat) : Nat := sumTo (addP n W i p) m
theorem addP_le {n i p s : Nat} {W : Nat → Nat → Bool} (hn : n ≤ 10) (hi : i < n) (hs : s < 2 ^ n) : addP n W i p s ≤ 10000000000 := by
  unfold addP
  split
  · rename_i h
    exact prod_b hn hs h.1.1 hi
  · exact Nat.zero_le _
theorem plc_le {n i p : Nat} {W : Nat → Nat → Bool} (hn : n ≤ 10) (hi : i < n) (s : Nat) (hs : s ≤ 2 ^ n) : plc n W i p s ≤ 10240000000000 := by
  refine Nat.le_trans (sumTo_le (b := 10000000000) s (fun j hj => addP_le hn hi (by omega))) ?_
  have : 2 ^ n ≤ 1024 := Nat.pow_le_pow_right (by decide) hn
  have := Nat.mul_le_mul_right 10000000000 (Nat.le_trans hs this)
  omega
/-- Those before and those after. -/
def nBf (n : Nat) (W : Nat → Nat → Bool) (i : Nat) : Nat → Nat
  | 0 => 0
  | k + 1 => nBf n W i k + (if W k i = true then 1 else 0)
def nAf (n : Nat) (W : Nat → Nat → Bool) (i : Nat) : Nat → Nat
  | 0 => 0
  | k + 1 => nAf n W i k + (if W i k = true then 1 else 0)
theorem pc_ge {n i S : Nat} {W : Nat → Nat → Bool} (h : ∀ m, m < n → W m i = true → S.testBit m = true) : ∀ k, k ≤ n → nBf n W i k ≤ pcB S k
  | 0, _ => Nat.le_refl _
  | k + 1, hk => by
    have ih := pc_ge h k (by omega)
    rw [nBf, pcB]
    by_cases e : W k i = true
    · rw [if_pos e, if_pos (h k (by omega) e)]; omega
    · rw [if_neg e]; omega
theorem pc_mk {f : Nat → Bool} {n : Nat} : ∀ k, k ≤ n → pcB (mkM f n) k = sumTo (fun j => if f j = true then 1 else 0) k
  | 0, _ => rfl
  | k + 1, hk => by
    rw [pcB, sumTo, pc_mk k (by omega), mkM_bit]
    simp [show k < n by omega]
theorem nBf_sum {n i : Nat} {W : Nat → Nat → Bool} : ∀ k, nBf n W i k = sumTo (fun j => if W j i = true then 1 else 0) k
  | 0 => rfl
  | k + 1 => by rw [nBf, sumTo, nBf_sum k]
/-- The others, without those after. -/
def oth (W : Nat → Nat → Bool) (i : Nat) : Nat → Bool := fun j => !W i j && !decide (j = i)
theorem oth_sum {n i : Nat} {W : Nat → Nat → Bool} (hr : W i i = false) : ∀ k, sumTo (fun j => if oth W i j = true then 1 else 0) k + nAf n W i k + (if i < k then 1 else 0) = k
  | 0 => by simp [sumTo, nAf]
  | k + 1 => by
    have ih := oth_sum (n := n) hr k
    rw [sumTo, nAf]
    by_cases e : k = i
    · subst e
      rw [if_neg (Nat.lt_irrefl _)] at ih
      rw [if_neg (show ¬ oth W k k = true by simp [oth]), if_neg (show ¬ W k k = true by rw [hr]; decide), if_pos (Nat.lt_succ_self k)]
      omega
    · have e2 : (if i < k + 1 then 1 else 0 : Nat) = if i < k then 1 else 0 := by
        by_cases g : i < k
        · rw [if_pos g, if_pos (by omega)]
        · rw [if_neg g, if_neg (by omega)]
      rw [e2]
      have e3 : (if oth W i k = true then 1 else 0 : Nat) + (if W i k = true then 1 else 0) = 1 := by cases h : W i k <;> simp [oth, h, e]
      omega
theorem pc_le {n i S : Nat} {W : Nat → Nat → Bool} (h : ∀ j, j < n → S.testBit j = true → oth W i j = true) : ∀ k, k ≤ n → pcB S k ≤ sumTo (fun j => if oth W i j = true then 1 else 0) k
  | 0, _ => Nat.le_refl _
  | k + 1, hk => by
    have ih := pc_le h k (by omega)
    rw [pcB, sumTo]
    by_cases e : S.testBit k = true
    · rw [if_pos e, if_pos (h k (by omega) e)]; omega
    · rw [if_neg e]; omega
theorem plc_bnd {n i : Nat} {W : Nat → Nat → Bool} (hr : ∀ a, a < n → W a a = false) (hi : i < n) {p : Nat} (h : 0 < plc n W i p (2 ^ n)) : nBf n W i n ≤ p ∧ p + nAf n W i n + 1 ≤ n := by
  obtain ⟨S, hS, h2⟩ := sumTo_pos _ h
  unfold addP at h2
  split at h2
  · rename_i hc
    obtain ⟨hrd, hp⟩ := hc
    have hb : 0 < bef n W S := Nat.pos_of_ne_zero fun e => by rw [e, Nat.zero_mul] at h2; omega
    have hd := bef_dwn hS hb
    refine ⟨by rw [← hp]; exact pc_ge hrd.2 n (Nat.le_refl _), ?_⟩
    have h3 := pc_le (n := n) (i := i) (S := S) (W := W) (fun j hj hbj => ?_) n (Nat.le_refl _)
    · have h4 := oth_sum (n := n) (hr i hi) n
      rw [if_pos hi] at h4
      omega
    · unfold oth
      have h5 : W i j = false := by
        cases e : W i j with
        | false => rfl
        | true =>
          have := hd.2 i j hi hj e hbj
          rw [hrd.1] at this
          cases this
      have h6 : j ≠ i := fun e => by subst e; rw [hrd.1] at hbj; cases hbj
      simp [h5, h6]
  · omega
section
variable {n i : Nat} {W : Nat → Nat → Bool} (ht : ∀ a b c, a < n → b < n → c < n → W a b = true → W b c = true → W a c = true) (hr : ∀ a, a < n → W a a = false) (hi : i < n)
include ht hr hi
theorem plc_of {p S : Nat} (hd : dwn n W S) (hrd : rdy n W S i) (hp : pcB S n = p) : 0 < plc n W i p (2 ^ n) := by
  refine Nat.lt_of_lt_of_le ?_ (sumTo_ge (f := addP n W i p) (2 ^ n) hd.1)
  unfold addP
  rw [if_pos ⟨hrd, hp⟩]
  exact Nat.mul_pos (bef_pos ht hr _ S rfl hd) (cnt_pos ht hr _ _ rfl (dwn_or hd hi hrd))
theorem plc_first : 0 < plc n W i (nBf n W i n) (2 ^ n) := by
  have hb : ∀ k, (mkM (fun m => W m i) n).testBit k = (decide (k < n) && W k i) := fun k => mkM_bit _ n k
  refine plc_of ht hr hi (S := mkM (fun m => W m i) n) ⟨mkM_lt _ n, fun m j hm hj hw hbj => ?_⟩ ⟨?_, fun m hm hw => ?_⟩ ?_
  · rw [hb] at hbj ⊢
    simp only [hm, hj, decide_true, Bool.true_and] at hbj ⊢
    exact ht m j i hm hj hi hw hbj
  · rw [hb, hr i hi]; simp
  · rw [hb, hw]; simp [hm]
  · rw [pc_mk n (Nat.le_refl _), nBf_sum]
theorem plc_last : 0 < plc n W i (n - 1 - nAf n W i n) (2 ^ n) := by
  have hb : ∀ k, (mkM (oth W i) n).testBit k = (decide (k < n) && oth W i k) := fun k => mkM_bit _ n k
  refine plc_of ht hr hi (S := mkM (oth W i) n) ⟨mkM_lt _ n, fun m j hm hj hw hbj => ?_⟩ ⟨?_, fun m hm hw => ?_⟩ ?_
  · rw [hb] at hbj ⊢
    simp only [hm, hj, decide_true, Bool.true_and, oth, Bool.and_eq_true, Bool.not_eq_true', decide_eq_false_iff_not] at hbj ⊢
    refine ⟨?_, fun e => ?_⟩
    · cases e : W i m with
      | false => rfl
      | true =>
        have := ht i m j hi hm hj e hw
        rw [hbj.1] at this
        cases this
    · subst e
      rw [hbj.1] at hw
      cases hw
  · rw [hb]; simp [oth]
  · rw [hb]
    simp only [hm, decide_true, Bool.true_and, oth, Bool.and_eq_true, Bool.not_eq_true', decide_eq_false_iff_not]
    refine ⟨?_, fun e => ?_⟩
    · cases e : W i m with
      | false => rfl
      | true =>
        have := ht i m i hi hm hi e hw
        rw [hr i hi] at this
        cases this
    · subst e
      rw [hr m hm] at hw
      cases hw
  · have h4 := oth_sum (n := n) (hr i hi) n
    rw [if_pos hi] at h4
    rw [pc_mk n (Nat.le_refl _)]
    omega
end
end Go.Proofs.Ythicnjgdngfbkaa.Rec
