/- Sets of contexts that stand first: how many ways there are to go on; the tables, step by step. -/
import Derived.Test.YthicnjgdngfbkaaRecG
import Derived.Test.YthicnjgdngfbkaaAb4
namespace Go.Proofs.Ythicnjgdngfbkaa.Rec
open Go Go.Proofs.Ythicnjgdngfbkaa.Ab Go.Proofs.Ythicnjgdngfbkaa.Il
set_option maxRecDepth 10000
set_option maxHeartbeats 8000000
set_option linter.unusedSimpArgs false
set_option linter.unusedVariables false

def rdy (n : Nat) (W : Nat → Nat → Bool) (S i : Nat) : Prop := S.testBit i = false ∧ ∀ k, k < n → W k i = true → S.testBit k = true
instance (n : Nat) (W : Nat → Nat → Bool) (S i : Nat) : Decidable (rdy n W S i) := by unfold rdy; infer_instance
def sumTo (f : Nat → Nat) : Nat → Nat
  | 0 => 0
  | i + 1 => sumTo f i + f i
theorem sumTo_le {f : Nat → Nat} {b : Nat} : ∀ m, (∀ i, i < m → f i ≤ b) → sumTo f m ≤ m * b
  | 0, _ => by simp [sumTo]
  | m + 1, h => by
    have h1 := sumTo_le m (fun i hi => h i (by omega))
    have h2 := h m (by omega)
    rw [sumTo, Nat.succ_mul]; omega
theorem sumTo_congr {f g : Nat → Nat} : ∀ m, (∀ i, i < m → f i = g i) → sumTo f m = sumTo g m
  | 0, _ => rfl
  | m + 1, h => by rw [sumTo, sumTo, sumTo_congr m (fun i hi => h i (by omega)), h m (by omega)]
theorem sumTo_mono {f : Nat → Nat} {m : Nat} : ∀ d, sumTo f m ≤ sumTo f (m + d)
  | 0 => Nat.le_refl _
  | d + 1 => by
    have := sumTo_mono (f := f) (m := m) d
    show _ ≤ sumTo f (m + d) + _
    omega
def cntD (n : Nat) (W : Nat → Nat → Bool) : Nat → Nat → Nat
  | 0, _ => 1
  | d + 1, S => sumTo (fun i => if rdy n W S i then cntD n W d (S ||| 2 ^ i) else 0) n
def pcB (S : Nat) : Nat → Nat
  | 0 => 0
  | k + 1 => pcB S k + (if S.testBit k = true then 1 else 0)
/-- In how many ways the others follow. -/
def cnt (n : Nat) (W : Nat → Nat → Bool) (S : Nat) : Nat := cntD n W (n - pcB S n) S
theorem cntD_le {n : Nat} {W : Nat → Nat → Bool} (hn : n ≤ 10) : ∀ d S, cntD n W d S ≤ 10 ^ d
  | 0, _ => by simp [cntD]
  | d + 1, S => by
    have h := sumTo_le (f := fun i => if rdy n W S i then cntD n W d (S ||| 2 ^ i) else 0) (b := 10 ^ d) n (fun i _ => by
      split
      · exact cntD_le hn d _
      · exact Nat.zero_le _)
    refine Nat.le_trans h ?_
    rw [Nat.pow_succ, Nat.mul_comm]
    exact Nat.mul_le_mul_left _ hn
theorem pcB_le (S : Nat) : ∀ k, pcB S k ≤ k
  | 0 => Nat.le_refl _
  | k + 1 => by
    have := pcB_le S k
    rw [pcB]; split <;> omega
theorem cnt_le {n : Nat} {W : Nat → Nat → Bool} (hn : n ≤ 10) (S : Nat) : cnt n W S ≤ 10000000000 :=
  Nat.le_trans (cntD_le hn _ _) (Nat.le_trans (Nat.pow_le_pow_right (by decide) (show n - pcB S n ≤ 10 by omega)) (by decide))
theorem tb_or (S i k : Nat) : (S ||| 2 ^ i).testBit k = (S.testBit k || decide (i = k)) := by rw [Nat.testBit_or, Nat.testBit_two_pow]
theorem pcB_or {S i : Nat} (h : S.testBit i = false) : ∀ k, pcB (S ||| 2 ^ i) k = pcB S k + (if i < k then 1 else 0)
  | 0 => by simp [pcB]
  | k + 1 => by
    rw [pcB, pcB, pcB_or h k, tb_or]
    by_cases e : i = k
    · subst e; simp [h]
    · by_cases e2 : i < k
      · simp [e, e2, show i < k + 1 by omega]; omega
      · simp [e, e2, show ¬ i < k + 1 by omega]
theorem pcB_all {S : Nat} : ∀ k, pcB S k = k → ∀ j, j < k → S.testBit j = true
  | 0, _, j, hj => absurd hj (Nat.not_lt_zero _)
  | k + 1, h, j, hj => by
    rw [pcB] at h
    have hle := pcB_le S k
    by_cases e : S.testBit k = true
    · rw [if_pos e] at h
      rcases Nat.lt_or_ge j k with g | g
      · exact pcB_all k (by omega) j g
      · obtain rfl : j = k := by omega
        exact e
    · rw [if_neg e] at h; omega
theorem pcB_top (n : Nat) : ∀ k, k ≤ n → pcB (2 ^ n - 1) k = k
  | 0, _ => rfl
  | k + 1, h => by
    rw [pcB, pcB_top n k (by omega), Nat.testBit_two_pow_sub_one]
    simp [show k < n by omega]
theorem pcB_lt {n S : Nat} (h1 : S < 2 ^ n) (h2 : S ≠ 2 ^ n - 1) : pcB S n < n := by
  have h := pcB_le S n
  refine Nat.lt_of_le_of_ne h (fun e => h2 ?_)
  refine Nat.eq_of_testBit_eq fun j => ?_
  rw [Nat.testBit_two_pow_sub_one]
  by_cases hj : j < n
  · simp [hj, pcB_all n e j hj]
  · simp [hj, Nat.testBit_lt_two_pow (Nat.lt_of_lt_of_le h1 (Nat.pow_le_pow_right (by decide) (Nat.le_of_not_lt hj)))]
theorem cnt_top (n : Nat) (W : Nat → Nat → Bool) : cnt n W (2 ^ n - 1) = 1 := by
  rw [cnt, pcB_top n n (Nat.le_refl _), Nat.sub_self]; rfl
def gS (n : Nat) (W : Nat → Nat → Bool) (S i : Nat) : Nat := if rdy n W S i then cnt n W (S ||| 2 ^ i) else 0
theorem cnt_rec {n S : Nat} {W : Nat → Nat → Bool} (h1 : S < 2 ^ n) (h2 : S ≠ 2 ^ n - 1) : cnt n W S = sumTo (gS n W S) n := by
  have hp := pcB_lt h1 h2
  obtain ⟨d, hd⟩ : ∃ d, n - pcB S n = d + 1 := ⟨n - pcB S n - 1, by omega⟩
  rw [cnt, hd, cntD]
  refine sumTo_congr n fun i hi => ?_
  unfold gS
  by_cases e : rdy n W S i
  · rw [if_pos e, if_pos e, cnt, pcB_or e.1, if_pos hi]
    congr 1
    omega
  · rw [if_neg e, if_neg e]
theorem or_lt {n S i : Nat} (h1 : S < 2 ^ n) (h2 : i < n) : S ||| 2 ^ i < 2 ^ n := Nat.or_lt_two_pow h1 (Nat.pow_lt_pow_right (by decide) h2)
theorem or_gt {S i : Nat} (h : S.testBit i = false) : S < S ||| 2 ^ i := by
  refine Nat.lt_of_le_of_ne Nat.left_le_or (fun e => ?_)
  have := tb_or S i i
  rw [← e, h] at this
  simp at this

/-! ### The table of the ways to go on -/
def bhB (n : Nat) (W : Nat → Nat → Bool) (u i S : Nat) : Nat := if u ≤ S then cnt n W S else if S + 1 = u then sumTo (gS n W S) i else 0
def bhL (n : Nat) (W : Nat → Nat → Bool) (u i : Nat) : List Int := (List.range (2 ^ n)).map fun S => ((bhB n W u i S : Nat) : Int)
theorem bhL_len (n : Nat) (W : Nat → Nat → Bool) (u i : Nat) : (bhL n W u i).length = 2 ^ n := by simp [bhL]
theorem bhL_get {n u i S : Nat} {W : Nat → Nat → Bool} (h : S < 2 ^ n) : ((bhL n W u i).map iRow)[S]? = some (iRow ((bhB n W u i S : Nat) : Int)) := by
  rw [bhL, List.map_map]; exact get_range h
theorem sumTo_b {n : Nat} {W : Nat → Nat → Bool} (hn : n ≤ 10) (S : Nat) {i : Nat} (hi : i ≤ n) : sumTo (gS n W S) i ≤ 100000000000 := by
  have h := sumTo_le (f := gS n W S) (b := 10000000000) i (fun j _ => by
    unfold gS
    split
    · exact cnt_le hn _
    · exact Nat.zero_le _)
  refine Nat.le_trans h ?_
  have := Nat.mul_le_mul_right 10000000000 (Nat.le_trans hi hn)
  omega
theorem bhB_b {n : Nat} {W : Nat → Nat → Bool} (hn : n ≤ 10) (u S : Nat) {i : Nat} (hi : i ≤ n) : bhB n W u i S ≤ 100000000000 := by
  unfold bhB
  split
  · exact Nat.le_trans (cnt_le hn S) (by decide)
  · split
    · exact sumTo_b hn S hi
    · exact Nat.zero_le _
theorem bhL_top (n : Nat) (W : Nat → Nat → Bool) : (List.replicate (2 ^ n) [AV.int .i64 0]).set (2 ^ n - 1) [AV.int .i64 1] = (bhL n W (2 ^ n - 1) 0).map iRow := by
  have hp : 0 < 2 ^ n := Nat.pow_pos (by decide)
  refine List.ext_getElem (by simp [bhL]) fun S h1 h2 => ?_
  have hS : S < 2 ^ n := by simpa [bhL] using h2
  rw [List.getElem_set]
  simp only [List.getElem_replicate, bhL, List.getElem_map, List.getElem_range, bhB]
  by_cases e : 2 ^ n - 1 = S
  · rw [if_pos e, if_pos (by omega), ← e, cnt_top]; rfl
  · rw [if_neg e, if_neg (by omega)]
    split <;> rfl
theorem bhL_no {n s i : Nat} {W : Nat → Nat → Bool} (h : ¬ rdy n W s i) : bhL n W (s + 1) (i + 1) = bhL n W (s + 1) i := by
  refine List.map_congr_left fun S _ => ?_
  have : bhB n W (s + 1) (i + 1) S = bhB n W (s + 1) i S := by
    unfold bhB
    split
    · rfl
    · split
      · rename_i _ e
        obtain rfl : S = s := by omega
        show sumTo _ i + gS n W S i = _
        rw [gS, if_neg h]; rfl
      · rfl
  rw [this]
theorem bhL_yes {n s i : Nat} {W : Nat → Nat → Bool} (hs : s < 2 ^ n) (hi : i < n) (h : rdy n W s i) : ((bhL n W (s + 1) i).map iRow).set s (iRow (((bhB n W (s + 1) i s + bhB n W (s + 1) i (s ||| 2 ^ i) : Nat)) : Int)) = (bhL n W (s + 1) (i + 1)).map iRow := by
  rw [← List.map_set]
  congr 1
  refine set_range (v := (((bhB n W (s + 1) i s + bhB n W (s + 1) i (s ||| 2 ^ i) : Nat)) : Int)) ?_ (fun S hS => ?_)
  · have e1 : bhB n W (s + 1) (i + 1) s = sumTo (gS n W s) i + gS n W s i := by unfold bhB; rw [if_neg (by omega), if_pos rfl]; rfl
    have e2 : bhB n W (s + 1) i s = sumTo (gS n W s) i := by unfold bhB; rw [if_neg (by omega), if_pos rfl]
    have e3 : bhB n W (s + 1) i (s ||| 2 ^ i) = gS n W s i := by unfold bhB; rw [if_pos (show s + 1 ≤ s ||| 2 ^ i from or_gt h.1), gS, if_pos h]
    show ((bhB n W (s + 1) (i + 1) s : Nat) : Int) = _
    rw [e1, e2, e3]
  · have : bhB n W (s + 1) (i + 1) S = bhB n W (s + 1) i S := by
      unfold bhB
      split
      · rfl
      · rw [if_neg (by omega), if_neg (by omega)]
    show ((bhB n W (s + 1) (i + 1) S : Nat) : Int) = ((bhB n W (s + 1) i S : Nat) : Int)
    rw [this]
theorem bhL_end {n s : Nat} {W : Nat → Nat → Bool} (hs : s < 2 ^ n - 1) : bhL n W (s + 1) n = bhL n W s 0 := by
  refine List.map_congr_left fun S _ => ?_
  have : bhB n W (s + 1) n S = bhB n W s 0 S := by
    unfold bhB
    by_cases h1 : s + 1 ≤ S
    · rw [if_pos h1, if_pos (by omega)]
    · rw [if_neg h1]
      by_cases h2 : S + 1 = s + 1
      · obtain rfl : S = s := by omega
        rw [if_pos rfl, if_pos (Nat.le_refl _), cnt_rec (by omega) (by omega)]
      · rw [if_neg h2, if_neg (by omega)]; split <;> rfl
  rw [this]
def cntL (n : Nat) (W : Nat → Nat → Bool) : List Int := (List.range (2 ^ n)).map fun S => ((cnt n W S : Nat) : Int)
theorem cntL_len (n : Nat) (W : Nat → Nat → Bool) : (cntL n W).length = 2 ^ n := by simp [cntL]
theorem bhL_0 (n : Nat) (W : Nat → Nat → Bool) : bhL n W 0 0 = cntL n W := List.map_congr_left fun S _ => by simp [bhB]
theorem cntL_get {n S : Nat} {W : Nat → Nat → Bool} (h : S < 2 ^ n) : ((cntL n W).map iRow)[S]? = some (iRow ((cnt n W S : Nat) : Int)) := by
  rw [cntL, List.map_map]; exact get_range h

/-! ### The table of the ways to come there, as it is made -/
def bfStep (n : Nat) (W : Nat → Nat → Bool) (s i : Nat) (l : List Int) : List Int := if l.getD s default > 0 ∧ rdy n W s i then l.set (s ||| 2 ^ i) (IntKind.i64.wrap (l.getD (s ||| 2 ^ i) default + l.getD s default)) else l
def bfI (n : Nat) (W : Nat → Nat → Bool) (s : Nat) : Nat → List Int → List Int
  | 0, l => l
  | i + 1, l => bfStep n W s i (bfI n W s i l)
def bfA (n : Nat) (W : Nat → Nat → Bool) : Nat → List Int
  | 0 => (List.replicate (2 ^ n) 0).set 0 1
  | s + 1 => bfI n W s n (bfA n W s)
theorem bfStep_len (n : Nat) (W : Nat → Nat → Bool) (s i : Nat) (l : List Int) : (bfStep n W s i l).length = l.length := by unfold bfStep; split <;> simp
theorem bfI_len (n : Nat) (W : Nat → Nat → Bool) (s : Nat) (l : List Int) : ∀ i, (bfI n W s i l).length = l.length
  | 0 => rfl
  | i + 1 => by rw [bfI, bfStep_len, bfI_len n W s l i]
theorem bfA_len (n : Nat) (W : Nat → Nat → Bool) : ∀ s, (bfA n W s).length = 2 ^ n
  | 0 => by simp [bfA]
  | s + 1 => by rw [bfA, bfI_len, bfA_len n W s]
theorem iGet {l : List Int} {S : Nat} (h : S < l.length) : (l.map iRow)[S]? = some (iRow (l.getD S default)) := by
  simp [List.getElem?_map, List.getElem?_eq_getElem h, List.getD_eq_getElem?_getD]

/-! ### Bits without others -/
def nAnd (a b : Nat) : Nat := (BitVec.ofInt 64 (a : Int) &&& ~~~ BitVec.ofInt 64 (b : Int)).toNat
theorem nAnd_le {a b : Nat} (ha : a ≤ 9223372036854775807) : nAnd a b ≤ a := by
  unfold nAnd
  rw [BitVec.toNat_and, ofI a ha]
  exact Nat.and_le_left
theorem nAnd_tb {a b k : Nat} (ha : a < 1024) (hb : b < 1024) : (nAnd a b).testBit k = (a.testBit k && !b.testBit k) := by
  unfold nAnd
  rw [BitVec.testBit_toNat, BitVec.getLsbD_and, BitVec.getLsbD_not]
  have e : ∀ c : Nat, c < 1024 → (BitVec.ofInt 64 (c : Int)).getLsbD k = c.testBit k := fun c hc => by
    rw [← BitVec.testBit_toNat, ofI c (by omega)]
  rw [e a ha, e b hb]
  by_cases hk : k < 64
  · simp [hk]
  · have : a.testBit k = false := Nat.testBit_lt_two_pow (Nat.lt_of_lt_of_le ha (Nat.le_trans (show 1024 ≤ 2 ^ 64 by decide) (Nat.pow_le_pow_right (by decide) (Nat.le_of_not_lt hk))))
    simp [hk, this]
theorem nAnd_0 {a b : Nat} (ha : a < 1024) (hb : b < 1024) : nAnd a b = 0 ↔ ∀ k, a.testBit k = true → b.testBit k = true := by
  constructor
  · intro h k hk
    have := nAnd_tb (k := k) ha hb
    rw [h, Nat.zero_testBit, hk] at this
    simpa using this.symm
  · intro h
    refine Nat.eq_of_testBit_eq fun k => ?_
    rw [nAnd_tb ha hb, Nat.zero_testBit]
    cases e : a.testBit k with
    | false => rfl
    | true => rw [h k e]; rfl
section
variable {T : Nat → AV} {H : Nat → Option Ab.Rows} {nr : Nat} {x y : AX}
theorem o_andn {a b : Nat} (h1 : gT T x = .int .i64 (a : Int)) (h2 : gT T y = .int .i64 (b : Int)) (ha : a ≤ 9223372036854775807) : Ab.ev (gT T) H nr (.bin .andNot x y) = some (.int .i64 ((nAnd a b : Nat) : Int), [], 0) := by
  have := nAnd_le (b := b) ha
  simp only [Ab.ev, h1, h2, binI, if_true, Option.bind_some, pureR]
  show some (AV.int .i64 (IntKind.i64.wrap ((nAnd a b : Nat) : Int)), _, _) = _
  rw [IntWalk.i64_in _ ⟨by omega, by omega⟩]
theorem o_addw {a b : Int} (h1 : gT T x = .int .i64 a) (h2 : gT T y = .int .i64 b) : Ab.ev (gT T) H nr (.bin .add x y) = some (.int .i64 (IntKind.i64.wrap (a + b)), [], 0) := by
  simp only [Ab.ev, h1, h2, binI, if_true, Option.bind_some, pureR]
theorem o_mulw {a b : Int} (h1 : gT T x = .int .i64 a) (h2 : gT T y = .int .i64 b) : Ab.ev (gT T) H nr (.bin .mul x y) = some (.int .i64 (IntKind.i64.wrap (a * b)), [], 0) := by
  simp only [Ab.ev, h1, h2, binI, if_true, Option.bind_some, pureR]
end
end Go.Proofs.Ythicnjgdngfbkaa.Rec
