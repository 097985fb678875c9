/- Sets of small numbers, kept as bits; operations on bits; contracts with two new lists. -/
import Derived.Test.YteoonedddgiacaaAb2
namespace Go.Proofs.Yteoonedddgiacaa.Ab
open Go Go.RowKit
set_option linter.unusedSimpArgs false
set_option linter.unusedVariables false

/-- The set of the k below n that f holds of. -/
def mkM (f : Nat → Bool) : Nat → Nat
  | 0 => 0
  | k + 1 => mkM f k + (if f k = true then 2 ^ k else 0)
theorem mkM_lt (f : Nat → Bool) : ∀ n, mkM f n < 2 ^ n
  | 0 => by simp [mkM]
  | n + 1 => by
    have := mkM_lt f n
    rw [mkM, Nat.pow_succ]
    split <;> omega
theorem mkM_bit (f : Nat → Bool) : ∀ n k, (mkM f n).testBit k = (decide (k < n) && f k)
  | 0, k => by simp [mkM]
  | n + 1, k => by
    rw [mkM]
    have ih := mkM_bit f n k
    rcases Nat.lt_trichotomy k n with h | h | h
    · by_cases hf : f n = true
      · rw [if_pos hf, Nat.add_comm, Nat.testBit_two_pow_add_gt h, ih]
        simp [h, Nat.lt_succ_of_lt h]
      · rw [if_neg hf, Nat.add_zero, ih]
        simp [h, Nat.lt_succ_of_lt h]
    · subst h
      by_cases hf : f k = true
      · rw [if_pos hf, Nat.add_comm, Nat.testBit_two_pow_add_eq, ih]
        simp [hf]
      · rw [if_neg hf, Nat.add_zero, ih]
        simp at hf
        simp [hf]
    · have h1 := mkM_lt f (n + 1)
      rw [mkM] at h1
      rw [Nat.testBit_lt_two_pow (Nat.lt_of_lt_of_le h1 (Nat.pow_le_pow_right (by decide) (by omega)))]
      simp [show ¬ k < n + 1 by omega]
theorem mkM_or (f g : Nat → Bool) (n : Nat) : mkM f n ||| mkM g n = mkM (fun k => f k || g k) n := by
  refine Nat.eq_of_testBit_eq fun i => ?_
  rw [Nat.testBit_or, mkM_bit, mkM_bit, mkM_bit]
  cases decide (i < n) <;> simp
theorem mkM_or1 (f : Nat → Bool) (n b : Nat) (hb : b < n) : mkM f n ||| 2 ^ b = mkM (fun k => f k || decide (k = b)) n := by
  refine Nat.eq_of_testBit_eq fun i => ?_
  rw [Nat.testBit_or, mkM_bit, mkM_bit, Nat.testBit_two_pow]
  by_cases h : b = i
  · subst h; simp [hb]
  · simp [h, Ne.symm h]
theorem mkM_congr {f g : Nat → Bool} : ∀ n, (∀ k, k < n → f k = g k) → mkM f n = mkM g n
  | 0, _ => rfl
  | n + 1, h => by rw [mkM, mkM, mkM_congr n (fun k hk => h k (by omega)), h n (by omega)]
theorem mkM_none : ∀ n, mkM (fun _ => false) n = 0
  | 0 => rfl
  | n + 1 => by rw [mkM, mkM_none n]; rfl
/-- What the test of a bit asks. -/
theorem bit_iff (m k : Nat) : (((m >>> k) &&& 1 : Nat) : Int) = 1 ↔ m.testBit k = true := by
  rw [Nat.testBit_eq_decide_div_mod_eq, Nat.and_one_is_mod, Nat.shiftRight_eq_div_pow, decide_eq_true_iff]
  omega
theorem bit_iff0 (m k : Nat) : (((m >>> k) &&& 1 : Nat) : Int) = 0 ↔ m.testBit k = false := by
  rw [Nat.testBit_eq_decide_div_mod_eq, Nat.and_one_is_mod, Nat.shiftRight_eq_div_pow, decide_eq_false_iff_not]
  omega
theorem ofI (a : Nat) (h : a ≤ 9223372036854775807) : (BitVec.ofInt 64 (a : Int)).toNat = a := by
  rw [BitVec.toNat_ofInt]
  omega
section
variable {T : Nat → AV} {H : Nat → Option Rows} {nr : Nat} {x y : AX}
theorem o_and {a b : Nat} (h1 : gT T x = .int .i64 (a : Int)) (h2 : gT T y = .int .i64 (b : Int)) (ha : a ≤ 9223372036854775807) (hb : b ≤ 9223372036854775807) : ev (gT T) H nr (.bin .and x y) = some (.int .i64 ((a &&& b : Nat) : Int), [], 0) := by
  have e : (BitVec.ofInt (IntKind.bits .i64) (a : Int) &&& BitVec.ofInt (IntKind.bits .i64) (b : Int)).toNat = a &&& b := by
    show (BitVec.ofInt 64 (a : Int) &&& BitVec.ofInt 64 (b : Int)).toNat = _
    rw [BitVec.toNat_and, ofI a ha, ofI b hb]
  have := Nat.and_le_left (n := a) (m := b)
  simp only [ev, h1, h2, binI, if_true, Option.bind_some, pureR, e]
  rw [IntWalk.i64_in _ ⟨by omega, by omega⟩]
theorem o_or {a b : Nat} (h1 : gT T x = .int .i64 (a : Int)) (h2 : gT T y = .int .i64 (b : Int)) (ha : a < 2 ^ 62) (hb : b < 2 ^ 62) : ev (gT T) H nr (.bin .or x y) = some (.int .i64 ((a ||| b : Nat) : Int), [], 0) := by
  have e : (BitVec.ofInt (IntKind.bits .i64) (a : Int) ||| BitVec.ofInt (IntKind.bits .i64) (b : Int)).toNat = a ||| b := by
    show (BitVec.ofInt 64 (a : Int) ||| BitVec.ofInt 64 (b : Int)).toNat = _
    rw [BitVec.toNat_or, ofI a (by omega), ofI b (by omega)]
  have := Nat.or_lt_two_pow ha hb
  simp only [ev, h1, h2, binI, if_true, Option.bind_some, pureR, e]
  rw [IntWalk.i64_in _ ⟨by omega, by omega⟩]
theorem o_shl1 {k : IntKind} {n : Nat} (h1 : gT T x = .int .i64 1) (h2 : gT T y = .int k (n : Int)) (hn : n ≤ 62) : ev (gT T) H nr (.bin .shl x y) = some (.int .i64 ((2 ^ n : Nat) : Int), [], 0) := by
  have hm : min ((n : Int)).toNat (IntKind.bits .i64) = n := by show min n 64 = n; omega
  have hp : 2 ^ n ≤ 2 ^ 62 := Nat.pow_le_pow_right (by decide) hn
  have e : (1 : Int) * 2 ^ n = ((2 ^ n : Nat) : Int) := by rw [Int.one_mul]; exact (Int.natCast_pow 2 n).symm
  simp only [ev, h1, h2, shI, Option.bind_some, pureR, hm, e]
  have hz : ¬ ((n : Int) < 0) := by omega
  have hw : IntKind.i64.wrap ((2 ^ n : Nat) : Int) = ((2 ^ n : Nat) : Int) := by
    have hp2 : 2 ^ n ≤ 4611686018427387904 := hp
    generalize 2 ^ n = q at hp2
    exact IntWalk.i64_in _ ⟨by omega, by omega⟩
  rw [if_neg hz, hw]
  rfl
theorem o_shr {k : IntKind} {m n : Nat} (h1 : gT T x = .int .i64 (m : Int)) (h2 : gT T y = .int k (n : Int)) (hn : n ≤ 62) : ev (gT T) H nr (.bin .shr x y) = some (.int .i64 ((m >>> n : Nat) : Int), [], 0) := by
  have hm : min ((n : Int)).toNat (IntKind.bits .i64) = n := by show min n 64 = n; omega
  have e : Int.fdiv (m : Int) (2 ^ n) = ((m >>> n : Nat) : Int) := by
    rw [Int.fdiv_eq_ediv_of_nonneg _ (Int.le_of_lt (Int.pow_pos (by decide))), Nat.shiftRight_eq_div_pow]
    rw [show ((2 : Int) ^ n) = ((2 ^ n : Nat) : Int) from (Int.natCast_pow 2 n).symm]
    exact (Int.natCast_ediv _ _).symm
  simp only [ev, h1, h2, shI, Option.bind_some, pureR, hm, e]
  rw [if_neg (by omega)]
  rfl
theorem o_cvu {k : IntKind} {n : Nat} (h1 : gT T x = .int k (n : Int)) (hn : n ≤ 9223372036854775807) : ev (gT T) H nr (.cv .u64 x) = some (.int .u64 (n : Int), [], 0) := by
  simp only [ev, h1, pureR]
  rw [show IntKind.u64.wrap (n : Int) = (n : Int) by rw [IntKind.wrap_u64]; omega]
end
section
variable {P : Program} {t : List (Nat × AV)} {h : List (Nat × Option Rows)} {nr : Nat} {os : List AO} {K : St → Prop} {A : List (List Nat)} {acc : List (List Nat × List Nat)}
/-- A call that makes two new lists. -/
theorem wG_call2 {d f : Nat} {args : List AX} {as : List AV} {v v' : AV} {o1 o2 : Rows} (hc : Con P f true as v [o1, o2]) (ha : (args.map (gT (lk t))).map (dr (hg h) 6) = as) (hv : sh nr v = v') (hw : wpG P false os ⟨(d, v') :: t, (nr, some o1) :: (nr + 1, some o2) :: h, nr + 2⟩ K) :
    wpG P false (⟨some d, none, .call f args⟩ :: os) ⟨t, h, nr⟩ K := wG_callN hc ha hv hw
theorem wE_call2 {d f : Nat} {args : List AX} {as : List AV} {v v' : AV} {o1 o2 : Rows} {rd : List Nat} (hc : Con P f true as v [o1, o2]) (ha : (args.map (gT (lk t))).map (dr (hg h) 6) = as) (hv : sh nr v = v') (hr : spL (rds (.call f args) (gT (lk t)) (hg h)) = some rd) (hw : wpE P A os ⟨(d, v') :: t, (nr, some o1) :: (nr + 1, some o2) :: h, nr + 2⟩ (([nr, nr + 1], rd) :: acc) K) :
    wpE P A (⟨some d, none, .call f args⟩ :: os) ⟨t, h, nr⟩ acc K := wE_callN hc ha hv (spL_eq hr) hw
/-- One result of any form. -/
theorem ret_any {ro : AOp} {rs : List Nat} {v w : AV} {objs : List Rows} {s : St} {e : EX} (he : e = .n ∨ e = .r) (hv : retV s ro = some w) (h1 : w = rn (πof rs) v) (h2 : match v with | .tup _ => False | _ => True) (h3 : v.ltr objs.length = true) (h4 : rs.length = objs.length) (h5 : rs.Nodup)
    (h6 : ∀ (i : Nat) rows, objs[i]? = some rows → hg s.h (πof rs i) = some rows) : Ret [ro] rs v objs e s := by
  refine ret_gen he (retVs_1 hv) ?_ ?_ h3 h4 h5 h6
  · rw [h1]; cases v <;> first | rfl | exact h2.elim
  · cases v <;> first | trivial | exact h2.elim
end
end Go.Proofs.Yteoonedddgiacaa.Ab
