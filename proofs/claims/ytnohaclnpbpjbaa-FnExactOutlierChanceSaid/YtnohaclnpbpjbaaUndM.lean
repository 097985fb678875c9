/- Unsigned numbers of 64 bits: the laws of their operations; long division (plain). -/
import Derived.Test.YtnohaclnpbpjbaaIntA
import Derived.Test.YtnohaclnpbpjbaaAb3
namespace Go.Proofs.Ytnohaclnpbpjbaa.Und
open Go Go.Proofs.Ytnohaclnpbpjbaa.Ab
set_option maxRecDepth 10000
set_option linter.unusedSimpArgs false
set_option linter.unusedVariables false

section
variable {T : Nat → AV} {H : Nat → Option Ab.Rows} {nr : Nat} {x y : AX}
theorem u_in {a : Int} (h0 : 0 ≤ a) (h1 : a < 18446744073709551616) : IntKind.u64.wrap a = a := by rw [IntKind.wrap_u64]; omega
theorem u_add {a b : Nat} (h1 : gT T x = .int .u64 (a : Int)) (h2 : gT T y = .int .u64 (b : Int)) (hb : a + b < 18446744073709551616) : Ab.ev (gT T) H nr (.bin .add x y) = some (.int .u64 ((a + b : Nat) : Int), [], 0) := by
  simp only [Ab.ev, h1, h2, binI, if_true, Option.bind_some, pureR]
  rw [u_in (by omega) (by omega)]; rfl
theorem u_sub {a b : Nat} (h1 : gT T x = .int .u64 (a : Int)) (h2 : gT T y = .int .u64 (b : Int)) (hb : b ≤ a) (ha : a < 18446744073709551616) : Ab.ev (gT T) H nr (.bin .sub x y) = some (.int .u64 ((a - b : Nat) : Int), [], 0) := by
  simp only [Ab.ev, h1, h2, binI, if_true, Option.bind_some, pureR]
  rw [u_in (by omega) (by omega), Int.ofNat_sub hb]
theorem u_mul {a b : Nat} (h1 : gT T x = .int .u64 (a : Int)) (h2 : gT T y = .int .u64 (b : Int)) (hb : a * b < 18446744073709551616) : Ab.ev (gT T) H nr (.bin .mul x y) = some (.int .u64 ((a * b : Nat) : Int), [], 0) := by
  simp only [Ab.ev, h1, h2, binI, if_true, Option.bind_some, pureR]
  rw [← Int.natCast_mul, u_in (by omega) (by omega)]
theorem u_addw {a b : Int} (h1 : gT T x = .int .u64 a) (h2 : gT T y = .int .u64 b) : Ab.ev (gT T) H nr (.bin .add x y) = some (.int .u64 (IntKind.u64.wrap (a + b)), [], 0) := by
  simp only [Ab.ev, h1, h2, binI, if_true, Option.bind_some, pureR]
theorem u_subw {a b : Int} (h1 : gT T x = .int .u64 a) (h2 : gT T y = .int .u64 b) : Ab.ev (gT T) H nr (.bin .sub x y) = some (.int .u64 (IntKind.u64.wrap (a - b)), [], 0) := by
  simp only [Ab.ev, h1, h2, binI, if_true, Option.bind_some, pureR]
theorem u_mulw {a b : Int} (h1 : gT T x = .int .u64 a) (h2 : gT T y = .int .u64 b) : Ab.ev (gT T) H nr (.bin .mul x y) = some (.int .u64 (IntKind.u64.wrap (a * b)), [], 0) := by
  simp only [Ab.ev, h1, h2, binI, if_true, Option.bind_some, pureR]
theorem u_quo {a b : Nat} (h1 : gT T x = .int .u64 (a : Int)) (h2 : gT T y = .int .u64 (b : Int)) (hb : 0 < b) (ha : a < 18446744073709551616) : Ab.ev (gT T) H nr (.bin .quo x y) = some (.int .u64 ((a / b : Nat) : Int), [], 0) := by
  simp only [Ab.ev, h1, h2, binI, if_true]
  have hq : a / b ≤ a := Nat.div_le_self a b
  rw [if_neg (by omega), show ((a : Int).tdiv (b : Int)) = ((a / b : Nat) : Int) from rfl]
  generalize a / b = q at hq
  rw [u_in (by omega) (by omega)]
  rfl
theorem u_rem {a b : Nat} (h1 : gT T x = .int .u64 (a : Int)) (h2 : gT T y = .int .u64 (b : Int)) (hb : 0 < b) : Ab.ev (gT T) H nr (.bin .rem x y) = some (.int .u64 ((a % b : Nat) : Int), [], 0) := by
  simp only [Ab.ev, h1, h2, binI, if_true]
  rw [if_neg (by omega), show ((a : Int).tmod (b : Int)) = ((a % b : Nat) : Int) from rfl]
  rfl
theorem ofU (a : Nat) (h : a < 18446744073709551616) : (BitVec.ofInt 64 (a : Int)).toNat = a := by
  rw [BitVec.toNat_ofInt]
  omega
theorem u_mask {a : Nat} (h1 : gT T x = .int .u64 (a : Int)) (h2 : gT T y = .int .u64 4294967295) (ha : a < 18446744073709551616) : Ab.ev (gT T) H nr (.bin .and x y) = some (.int .u64 ((a % 4294967296 : Nat) : Int), [], 0) := by
  have e : (BitVec.ofInt (IntKind.bits .u64) (a : Int) &&& BitVec.ofInt (IntKind.bits .u64) (4294967295 : Int)).toNat = a % 4294967296 := by
    show (BitVec.ofInt 64 (a : Int) &&& BitVec.ofInt 64 (4294967295 : Int)).toNat = _
    rw [BitVec.toNat_and, ofU a ha, show (BitVec.ofInt 64 (4294967295 : Int)).toNat = 2 ^ 32 - 1 by decide, Nat.and_two_pow_sub_one_eq_mod]
  simp only [Ab.ev, h1, h2, binI, if_true, Option.bind_some, pureR, e]
  rw [u_in (by omega) (by omega)]
theorem u_shr {k : IntKind} {m n : Nat} (h1 : gT T x = .int .u64 (m : Int)) (h2 : gT T y = .int k (n : Int)) (hn : n ≤ 64) : Ab.ev (gT T) H nr (.bin .shr x y) = some (.int .u64 ((m / 2 ^ n : Nat) : Int), [], 0) := by
  have hm : min ((n : Int)).toNat (IntKind.bits .u64) = n := by show min n 64 = n; omega
  have e : Int.fdiv (m : Int) (2 ^ n) = ((m / 2 ^ n : Nat) : Int) := by
    rw [Int.fdiv_eq_ediv_of_nonneg _ (Int.le_of_lt (Int.pow_pos (by decide)))]
    rw [show ((2 : Int) ^ n) = ((2 ^ n : Nat) : Int) from (Int.natCast_pow 2 n).symm]
    exact (Int.natCast_ediv _ _).symm
  simp only [Ab.ev, h1, h2, shI, Option.bind_some, pureR, hm, e]
  rw [if_neg (by omega)]
  rfl
theorem u_shl {k : IntKind} {m n : Nat} (h1 : gT T x = .int .u64 (m : Int)) (h2 : gT T y = .int k (n : Int)) (hn : n ≤ 64) : Ab.ev (gT T) H nr (.bin .shl x y) = some (.int .u64 ((m * 2 ^ n % 18446744073709551616 : Nat) : Int), [], 0) := by
  have hm : min ((n : Int)).toNat (IntKind.bits .u64) = n := by show min n 64 = n; omega
  have e : (m : Int) * 2 ^ n = ((m * 2 ^ n : Nat) : Int) := by
    rw [Int.natCast_mul, Int.natCast_pow]; rfl
  simp only [Ab.ev, h1, h2, shI, Option.bind_some, pureR, hm, e]
  rw [if_neg (by omega), IntKind.wrap_u64]
  generalize m * 2 ^ n = q
  simp only [Option.bind_some, Option.some.injEq, Prod.mk.injEq, and_true]
  congr 1
end
/-! ### Long division by two digits -/
/-- One digit: where the trial digit may stop. -/
theorem dig_ok {v1 v0 u un q r : Nat} (hv : 2147483648 ≤ v1) (h1 : v1 < 4294967296) (h0 : v0 < 4294967296) (hu : u < v1 * 4294967296 + v0) (hn : un < 4294967296) (hq : q * v1 + r = u) (hle : (u * 4294967296 + un) / (v1 * 4294967296 + v0) ≤ q)
    (hs : q * v0 ≤ 4294967296 * r + un) : q = (u * 4294967296 + un) / (v1 * 4294967296 + v0) := by
  refine Nat.le_antisymm ?_ hle
  rw [Nat.le_div_iff_mul_le (by omega)]
  have : q * (v1 * 4294967296 + v0) = q * v1 * 4294967296 + q * v0 := by rw [Nat.mul_add, Nat.mul_assoc]
  omega
theorem dig_dn {v1 v0 u un q r : Nat} (hv : 2147483648 ≤ v1) (h0 : v0 < 4294967296) (hq : q * v1 + r = u) (hs : 4294967296 * r + un < q * v0) : (u * 4294967296 + un) / (v1 * 4294967296 + v0) ≤ q - 1 := by
  have : (u * 4294967296 + un) / (v1 * 4294967296 + v0) < q := by
    rw [Nat.div_lt_iff_lt_mul (by omega)]
    have : q * (v1 * 4294967296 + v0) = q * v1 * 4294967296 + q * v0 := by rw [Nat.mul_add, Nat.mul_assoc]
    omega
  omega
theorem dig_small {v u un : Nat} (hu : u < v) (hn : un < 4294967296) : (u * 4294967296 + un) / v < 4294967296 := by
  rw [Nat.div_lt_iff_lt_mul (by omega)]
  have : 4294967296 * (u + 1) ≤ 4294967296 * v := Nat.mul_le_mul_left _ hu
  omega
/-- The first trial digit. -/
theorem dig_first {v1 v0 u un : Nat} (hv : 2147483648 ≤ v1) (h0 : v0 < 4294967296) (hu : u < v1 * 4294967296 + v0) (hn : un < 4294967296) : (u * 4294967296 + un) / (v1 * 4294967296 + v0) ≤ u / v1 ∧ u / v1 ≤ 4294967297 := by
  constructor
  · rw [Nat.le_div_iff_mul_le (by omega)]
    generalize hq : (u * 4294967296 + un) / (v1 * 4294967296 + v0) = q
    have h1 : q * (v1 * 4294967296 + v0) ≤ u * 4294967296 + un := by rw [← hq]; exact Nat.div_mul_le_self _ _
    have h2 : q * (v1 * 4294967296 + v0) = q * v1 * 4294967296 + q * v0 := by rw [Nat.mul_add, Nat.mul_assoc]
    omega
  · have : u / v1 < 4294967298 := by
      rw [Nat.div_lt_iff_lt_mul (by omega)]
      omega
    omega
/-- Both digits together. -/
theorem two_digB {B v u a b : Nat} (hv : 0 < v) : ((u * B + a) / v) * B + (((u * B + a) % v) * B + b) / v = ((u * B + a) * B + b) / v := by
  generalize u * B + a = n
  have h := Nat.div_add_mod n v
  have e2 : n * B + b = v * (n / v * B) + (n % v * B + b) := by
    have : n * B = (v * (n / v) + n % v) * B := by rw [h]
    rw [this, Nat.add_mul, Nat.mul_assoc, Nat.add_assoc]
  rw [e2, Nat.mul_add_div hv]
theorem two_dig {v u a b : Nat} (hv : 0 < v) : ((u * 4294967296 + a) / v) * 4294967296 + (((u * 4294967296 + a) % v) * 4294967296 + b) / v = (u * 18446744073709551616 + (a * 4294967296 + b)) / v := by
  have e : u * 18446744073709551616 + (a * 4294967296 + b) = (u * 4294967296 + a) * 4294967296 + b := by omega
  rw [e]
  exact two_digB hv
end Go.Proofs.Ytnohaclnpbpjbaa.Und
namespace Go.Proofs.Ytnohaclnpbpjbaa.Und
open Go Go.Proofs.Ytnohaclnpbpjbaa.Ab Go.Proofs.Ytnohaclnpbpjbaa.Il
attribute [local irreducible] wpO wpC wpDr wpQ wpG wpE stepA seqQ blkQ Ret ev
set_option maxRecDepth 10000
set_option maxHeartbeats 8000000
set_option linter.unusedSimpArgs false
set_option linter.unusedVariables false

def ac68 : AC := (.seq (.reg [⟨(some 4), none, (.mv (.c (.int .i64 0)))⟩]) (.seq (.reg [⟨(some 5), none, (.mv (.c (.int .i64 0)))⟩]) (.seq (.seq (.reg [⟨(some 6), none, (.mv (.c (.int .i64 0)))⟩]) (.blk 0 (.loop (.seq (.seq (.reg [⟨(some 11), none, (.mv (.t 6))⟩, ⟨(some 12), none, (.bin .lss (.t 11) (.c (.int .i64 3)))⟩]) (.cond (.t 12) .skip (.exit 0))) (.seq (.blk 1 (.seq (.reg [⟨(some 7), none, (.mv (.c (.int .i64 0)))⟩]) (.seq (.reg [⟨(some 15), none, (.mv (.t 0))⟩, ⟨(some 8), none, (.mv (.t 15))⟩]) (.seq (.reg [⟨(some 9), none, (.mv (.c (.int .i64 0)))⟩]) (.seq (.seq (.reg [⟨(some 10), none, (.mv (.c (.int .i64 0)))⟩]) (.blk 2 (.loop (.seq (.seq (.reg [⟨(some 16), none, (.mv (.t 10))⟩, ⟨(some 17), none, (.bin .lss (.t 16) (.c (.int .i64 10)))⟩]) (.cond (.t 17) .skip (.exit 2))) (.seq (.blk 3 (.seq (.reg [⟨(some 20), none, (.mv (.t 9))⟩, ⟨(some 21), none, (.mv (.t 1))⟩, ⟨(some 22), none, (.mv (.t 8))⟩, ⟨(some 23), none, (.bin .sub (.t 21) (.t 22))⟩, ⟨(some 24), none, (.bin .geq (.t 20) (.t 23))⟩]) (.cond (.t 24) (.seq (.reg [⟨(some 25), none, (.mv (.t 9))⟩, ⟨(some 26), none, (.mv (.t 1))⟩, ⟨(some 27), none, (.mv (.t 8))⟩, ⟨(some 28), none, (.bin .sub (.t 26) (.t 27))⟩, ⟨(some 29), none, (.bin .sub (.t 25) (.t 28))⟩, ⟨(some 9), none, (.mv (.t 29))⟩]) (.reg [⟨(some 30), none, (.mv (.t 7))⟩, ⟨(some 31), none, (.bin .add (.t 30) (.c (.int .i64 1)))⟩, ⟨(some 7), none, (.mv (.t 31))⟩])) (.reg [⟨(some 32), none, (.mv (.t 9))⟩, ⟨(some 33), none, (.mv (.t 8))⟩, ⟨(some 34), none, (.bin .add (.t 32) (.t 33))⟩, ⟨(some 9), none, (.mv (.t 34))⟩])))) (.reg [⟨(some 18), none, (.mv (.t 10))⟩, ⟨(some 19), none, (.bin .add (.t 18) (.c (.int .i64 1)))⟩, ⟨(some 10), none, (.mv (.t 19))⟩])))))) (.seq (.reg [⟨(some 35), none, (.mv (.t 5))⟩, ⟨(some 36), none, (.bin .mul (.c (.int .i64 10)) (.t 35))⟩, ⟨(some 37), none, (.mv (.t 7))⟩, ⟨(some 38), none, (.bin .add (.t 36) (.t 37))⟩, ⟨(some 5), none, (.mv (.t 38))⟩]) (.reg [⟨(some 39), none, (.mv (.t 9))⟩, ⟨(some 0), none, (.mv (.t 39))⟩]))))))) (.reg [⟨(some 13), none, (.mv (.t 6))⟩, ⟨(some 14), none, (.bin .add (.t 13) (.c (.int .i64 1)))⟩, ⟨(some 6), none, (.mv (.t 14))⟩])))))) (.seq (.reg [⟨(some 40), none, (.mv (.t 5))⟩, ⟨(some 4), none, (.mv (.t 40))⟩]) .ret))))
def ro68 : List AOp := [(.mv (.t 4))]
theorem fun68 : Fun Try.prog 68 41 ac68 ro68 := ⟨Try.f68, _, Try.func68, by kernel_rfl, rfl, rfl, by kernel_rfl, by kernel_rfl, by decide⟩
def ac71 : AC := (.seq (.reg [⟨(some 4), none, (.mv (.c (.int .u64 0)))⟩, ⟨(some 5), none, (.mv (.c (.int .u64 0)))⟩]) (.seq (.reg [⟨(some 14), none, (.mv (.t 0))⟩, ⟨(some 15), none, (.bin .and (.t 14) (.c (.int .u64 4294967295)))⟩, ⟨(some 6), none, (.mv (.t 15))⟩]) (.seq (.reg [⟨(some 16), none, (.mv (.t 0))⟩, ⟨(some 17), none, (.bin .shr (.t 16) (.c (.int .u64 32)))⟩, ⟨(some 7), none, (.mv (.t 17))⟩]) (.seq (.reg [⟨(some 18), none, (.mv (.t 1))⟩, ⟨(some 19), none, (.bin .and (.t 18) (.c (.int .u64 4294967295)))⟩, ⟨(some 8), none, (.mv (.t 19))⟩]) (.seq (.reg [⟨(some 20), none, (.mv (.t 1))⟩, ⟨(some 21), none, (.bin .shr (.t 20) (.c (.int .u64 32)))⟩, ⟨(some 9), none, (.mv (.t 21))⟩]) (.seq (.reg [⟨(some 22), none, (.mv (.t 6))⟩, ⟨(some 23), none, (.mv (.t 8))⟩, ⟨(some 24), none, (.bin .mul (.t 22) (.t 23))⟩, ⟨(some 10), none, (.mv (.t 24))⟩]) (.seq (.reg [⟨(some 25), none, (.mv (.t 7))⟩, ⟨(some 26), none, (.mv (.t 8))⟩, ⟨(some 27), none, (.bin .mul (.t 25) (.t 26))⟩, ⟨(some 28), none, (.mv (.t 10))⟩, ⟨(some 29), none, (.bin .shr (.t 28) (.c (.int .u64 32)))⟩, ⟨(some 30), none, (.bin .add (.t 27) (.t 29))⟩, ⟨(some 11), none, (.mv (.t 30))⟩]) (.seq (.reg [⟨(some 31), none, (.mv (.t 11))⟩, ⟨(some 32), none, (.bin .and (.t 31) (.c (.int .u64 4294967295)))⟩, ⟨(some 12), none, (.mv (.t 32))⟩]) (.seq (.reg [⟨(some 33), none, (.mv (.t 11))⟩, ⟨(some 34), none, (.bin .shr (.t 33) (.c (.int .u64 32)))⟩, ⟨(some 13), none, (.mv (.t 34))⟩]) (.seq (.reg [⟨(some 35), none, (.mv (.t 12))⟩, ⟨(some 36), none, (.mv (.t 6))⟩, ⟨(some 37), none, (.mv (.t 9))⟩, ⟨(some 38), none, (.bin .mul (.t 36) (.t 37))⟩, ⟨(some 39), none, (.bin .add (.t 35) (.t 38))⟩, ⟨(some 12), none, (.mv (.t 39))⟩]) (.seq (.reg [⟨(some 40), none, (.mv (.t 7))⟩, ⟨(some 41), none, (.mv (.t 9))⟩, ⟨(some 42), none, (.bin .mul (.t 40) (.t 41))⟩, ⟨(some 43), none, (.mv (.t 13))⟩, ⟨(some 44), none, (.bin .add (.t 42) (.t 43))⟩, ⟨(some 45), none, (.mv (.t 12))⟩, ⟨(some 46), none, (.bin .shr (.t 45) (.c (.int .u64 32)))⟩, ⟨(some 47), none, (.bin .add (.t 44) (.t 46))⟩, ⟨(some 4), none, (.mv (.t 47))⟩]) (.seq (.reg [⟨(some 48), none, (.mv (.t 0))⟩, ⟨(some 49), none, (.mv (.t 1))⟩, ⟨(some 50), none, (.bin .mul (.t 48) (.t 49))⟩, ⟨(some 5), none, (.mv (.t 50))⟩]) .ret))))))))))))
def ro71 : List AOp := [(.mv (.t 4)), (.mv (.t 5))]
theorem fun71 : Fun Try.prog 71 51 ac71 ro71 := ⟨Try.f71, _, Try.func71, by kernel_rfl, rfl, rfl, by kernel_rfl, by kernel_rfl, by decide⟩

theorem con71 (a : Nat) (ha : a < 18446744073709551616) : Con Try.prog 71 true [.int .u64 (a : Int), .int .u64 ((1000 : Nat) : Int)] (.tup [.int .u64 ((a * 1000 / 18446744073709551616 : Nat) : Int), .int .u64 ((a * 1000 % 18446744073709551616 : Nat) : Int)]) [] := by
  refine con_of_wp mixed fun71 (by simp) [] plain_nil ?_
  unfold ac71 ro71
  simp only [zipT]
  repeat (first | refine wG_pure (u_mask rfl rfl (by omega)) ?_ | refine wG_pure (u_shr (n := 32) rfl rfl (by omega)) ?_ | refine wG_pure (u_mul rfl rfl (by omega)) ?_ | refine wG_pure (u_add rfl rfl (by omega)) ?_ | refine wG_pure (u_mulw rfl rfl) ?_ | (first
    | refine wC_a rfl ?_
    | refine q_s rfl ?_
    | refine q_b rfl ?_
    | refine wG_nil ?_
    | refine wG_g rfl ?_
    | refine wG_pure (o_len_vwm rfl) ?_
    | refine wG_pure (o_not_d rfl) ?_
    | refine wG_p rfl (by first | exact rfl | omega) ?_
    | refine wG_pure (o_str2 rfl rfl rfl) ?_
    | refine wG_pure (e_istr rfl rfl (by omega)) ?_
    | refine wG_pure (e_istr0 rfl rfl (by omega)) ?_
    | refine wG_pure (o_not rfl) ?_
    | refine wG_pure (e_ia_vw0 rfl rfl (by omega) rfl) ?_
    | refine wG_pure (e_ia_vwp rfl rfl (by omega) rfl) ?_
    | refine wG_pure (e_ia_vwm rfl rfl (by omega) (by omega) rfl) ?_
    | refine wG_pure (e_ia_vwi rfl rfl (by omega) rfl) ?_
    | refine wG_pure (e_ia_vwn rfl rfl (by omega) (by omega) rfl) ?_
    | refine wG_n rfl rfl ?_
    | refine wG_u rfl rfl ?_
    | refine wG_new (o_mks rfl rfl (by omega) (by decide)) ?_))
  refine ret_gen (.inr rfl) (retVs_2 (retV_mv rfl) (retV_mv rfl)) ?_ (by simp [notOne]) rfl rfl List.nodup_nil (fun i rows h => by simp at h)
  have e1 : a / 2 ^ 32 * (1000 / 2 ^ 32) + (a / 2 ^ 32 * (1000 % 4294967296) + a % 4294967296 * (1000 % 4294967296) / 2 ^ 32) / 2 ^ 32 + ((a / 2 ^ 32 * (1000 % 4294967296) + a % 4294967296 * (1000 % 4294967296) / 2 ^ 32) % 4294967296 + a % 4294967296 * (1000 / 2 ^ 32)) / 2 ^ 32 = a * 1000 / 18446744073709551616 := by omega
  have e2 : IntKind.u64.wrap ((a : Int) * ((1000 : Nat) : Int)) = ((a * 1000 % 18446744073709551616 : Nat) : Int) := by rw [IntKind.wrap_u64]; omega
  show [AV.int .u64 ((a / 2 ^ 32 * (1000 / 2 ^ 32) + (a / 2 ^ 32 * (1000 % 4294967296) + a % 4294967296 * (1000 % 4294967296) / 2 ^ 32) / 2 ^ 32 + ((a / 2 ^ 32 * (1000 % 4294967296) + a % 4294967296 * (1000 % 4294967296) / 2 ^ 32) % 4294967296 + a % 4294967296 * (1000 / 2 ^ 32)) / 2 ^ 32 : Nat) : Int), AV.int .u64 (IntKind.u64.wrap ((a : Int) * ((1000 : Nat) : Int)))] = [AV.int .u64 ((a * 1000 / 18446744073709551616 : Nat) : Int), AV.int .u64 ((a * 1000 % 18446744073709551616 : Nat) : Int)]
  rw [e1, e2]
theorem inn {c t : Int} (h0 : 0 ≤ c) (h1 : c ≤ t) (ht : 0 < t) (i : Nat) : 0 ≤ (i : Int) * c % t ∧ (i : Int) * c % t < t ∧ 0 ≤ (i : Int) * c / t ∧ (i : Int) * c / t ≤ i ∧
    (((i : Int) * c % t ≥ t - c → ((i + 1 : Nat) : Int) * c / t = (i : Int) * c / t + 1 ∧ ((i + 1 : Nat) : Int) * c % t = (i : Int) * c % t - (t - c)) ∧
     (¬ (i : Int) * c % t ≥ t - c → ((i + 1 : Nat) : Int) * c / t = (i : Int) * c / t ∧ ((i + 1 : Nat) : Int) * c % t = (i : Int) * c % t + c)) := by
  have e3 : ((i + 1 : Nat) : Int) * c = (i : Int) * c + c := by rw [Int.natCast_add, Int.add_mul]; simp
  have hm := Int.emod_nonneg ((i : Int) * c) (show t ≠ 0 by omega)
  have hl := Int.emod_lt_of_pos ((i : Int) * c) ht
  have hx : 0 ≤ (i : Int) * c := Int.mul_nonneg (by omega) h0
  have hx2 : (i : Int) * c ≤ i * t := Int.mul_le_mul_of_nonneg_left h1 (by omega)
  have hd := Int.ediv_nonneg hx (by omega : (0 : Int) ≤ t)
  have hd2 : (i : Int) * c / t ≤ i := Int.ediv_le_of_le_mul ht hx2
  have hs := Int.mul_ediv_add_emod ((i : Int) * c) t
  rw [e3]
  generalize (i : Int) * c = x at *
  refine ⟨hm, hl, hd, hd2, fun h => ?_, fun h => ?_⟩
  · have e : t * (x / t + 1) = t * (x / t) + t := by rw [Int.mul_add, Int.mul_one]
    exact (Int.ediv_emod_unique ht).2 ⟨by omega, by omega, by omega⟩
  · exact (Int.ediv_emod_unique ht).2 ⟨by omega, by omega, by omega⟩
def thD (p t : Int) : Nat → Int × Int
  | 0 => (0, p)
  | j + 1 => (10 * (thD p t j).1 + 10 * (thD p t j).2 / t, 10 * (thD p t j).2 % t)
theorem thD_b {p t : Int} (h0 : 0 ≤ p) (h1 : p ≤ t) (ht : 0 < t) : ∀ j, 0 ≤ (thD p t j).2 ∧ (thD p t j).2 ≤ t
  | 0 => ⟨h0, h1⟩
  | j + 1 => ⟨Int.emod_nonneg _ (by omega), Int.le_of_lt (Int.emod_lt_of_pos _ ht)⟩
theorem thD_d {p t : Int} (h0 : 0 ≤ p) (h1 : p ≤ t) (ht : 0 < t) (j : Nat) : 0 ≤ 10 * (thD p t j).2 / t ∧ 10 * (thD p t j).2 / t ≤ 10 := by
  obtain ⟨a, b⟩ := thD_b h0 h1 ht j
  exact ⟨Int.ediv_nonneg (by omega) (by omega), Int.ediv_le_of_le_mul ht (by omega)⟩
theorem thD_3 {p t : Int} (h0 : 0 ≤ p) (h1 : p ≤ t) (ht : 0 < t) : (thD p t 3).1 = 1000 * p / t := by
  have a1 := Int.mul_ediv_add_emod (10 * p) t
  have a2 := Int.mul_ediv_add_emod (10 * (10 * p % t)) t
  have a3 := Int.mul_ediv_add_emod (10 * (10 * (10 * p % t) % t)) t
  have b3 := Int.emod_nonneg (10 * (10 * (10 * p % t) % t)) (show t ≠ 0 by omega)
  have c3 := Int.emod_lt_of_pos (10 * (10 * (10 * p % t) % t)) ht
  show 10 * (10 * (10 * 0 + 10 * p / t) + 10 * (10 * p % t) / t) + 10 * (10 * (10 * p % t) % t) / t = _
  refine ((Int.ediv_emod_unique (r := 10 * (10 * (10 * p % t) % t) % t) ht).2 ⟨?_, b3, c3⟩).1.symm
  generalize 10 * (10 * (10 * p % t) % t) % t = r3 at *
  generalize 10 * (10 * (10 * p % t) % t) / t = q3 at *
  generalize 10 * (10 * p % t) % t = r2 at *
  generalize 10 * (10 * p % t) / t = q2 at *
  generalize 10 * p % t = r1 at *
  generalize 10 * p / t = q1 at *
  have e : t * (10 * (10 * (10 * 0 + q1) + q2) + q3) = 100 * (t * q1) + 10 * (t * q2) + t * q3 := by
    rw [show 10 * (10 * (10 * 0 + q1) + q2) + q3 = 100 * q1 + 10 * q2 + q3 by omega, Int.mul_add, Int.mul_add, Int.mul_left_comm t 100 q1, Int.mul_left_comm t 10 q2]
  rw [e]
  omega
theorem con68 (p t : Int) (h0 : 0 ≤ p) (h1 : p ≤ t) (ht : 0 < t) (hb : t ≤ 9223372036854775807) : Con Try.prog 68 true [.int .i64 p, .int .i64 t] (.int .i64 (1000 * p / t)) [] := by
  refine con_of_wp mixed fun68 (by simp) [] plain_nil ?_
  unfold ac68 ro68
  simp only [zipT]
  have hdb : ∀ j, j ≤ 3 → 0 ≤ (thD p t j).1 ∧ (thD p t j).1 ≤ 20000 := by
    have d0 := thD_d h0 h1 ht 0
    have d1 := thD_d h0 h1 ht 1
    have d2 := thD_d h0 h1 ht 2
    have f0 : (thD p t 0).1 = 0 := rfl
    have f1 : (thD p t 1).1 = 10 * (thD p t 0).1 + 10 * (thD p t 0).2 / t := rfl
    have f2 : (thD p t 2).1 = 10 * (thD p t 1).1 + 10 * (thD p t 1).2 / t := rfl
    have f3 : (thD p t 3).1 = 10 * (thD p t 2).1 + 10 * (thD p t 2).2 / t := rfl
    intro j hj
    have : j = 0 ∨ j = 1 ∨ j = 2 ∨ j = 3 := by omega
    rcases this with rfl | rfl | rfl | rfl <;> omega
  repeat (first
    | refine wC_a rfl ?_
    | refine q_s rfl ?_
    | refine q_b rfl ?_
    | refine wG_nil ?_
    | refine wG_g rfl ?_
    | refine wG_pure (o_len_vwm rfl) ?_
    | refine wG_pure (o_not_d rfl) ?_
    | refine wG_p rfl (by first | exact rfl | omega) ?_
    | refine wG_pure (o_str2 rfl rfl rfl) ?_
    | refine wG_pure (e_istr rfl rfl (by omega)) ?_
    | refine wG_pure (e_istr0 rfl rfl (by omega)) ?_
    | refine wG_pure (o_not rfl) ?_
    | refine wG_pure (e_ia_vw0 rfl rfl (by omega) rfl) ?_
    | refine wG_pure (e_ia_vwp rfl rfl (by omega) rfl) ?_
    | refine wG_pure (e_ia_vwm rfl rfl (by omega) (by omega) rfl) ?_
    | refine wG_pure (e_ia_vwi rfl rfl (by omega) rfl) ?_
    | refine wG_pure (e_ia_vwn rfl rfl (by omega) (by omega) rfl) ?_
    | refine wG_n rfl rfl ?_
    | refine wG_u rfl rfl ?_
    | refine wG_new (o_mks rfl rfl (by omega) (by decide)) ?_)
  refine wC_loop Nat (fun j => ⟨[(0, .int .i64 (thD p t j).2), (1, .int .i64 t), (5, .int .i64 (thD p t j).1), (6, .int .i64 (j : Int))], [], 0⟩) (fun j => j ≤ 3) (fun j => 3 - j) 0 (Nat.zero_le _) ?_ (fun _ _ => Nat.zero_le _) ?_
  · exact ⟨⟨⟨rfl, rfl⟩, ⟨rfl, rfl⟩, ⟨rfl, rfl⟩, ⟨rfl, rfl⟩, trivial⟩, trivial⟩
  intro j hj
  obtain ⟨i1, i2⟩ := hdb j hj
  obtain ⟨i3, i4⟩ := thD_b h0 h1 ht j
  obtain ⟨i5, i6⟩ := thD_d h0 h1 ht j
  have hn : thD p t (j + 1) = (10 * (thD p t j).1 + 10 * (thD p t j).2 / t, 10 * (thD p t j).2 % t) := rfl
  have hfin : j = 3 → (thD p t j).1 = 1000 * p / t := fun h => by subst h; exact thD_3 h0 h1 ht
  generalize (thD p t j).1 = d at *
  generalize (thD p t j).2 = c at *
  repeat (first
    | refine wC_a rfl ?_
    | refine q_s rfl ?_
    | refine q_b rfl ?_
    | refine wG_nil ?_
    | refine wG_g rfl ?_
    | refine wG_pure (o_len_vwm rfl) ?_
    | refine wG_pure (o_not_d rfl) ?_
    | refine wG_p rfl (by first | exact rfl | omega) ?_
    | refine wG_pure (o_str2 rfl rfl rfl) ?_
    | refine wG_pure (e_istr rfl rfl (by omega)) ?_
    | refine wG_pure (e_istr0 rfl rfl (by omega)) ?_
    | refine wG_pure (o_not rfl) ?_
    | refine wG_pure (e_ia_vw0 rfl rfl (by omega) rfl) ?_
    | refine wG_pure (e_ia_vwp rfl rfl (by omega) rfl) ?_
    | refine wG_pure (e_ia_vwm rfl rfl (by omega) (by omega) rfl) ?_
    | refine wG_pure (e_ia_vwi rfl rfl (by omega) rfl) ?_
    | refine wG_pure (e_ia_vwn rfl rfl (by omega) (by omega) rfl) ?_
    | refine wG_n rfl rfl ?_
    | refine wG_u rfl rfl ?_
    | refine wG_new (o_mks rfl rfl (by omega) (by decide)) ?_)
  refine wC_cond_d rfl (fun h2 => ?_) (fun h2 => ?_)
  · repeat (first
    | refine wC_a rfl ?_
    | refine q_s rfl ?_
    | refine q_b rfl ?_
    | refine wG_nil ?_
    | refine wG_g rfl ?_
    | refine wG_pure (o_len_vwm rfl) ?_
    | refine wG_pure (o_not_d rfl) ?_
    | refine wG_p rfl (by first | exact rfl | omega) ?_
    | refine wG_pure (o_str2 rfl rfl rfl) ?_
    | refine wG_pure (e_istr rfl rfl (by omega)) ?_
    | refine wG_pure (e_istr0 rfl rfl (by omega)) ?_
    | refine wG_pure (o_not rfl) ?_
    | refine wG_pure (e_ia_vw0 rfl rfl (by omega) rfl) ?_
    | refine wG_pure (e_ia_vwp rfl rfl (by omega) rfl) ?_
    | refine wG_pure (e_ia_vwm rfl rfl (by omega) (by omega) rfl) ?_
    | refine wG_pure (e_ia_vwi rfl rfl (by omega) rfl) ?_
    | refine wG_pure (e_ia_vwn rfl rfl (by omega) (by omega) rfl) ?_
    | refine wG_n rfl rfl ?_
    | refine wG_u rfl rfl ?_
    | refine wG_new (o_mks rfl rfl (by omega) (by decide)) ?_)
    refine wC_loop Nat (fun i => ⟨[(0, .int .i64 c), (1, .int .i64 t), (5, .int .i64 d), (6, .int .i64 (j : Int)), (7, .int .i64 ((i : Int) * c / t)), (8, .int .i64 c), (9, .int .i64 ((i : Int) * c % t)), (10, .int .i64 (i : Int))], [], 0⟩) (fun i => i ≤ 10) (fun i => 10 - i) 0 (Nat.zero_le _) ?_ (fun _ _ => Nat.zero_le _) ?_
    · refine ⟨⟨⟨rfl, rfl⟩, ⟨rfl, rfl⟩, ⟨rfl, rfl⟩, ⟨rfl, rfl⟩, ⟨?_, rfl⟩, ⟨rfl, rfl⟩, ⟨?_, rfl⟩, ⟨rfl, rfl⟩, trivial⟩, trivial⟩
      · show AV.int _ _ = AV.int _ _
        congr 1; simp
      · show AV.int _ _ = AV.int _ _
        congr 1; simp
    intro i hi
    obtain ⟨k1, k2, k3, k4, k5, k6⟩ := inn i3 i4 ht i
    have hten : i = 10 → ((i : Int) * c / t = 10 * c / t ∧ (i : Int) * c % t = 10 * c % t) := fun h => by subst h; exact ⟨rfl, rfl⟩
    generalize hq' : ((i + 1 : Nat) : Int) * c / t = q' at *
    generalize hs' : ((i + 1 : Nat) : Int) * c % t = s' at *
    generalize (i : Int) * c / t = q at *
    generalize (i : Int) * c % t = s at *
    repeat (first
    | refine wC_a rfl ?_
    | refine q_s rfl ?_
    | refine q_b rfl ?_
    | refine wG_nil ?_
    | refine wG_g rfl ?_
    | refine wG_pure (o_len_vwm rfl) ?_
    | refine wG_pure (o_not_d rfl) ?_
    | refine wG_p rfl (by first | exact rfl | omega) ?_
    | refine wG_pure (o_str2 rfl rfl rfl) ?_
    | refine wG_pure (e_istr rfl rfl (by omega)) ?_
    | refine wG_pure (e_istr0 rfl rfl (by omega)) ?_
    | refine wG_pure (o_not rfl) ?_
    | refine wG_pure (e_ia_vw0 rfl rfl (by omega) rfl) ?_
    | refine wG_pure (e_ia_vwp rfl rfl (by omega) rfl) ?_
    | refine wG_pure (e_ia_vwm rfl rfl (by omega) (by omega) rfl) ?_
    | refine wG_pure (e_ia_vwi rfl rfl (by omega) rfl) ?_
    | refine wG_pure (e_ia_vwn rfl rfl (by omega) (by omega) rfl) ?_
    | refine wG_n rfl rfl ?_
    | refine wG_u rfl rfl ?_
    | refine wG_new (o_mks rfl rfl (by omega) (by decide)) ?_)
    refine wC_cond_d rfl (fun h3 => ?_) (fun h3 => ?_)
    · repeat (first
    | refine wC_a rfl ?_
    | refine q_s rfl ?_
    | refine q_b rfl ?_
    | refine wG_nil ?_
    | refine wG_g rfl ?_
    | refine wG_pure (o_len_vwm rfl) ?_
    | refine wG_pure (o_not_d rfl) ?_
    | refine wG_p rfl (by first | exact rfl | omega) ?_
    | refine wG_pure (o_str2 rfl rfl rfl) ?_
    | refine wG_pure (e_istr rfl rfl (by omega)) ?_
    | refine wG_pure (e_istr0 rfl rfl (by omega)) ?_
    | refine wG_pure (o_not rfl) ?_
    | refine wG_pure (e_ia_vw0 rfl rfl (by omega) rfl) ?_
    | refine wG_pure (e_ia_vwp rfl rfl (by omega) rfl) ?_
    | refine wG_pure (e_ia_vwm rfl rfl (by omega) (by omega) rfl) ?_
    | refine wG_pure (e_ia_vwi rfl rfl (by omega) rfl) ?_
    | refine wG_pure (e_ia_vwn rfl rfl (by omega) (by omega) rfl) ?_
    | refine wG_n rfl rfl ?_
    | refine wG_u rfl rfl ?_
    | refine wG_new (o_mks rfl rfl (by omega) (by decide)) ?_)
      refine wC_cond_d rfl (fun h4 => ?_) (fun h4 => ?_)
      · obtain ⟨m1, m2⟩ := k5 h4
        repeat (first
    | refine wC_a rfl ?_
    | refine q_s rfl ?_
    | refine q_b rfl ?_
    | refine wG_nil ?_
    | refine wG_g rfl ?_
    | refine wG_pure (o_len_vwm rfl) ?_
    | refine wG_pure (o_not_d rfl) ?_
    | refine wG_p rfl (by first | exact rfl | omega) ?_
    | refine wG_pure (o_str2 rfl rfl rfl) ?_
    | refine wG_pure (e_istr rfl rfl (by omega)) ?_
    | refine wG_pure (e_istr0 rfl rfl (by omega)) ?_
    | refine wG_pure (o_not rfl) ?_
    | refine wG_pure (e_ia_vw0 rfl rfl (by omega) rfl) ?_
    | refine wG_pure (e_ia_vwp rfl rfl (by omega) rfl) ?_
    | refine wG_pure (e_ia_vwm rfl rfl (by omega) (by omega) rfl) ?_
    | refine wG_pure (e_ia_vwi rfl rfl (by omega) rfl) ?_
    | refine wG_pure (e_ia_vwn rfl rfl (by omega) (by omega) rfl) ?_
    | refine wG_n rfl rfl ?_
    | refine wG_u rfl rfl ?_
    | refine wG_new (o_mks rfl rfl (by omega) (by decide)) ?_)
        refine ⟨i + 1, by omega, by omega, ⟨⟨rfl, rfl⟩, ⟨rfl, rfl⟩, ⟨rfl, rfl⟩, ⟨rfl, rfl⟩, ⟨?_, rfl⟩, ⟨rfl, rfl⟩, ⟨?_, rfl⟩, ⟨rfl, rfl⟩, trivial⟩, trivial⟩
        · show AV.int _ (q + 1) = AV.int _ (((i + 1 : Nat) : Int) * c / t)
          rw [hq', m1]
        · show AV.int _ (s - (t - c)) = AV.int _ (((i + 1 : Nat) : Int) * c % t)
          rw [hs', m2]
      · obtain ⟨m1, m2⟩ := k6 h4
        repeat (first
    | refine wC_a rfl ?_
    | refine q_s rfl ?_
    | refine q_b rfl ?_
    | refine wG_nil ?_
    | refine wG_g rfl ?_
    | refine wG_pure (o_len_vwm rfl) ?_
    | refine wG_pure (o_not_d rfl) ?_
    | refine wG_p rfl (by first | exact rfl | omega) ?_
    | refine wG_pure (o_str2 rfl rfl rfl) ?_
    | refine wG_pure (e_istr rfl rfl (by omega)) ?_
    | refine wG_pure (e_istr0 rfl rfl (by omega)) ?_
    | refine wG_pure (o_not rfl) ?_
    | refine wG_pure (e_ia_vw0 rfl rfl (by omega) rfl) ?_
    | refine wG_pure (e_ia_vwp rfl rfl (by omega) rfl) ?_
    | refine wG_pure (e_ia_vwm rfl rfl (by omega) (by omega) rfl) ?_
    | refine wG_pure (e_ia_vwi rfl rfl (by omega) rfl) ?_
    | refine wG_pure (e_ia_vwn rfl rfl (by omega) (by omega) rfl) ?_
    | refine wG_n rfl rfl ?_
    | refine wG_u rfl rfl ?_
    | refine wG_new (o_mks rfl rfl (by omega) (by decide)) ?_)
        refine ⟨i + 1, by omega, by omega, ⟨⟨rfl, rfl⟩, ⟨rfl, rfl⟩, ⟨rfl, rfl⟩, ⟨rfl, rfl⟩, ⟨?_, rfl⟩, ⟨rfl, rfl⟩, ⟨?_, rfl⟩, ⟨rfl, rfl⟩, trivial⟩, trivial⟩
        · show AV.int _ q = AV.int _ (((i + 1 : Nat) : Int) * c / t)
          rw [hq', m1]
        · show AV.int _ (s + c) = AV.int _ (((i + 1 : Nat) : Int) * c % t)
          rw [hs', m2]
    · obtain ⟨g1, g2⟩ := hten (by omega)
      repeat (first
    | refine wC_a rfl ?_
    | refine q_s rfl ?_
    | refine q_b rfl ?_
    | refine wG_nil ?_
    | refine wG_g rfl ?_
    | refine wG_pure (o_len_vwm rfl) ?_
    | refine wG_pure (o_not_d rfl) ?_
    | refine wG_p rfl (by first | exact rfl | omega) ?_
    | refine wG_pure (o_str2 rfl rfl rfl) ?_
    | refine wG_pure (e_istr rfl rfl (by omega)) ?_
    | refine wG_pure (e_istr0 rfl rfl (by omega)) ?_
    | refine wG_pure (o_not rfl) ?_
    | refine wG_pure (e_ia_vw0 rfl rfl (by omega) rfl) ?_
    | refine wG_pure (e_ia_vwp rfl rfl (by omega) rfl) ?_
    | refine wG_pure (e_ia_vwm rfl rfl (by omega) (by omega) rfl) ?_
    | refine wG_pure (e_ia_vwi rfl rfl (by omega) rfl) ?_
    | refine wG_pure (e_ia_vwn rfl rfl (by omega) (by omega) rfl) ?_
    | refine wG_n rfl rfl ?_
    | refine wG_u rfl rfl ?_
    | refine wG_new (o_mks rfl rfl (by omega) (by decide)) ?_)
      refine ⟨j + 1, by omega, by omega, ⟨⟨?_, rfl⟩, ⟨rfl, rfl⟩, ⟨?_, rfl⟩, ⟨rfl, rfl⟩, trivial⟩, trivial⟩
      · show AV.int _ s = AV.int _ (thD p t (j + 1)).2
        rw [hn, g2]
      · show AV.int _ (10 * d + q) = AV.int _ (thD p t (j + 1)).1
        rw [hn, g1]
  · have hj3 := hfin (by omega)
    repeat (first
    | refine wC_a rfl ?_
    | refine q_s rfl ?_
    | refine q_b rfl ?_
    | refine wG_nil ?_
    | refine wG_g rfl ?_
    | refine wG_pure (o_len_vwm rfl) ?_
    | refine wG_pure (o_not_d rfl) ?_
    | refine wG_p rfl (by first | exact rfl | omega) ?_
    | refine wG_pure (o_str2 rfl rfl rfl) ?_
    | refine wG_pure (e_istr rfl rfl (by omega)) ?_
    | refine wG_pure (e_istr0 rfl rfl (by omega)) ?_
    | refine wG_pure (o_not rfl) ?_
    | refine wG_pure (e_ia_vw0 rfl rfl (by omega) rfl) ?_
    | refine wG_pure (e_ia_vwp rfl rfl (by omega) rfl) ?_
    | refine wG_pure (e_ia_vwm rfl rfl (by omega) (by omega) rfl) ?_
    | refine wG_pure (e_ia_vwi rfl rfl (by omega) rfl) ?_
    | refine wG_pure (e_ia_vwn rfl rfl (by omega) (by omega) rfl) ?_
    | refine wG_n rfl rfl ?_
    | refine wG_u rfl rfl ?_
    | refine wG_new (o_mks rfl rfl (by omega) (by decide)) ?_)
    exact ret_intE (.inr rfl) ⟨_, retV_mv rfl, hj3⟩
end Go.Proofs.Ytnohaclnpbpjbaa.Und
namespace Go.Proofs.Ytnohaclnpbpjbaa.Und
open Go Go.Proofs.Ytnohaclnpbpjbaa.Ab Go.Proofs.Ytnohaclnpbpjbaa.Il
attribute [local irreducible] wpO wpC wpDr wpQ wpG wpE stepA seqQ blkQ Ret ev
set_option maxRecDepth 10000
set_option maxHeartbeats 8000000
set_option linter.unusedSimpArgs false
set_option linter.unusedVariables false

def ac97 : AC := (.seq (.reg [⟨(some 2), none, (.mv (.c (.int .i64 0)))⟩]) (.seq (.reg [⟨(some 3), none, (.mv (.t 0))⟩, ⟨(some 4), none, (.call 104 [(.t 3)])⟩, ⟨(some 5), none, (.bin .sub (.c (.int .i64 64)) (.t 4))⟩, ⟨(some 2), none, (.mv (.t 5))⟩]) .ret))
def ro97 : List AOp := [(.mv (.t 2))]
theorem fun97 : Fun Try.prog 97 6 ac97 ro97 := ⟨Try.f97, _, Try.func97, by kernel_rfl, rfl, rfl, by kernel_rfl, by kernel_rfl, by decide⟩
def ac104 : AC := (.seq (.reg [⟨(some 2), none, (.mv (.c (.int .i64 0)))⟩]) (.seq (.seq (.reg [⟨(some 3), none, (.mv (.t 0))⟩, ⟨(some 4), none, (.bin .geq (.t 3) (.c (.int .u64 4294967296)))⟩]) (.cond (.t 4) (.seq (.reg [⟨(some 5), none, (.mv (.t 0))⟩, ⟨(some 6), none, (.bin .shr (.t 5) (.c (.int .u64 32)))⟩, ⟨(some 0), none, (.mv (.t 6))⟩]) (.reg [⟨(some 2), none, (.mv (.c (.int .i64 32)))⟩])) .skip)) (.seq (.seq (.reg [⟨(some 7), none, (.mv (.t 0))⟩, ⟨(some 8), none, (.bin .geq (.t 7) (.c (.int .u64 65536)))⟩]) (.cond (.t 8) (.seq (.reg [⟨(some 9), none, (.mv (.t 0))⟩, ⟨(some 10), none, (.bin .shr (.t 9) (.c (.int .u64 16)))⟩, ⟨(some 0), none, (.mv (.t 10))⟩]) (.reg [⟨(some 11), none, (.mv (.t 2))⟩, ⟨(some 12), none, (.bin .add (.t 11) (.c (.int .i64 16)))⟩, ⟨(some 2), none, (.mv (.t 12))⟩])) .skip)) (.seq (.seq (.reg [⟨(some 13), none, (.mv (.t 0))⟩, ⟨(some 14), none, (.bin .geq (.t 13) (.c (.int .u64 256)))⟩]) (.cond (.t 14) (.seq (.reg [⟨(some 15), none, (.mv (.t 0))⟩, ⟨(some 16), none, (.bin .shr (.t 15) (.c (.int .u64 8)))⟩, ⟨(some 0), none, (.mv (.t 16))⟩]) (.reg [⟨(some 17), none, (.mv (.t 2))⟩, ⟨(some 18), none, (.bin .add (.t 17) (.c (.int .i64 8)))⟩, ⟨(some 2), none, (.mv (.t 18))⟩])) .skip)) (.seq (.reg [⟨(some 19), none, (.mv (.t 2))⟩, ⟨(some 20), none, (.mv (.t 0))⟩, ⟨(some 21), none, (.cv .u8 (.t 20))⟩, ⟨(some 22), none, (.istr (.c (.str ⟨#[0, 1, 2, 2, 3, 3, 3, 3, 4, 4, 4, 4, 4, 4, 4, 4, 5, 5, 5, 5, 5, 5, 5, 5, 5, 5, 5, 5, 5, 5, 5, 5, 6, 6, 6, 6, 6, 6, 6, 6, 6, 6, 6, 6, 6, 6, 6, 6, 6, 6, 6, 6, 6, 6, 6, 6, 6, 6, 6, 6, 6, 6, 6, 6, 7, 7, 7, 7, 7, 7, 7, 7, 7, 7, 7, 7, 7, 7, 7, 7, 7, 7, 7, 7, 7, 7, 7, 7, 7, 7, 7, 7, 7, 7, 7, 7, 7, 7, 7, 7, 7, 7, 7, 7, 7, 7, 7, 7, 7, 7, 7, 7, 7, 7, 7, 7, 7, 7, 7, 7, 7, 7, 7, 7, 7, 7, 7, 7, 8, 8, 8, 8, 8, 8, 8, 8, 8, 8, 8, 8, 8, 8, 8, 8, 8, 8, 8, 8, 8, 8, 8, 8, 8, 8, 8, 8, 8, 8, 8, 8, 8, 8, 8, 8, 8, 8, 8, 8, 8, 8, 8, 8, 8, 8, 8, 8, 8, 8, 8, 8, 8, 8, 8, 8, 8, 8, 8, 8, 8, 8, 8, 8, 8, 8, 8, 8, 8, 8, 8, 8, 8, 8, 8, 8, 8, 8, 8, 8, 8, 8, 8, 8, 8, 8, 8, 8, 8, 8, 8, 8, 8, 8, 8, 8, 8, 8, 8, 8, 8, 8, 8, 8, 8, 8, 8, 8, 8, 8, 8, 8, 8, 8, 8, 8, 8, 8, 8, 8, 8, 8, 8, 8, 8, 8, 8, 8]⟩)) (.t 21))⟩, ⟨(some 23), none, (.cv .i64 (.t 22))⟩, ⟨(some 24), none, (.bin .add (.t 19) (.t 23))⟩, ⟨(some 2), none, (.mv (.t 24))⟩]) .ret)))))
def ro104 : List AOp := [(.mv (.t 2))]
theorem fun104 : Fun Try.prog 104 25 ac104 ro104 := ⟨Try.f104, _, Try.func104, by kernel_rfl, rfl, rfl, by kernel_rfl, by kernel_rfl, by decide⟩

def lenT : ByteArray := ⟨#[0, 1, 2, 2, 3, 3, 3, 3, 4, 4, 4, 4, 4, 4, 4, 4, 5, 5, 5, 5, 5, 5, 5, 5, 5, 5, 5, 5, 5, 5, 5, 5, 6, 6, 6, 6, 6, 6, 6, 6, 6, 6, 6, 6, 6, 6, 6, 6, 6, 6, 6, 6, 6, 6, 6, 6, 6, 6, 6, 6, 6, 6, 6, 6, 7, 7, 7, 7, 7, 7, 7, 7, 7, 7, 7, 7, 7, 7, 7, 7, 7, 7, 7, 7, 7, 7, 7, 7, 7, 7, 7, 7, 7, 7, 7, 7, 7, 7, 7, 7, 7, 7, 7, 7, 7, 7, 7, 7, 7, 7, 7, 7, 7, 7, 7, 7, 7, 7, 7, 7, 7, 7, 7, 7, 7, 7, 7, 7, 8, 8, 8, 8, 8, 8, 8, 8, 8, 8, 8, 8, 8, 8, 8, 8, 8, 8, 8, 8, 8, 8, 8, 8, 8, 8, 8, 8, 8, 8, 8, 8, 8, 8, 8, 8, 8, 8, 8, 8, 8, 8, 8, 8, 8, 8, 8, 8, 8, 8, 8, 8, 8, 8, 8, 8, 8, 8, 8, 8, 8, 8, 8, 8, 8, 8, 8, 8, 8, 8, 8, 8, 8, 8, 8, 8, 8, 8, 8, 8, 8, 8, 8, 8, 8, 8, 8, 8, 8, 8, 8, 8, 8, 8, 8, 8, 8, 8, 8, 8, 8, 8, 8, 8, 8, 8, 8, 8, 8, 8, 8, 8, 8, 8, 8, 8, 8, 8, 8, 8, 8, 8, 8, 8, 8, 8, 8, 8]⟩
def bl (n : Nat) : Nat := if n = 0 then 0 else Nat.log2 n + 1
theorem lenT_all : ((List.range 256).all fun n => bt lenT n == (bl n : Int)) = true := by kernel_rfl
theorem lenT_get {n : Nat} (h : n < 256) : bt lenT n = (bl n : Int) := by
  have := List.all_eq_true.1 lenT_all n (List.mem_range.2 h)
  simpa using this
theorem bl_le {n : Nat} (h : n < 256) : bl n ≤ 8 := by
  unfold bl
  split
  · omega
  · have := (Nat.log2_lt (by omega : n ≠ 0) (k := 8)).2 (by simpa using h)
    omega
section
variable {T : Nat → AV} {H : Nat → Option Ab.Rows} {nr : Nat} {x y : AX}
theorem u_cv8 {k : IntKind} {n : Nat} (h1 : gT T x = .int k (n : Int)) (hn : n < 256) : Ab.ev (gT T) H nr (.cv .u8 x) = some (.int .u8 (n : Int), [], 0) := by
  simp only [Ab.ev, h1, pureR]
  rw [show IntKind.u8.wrap (n : Int) = (n : Int) by rw [IntKind.wrap_u8]; omega]
theorem u_cvl {k : IntKind} {n : Nat} (h1 : gT T x = .int k (bt lenT n)) (hn : n < 256) : Ab.ev (gT T) H nr (.cv .i64 x) = some (.int .i64 (bl n : Int), [], 0) := by
  have := bl_le hn
  simp only [Ab.ev, h1, pureR, lenT_get hn]
  rw [show IntKind.i64.wrap (bl n : Int) = (bl n : Int) by rw [IntKind.wrap_i64]; omega]
end
def s1 (v : Nat) : Nat × Nat := if v ≥ 4294967296 then (32, v / 2 ^ 32) else (0, v)
def s2 (v : Nat) : Nat × Nat := if (s1 v).2 ≥ 65536 then ((s1 v).1 + 16, (s1 v).2 / 2 ^ 16) else s1 v
def s3 (v : Nat) : Nat × Nat := if (s2 v).2 ≥ 256 then ((s2 v).1 + 8, (s2 v).2 / 2 ^ 8) else s2 v
def lenC (v : Nat) : Nat := (s3 v).1 + bl (s3 v).2
theorem st_b {v : Nat} (hv : v < 18446744073709551616) : ((s1 v).1 ≤ 32 ∧ (s1 v).2 < 4294967296) ∧ ((s2 v).1 ≤ 48 ∧ (s2 v).2 < 65536) ∧ (s3 v).1 ≤ 56 ∧ (s3 v).2 < 256 := by
  have a : (s1 v).1 ≤ 32 ∧ (s1 v).2 < 4294967296 := by
    unfold s1; split
    · exact ⟨by simp, by show v / 2 ^ 32 < _; omega⟩
    · exact ⟨by simp, by show v < _; omega⟩
  have b : (s2 v).1 ≤ 48 ∧ (s2 v).2 < 65536 := by
    unfold s2; split
    · exact ⟨by show (s1 v).1 + 16 ≤ 48; omega, by show (s1 v).2 / 2 ^ 16 < _; omega⟩
    · exact ⟨by omega, by omega⟩
  refine ⟨a, b, ?_⟩
  unfold s3; split
  · exact ⟨by show (s2 v).1 + 8 ≤ 56; omega, by show (s2 v).2 / 2 ^ 8 < _; omega⟩
  · exact ⟨by omega, by omega⟩
theorem lenT_size : lenT.size = 256 := by kernel_rfl
theorem u_addbl {T : Nat → AV} {H : Nat → Option Ab.Rows} {nr : Nat} {x y : AX} {c : Int} {n : Nat} (h1 : gT T x = .int .i64 c) (h2 : gT T y = .int .i64 (bl n : Int)) (hn : n < 256) (hc : 0 ≤ c ∧ c ≤ 56) : Ab.ev (gT T) H nr (.bin .add x y) = some (.int .i64 (c + bl n), [], 0) := by
  have := bl_le hn
  simp only [Ab.ev, h1, h2, binI, if_true, Option.bind_some, pureR]
  rw [IntWalk.i64_in _ ⟨by omega, by omega⟩]
theorem con104 (v : Nat) (hv : v < 18446744073709551616) : Con Try.prog 104 true [.int .u64 (v : Int)] (.int .i64 ((lenC v : Nat) : Int)) [] := by
  refine con_of_wp mixed fun104 (by simp) [] plain_nil ?_
  unfold ac104 ro104
  simp only [zipT]
  by_cases n1 : v ≥ 4294967296
  · have d1 : decide (((v : Nat) : Int) ≥ 4294967296) = true := decide_eq_true (by omega)
    by_cases n2 : v / 2 ^ 32 ≥ 65536
    · have d2 : decide (((v / 2 ^ 32 : Nat) : Int) ≥ 65536) = true := decide_eq_true (by omega)
      by_cases n3 : v / 2 ^ 32 / 2 ^ 16 ≥ 256
      · have d3 : decide (((v / 2 ^ 32 / 2 ^ 16 : Nat) : Int) ≥ 256) = true := decide_eq_true (by omega)
        have hw : v / 2 ^ 32 / 2 ^ 16 / 2 ^ 8 < 256 := by omega
        have hL : lenC v = 32 + 16 + 8 + bl (v / 2 ^ 32 / 2 ^ 16 / 2 ^ 8) := by simp only [lenC, s3, s2, s1, n1, n2, n3, if_true, if_false]
        rw [hL]
        repeat (first | refine wG_pure (u_shr (n := 32) rfl rfl (by omega)) ?_ | refine wG_pure (u_shr (n := 16) rfl rfl (by omega)) ?_ | refine wG_pure (u_shr (n := 8) rfl rfl (by omega)) ?_ | refine wG_pure (u_cv8 rfl (by omega)) ?_ | refine wG_pure (e_istr (s := lenT) rfl rfl (by rw [lenT_size]; omega)) ?_ | refine wG_pure (u_cvl rfl hw) ?_ | refine wG_pure (u_addbl rfl rfl hw (by omega)) ?_ | (first
    | refine wC_a rfl ?_
    | refine q_s rfl ?_
    | refine q_b rfl ?_
    | refine wG_nil ?_
    | refine wG_g rfl ?_
    | refine wG_pure (o_len_vwm rfl) ?_
    | refine wG_pure (o_not_d rfl) ?_
    | refine wG_p rfl (by first | exact rfl | omega) ?_
    | refine wG_pure (o_str2 rfl rfl rfl) ?_
    | refine wG_pure (e_istr rfl rfl (by omega)) ?_
    | refine wG_pure (e_istr0 rfl rfl (by omega)) ?_
    | refine wG_pure (o_not rfl) ?_
    | refine wG_pure (e_ia_vw0 rfl rfl (by omega) rfl) ?_
    | refine wG_pure (e_ia_vwp rfl rfl (by omega) rfl) ?_
    | refine wG_pure (e_ia_vwm rfl rfl (by omega) (by omega) rfl) ?_
    | refine wG_pure (e_ia_vwi rfl rfl (by omega) rfl) ?_
    | refine wG_pure (e_ia_vwn rfl rfl (by omega) (by omega) rfl) ?_
    | refine wG_n rfl rfl ?_
    | refine wG_u rfl rfl ?_
    | refine wG_new (o_mks rfl rfl (by omega) (by decide)) ?_))
        simp only [d1]
        repeat (first | refine wG_pure (u_shr (n := 32) rfl rfl (by omega)) ?_ | refine wG_pure (u_shr (n := 16) rfl rfl (by omega)) ?_ | refine wG_pure (u_shr (n := 8) rfl rfl (by omega)) ?_ | refine wG_pure (u_cv8 rfl (by omega)) ?_ | refine wG_pure (e_istr (s := lenT) rfl rfl (by rw [lenT_size]; omega)) ?_ | refine wG_pure (u_cvl rfl hw) ?_ | refine wG_pure (u_addbl rfl rfl hw (by omega)) ?_ | (first
    | refine wC_a rfl ?_
    | refine q_s rfl ?_
    | refine q_b rfl ?_
    | refine wG_nil ?_
    | refine wG_g rfl ?_
    | refine wG_pure (o_len_vwm rfl) ?_
    | refine wG_pure (o_not_d rfl) ?_
    | refine wG_p rfl (by first | exact rfl | omega) ?_
    | refine wG_pure (o_str2 rfl rfl rfl) ?_
    | refine wG_pure (e_istr rfl rfl (by omega)) ?_
    | refine wG_pure (e_istr0 rfl rfl (by omega)) ?_
    | refine wG_pure (o_not rfl) ?_
    | refine wG_pure (e_ia_vw0 rfl rfl (by omega) rfl) ?_
    | refine wG_pure (e_ia_vwp rfl rfl (by omega) rfl) ?_
    | refine wG_pure (e_ia_vwm rfl rfl (by omega) (by omega) rfl) ?_
    | refine wG_pure (e_ia_vwi rfl rfl (by omega) rfl) ?_
    | refine wG_pure (e_ia_vwn rfl rfl (by omega) (by omega) rfl) ?_
    | refine wG_n rfl rfl ?_
    | refine wG_u rfl rfl ?_
    | refine wG_new (o_mks rfl rfl (by omega) (by decide)) ?_))
        simp only [d2]
        repeat (first | refine wG_pure (u_shr (n := 32) rfl rfl (by omega)) ?_ | refine wG_pure (u_shr (n := 16) rfl rfl (by omega)) ?_ | refine wG_pure (u_shr (n := 8) rfl rfl (by omega)) ?_ | refine wG_pure (u_cv8 rfl (by omega)) ?_ | refine wG_pure (e_istr (s := lenT) rfl rfl (by rw [lenT_size]; omega)) ?_ | refine wG_pure (u_cvl rfl hw) ?_ | refine wG_pure (u_addbl rfl rfl hw (by omega)) ?_ | (first
    | refine wC_a rfl ?_
    | refine q_s rfl ?_
    | refine q_b rfl ?_
    | refine wG_nil ?_
    | refine wG_g rfl ?_
    | refine wG_pure (o_len_vwm rfl) ?_
    | refine wG_pure (o_not_d rfl) ?_
    | refine wG_p rfl (by first | exact rfl | omega) ?_
    | refine wG_pure (o_str2 rfl rfl rfl) ?_
    | refine wG_pure (e_istr rfl rfl (by omega)) ?_
    | refine wG_pure (e_istr0 rfl rfl (by omega)) ?_
    | refine wG_pure (o_not rfl) ?_
    | refine wG_pure (e_ia_vw0 rfl rfl (by omega) rfl) ?_
    | refine wG_pure (e_ia_vwp rfl rfl (by omega) rfl) ?_
    | refine wG_pure (e_ia_vwm rfl rfl (by omega) (by omega) rfl) ?_
    | refine wG_pure (e_ia_vwi rfl rfl (by omega) rfl) ?_
    | refine wG_pure (e_ia_vwn rfl rfl (by omega) (by omega) rfl) ?_
    | refine wG_n rfl rfl ?_
    | refine wG_u rfl rfl ?_
    | refine wG_new (o_mks rfl rfl (by omega) (by decide)) ?_))
        simp only [d3]
        repeat (first | refine wG_pure (u_shr (n := 32) rfl rfl (by omega)) ?_ | refine wG_pure (u_shr (n := 16) rfl rfl (by omega)) ?_ | refine wG_pure (u_shr (n := 8) rfl rfl (by omega)) ?_ | refine wG_pure (u_cv8 rfl (by omega)) ?_ | refine wG_pure (e_istr (s := lenT) rfl rfl (by rw [lenT_size]; omega)) ?_ | refine wG_pure (u_cvl rfl hw) ?_ | refine wG_pure (u_addbl rfl rfl hw (by omega)) ?_ | (first
    | refine wC_a rfl ?_
    | refine q_s rfl ?_
    | refine q_b rfl ?_
    | refine wG_nil ?_
    | refine wG_g rfl ?_
    | refine wG_pure (o_len_vwm rfl) ?_
    | refine wG_pure (o_not_d rfl) ?_
    | refine wG_p rfl (by first | exact rfl | omega) ?_
    | refine wG_pure (o_str2 rfl rfl rfl) ?_
    | refine wG_pure (e_istr rfl rfl (by omega)) ?_
    | refine wG_pure (e_istr0 rfl rfl (by omega)) ?_
    | refine wG_pure (o_not rfl) ?_
    | refine wG_pure (e_ia_vw0 rfl rfl (by omega) rfl) ?_
    | refine wG_pure (e_ia_vwp rfl rfl (by omega) rfl) ?_
    | refine wG_pure (e_ia_vwm rfl rfl (by omega) (by omega) rfl) ?_
    | refine wG_pure (e_ia_vwi rfl rfl (by omega) rfl) ?_
    | refine wG_pure (e_ia_vwn rfl rfl (by omega) (by omega) rfl) ?_
    | refine wG_n rfl rfl ?_
    | refine wG_u rfl rfl ?_
    | refine wG_new (o_mks rfl rfl (by omega) (by decide)) ?_))
        exact ret_intE (.inr rfl) ⟨_, retV_mv rfl, by omega⟩
      · have d3 : decide (((v / 2 ^ 32 / 2 ^ 16 : Nat) : Int) ≥ 256) = false := decide_eq_false (by omega)
        have hw : v / 2 ^ 32 / 2 ^ 16 < 256 := by omega
        have hL : lenC v = 32 + 16 + bl (v / 2 ^ 32 / 2 ^ 16) := by simp only [lenC, s3, s2, s1, n1, n2, n3, if_true, if_false]
        rw [hL]
        repeat (first | refine wG_pure (u_shr (n := 32) rfl rfl (by omega)) ?_ | refine wG_pure (u_shr (n := 16) rfl rfl (by omega)) ?_ | refine wG_pure (u_shr (n := 8) rfl rfl (by omega)) ?_ | refine wG_pure (u_cv8 rfl (by omega)) ?_ | refine wG_pure (e_istr (s := lenT) rfl rfl (by rw [lenT_size]; omega)) ?_ | refine wG_pure (u_cvl rfl hw) ?_ | refine wG_pure (u_addbl rfl rfl hw (by omega)) ?_ | (first
    | refine wC_a rfl ?_
    | refine q_s rfl ?_
    | refine q_b rfl ?_
    | refine wG_nil ?_
    | refine wG_g rfl ?_
    | refine wG_pure (o_len_vwm rfl) ?_
    | refine wG_pure (o_not_d rfl) ?_
    | refine wG_p rfl (by first | exact rfl | omega) ?_
    | refine wG_pure (o_str2 rfl rfl rfl) ?_
    | refine wG_pure (e_istr rfl rfl (by omega)) ?_
    | refine wG_pure (e_istr0 rfl rfl (by omega)) ?_
    | refine wG_pure (o_not rfl) ?_
    | refine wG_pure (e_ia_vw0 rfl rfl (by omega) rfl) ?_
    | refine wG_pure (e_ia_vwp rfl rfl (by omega) rfl) ?_
    | refine wG_pure (e_ia_vwm rfl rfl (by omega) (by omega) rfl) ?_
    | refine wG_pure (e_ia_vwi rfl rfl (by omega) rfl) ?_
    | refine wG_pure (e_ia_vwn rfl rfl (by omega) (by omega) rfl) ?_
    | refine wG_n rfl rfl ?_
    | refine wG_u rfl rfl ?_
    | refine wG_new (o_mks rfl rfl (by omega) (by decide)) ?_))
        simp only [d1]
        repeat (first | refine wG_pure (u_shr (n := 32) rfl rfl (by omega)) ?_ | refine wG_pure (u_shr (n := 16) rfl rfl (by omega)) ?_ | refine wG_pure (u_shr (n := 8) rfl rfl (by omega)) ?_ | refine wG_pure (u_cv8 rfl (by omega)) ?_ | refine wG_pure (e_istr (s := lenT) rfl rfl (by rw [lenT_size]; omega)) ?_ | refine wG_pure (u_cvl rfl hw) ?_ | refine wG_pure (u_addbl rfl rfl hw (by omega)) ?_ | (first
    | refine wC_a rfl ?_
    | refine q_s rfl ?_
    | refine q_b rfl ?_
    | refine wG_nil ?_
    | refine wG_g rfl ?_
    | refine wG_pure (o_len_vwm rfl) ?_
    | refine wG_pure (o_not_d rfl) ?_
    | refine wG_p rfl (by first | exact rfl | omega) ?_
    | refine wG_pure (o_str2 rfl rfl rfl) ?_
    | refine wG_pure (e_istr rfl rfl (by omega)) ?_
    | refine wG_pure (e_istr0 rfl rfl (by omega)) ?_
    | refine wG_pure (o_not rfl) ?_
    | refine wG_pure (e_ia_vw0 rfl rfl (by omega) rfl) ?_
    | refine wG_pure (e_ia_vwp rfl rfl (by omega) rfl) ?_
    | refine wG_pure (e_ia_vwm rfl rfl (by omega) (by omega) rfl) ?_
    | refine wG_pure (e_ia_vwi rfl rfl (by omega) rfl) ?_
    | refine wG_pure (e_ia_vwn rfl rfl (by omega) (by omega) rfl) ?_
    | refine wG_n rfl rfl ?_
    | refine wG_u rfl rfl ?_
    | refine wG_new (o_mks rfl rfl (by omega) (by decide)) ?_))
        simp only [d2]
        repeat (first | refine wG_pure (u_shr (n := 32) rfl rfl (by omega)) ?_ | refine wG_pure (u_shr (n := 16) rfl rfl (by omega)) ?_ | refine wG_pure (u_shr (n := 8) rfl rfl (by omega)) ?_ | refine wG_pure (u_cv8 rfl (by omega)) ?_ | refine wG_pure (e_istr (s := lenT) rfl rfl (by rw [lenT_size]; omega)) ?_ | refine wG_pure (u_cvl rfl hw) ?_ | refine wG_pure (u_addbl rfl rfl hw (by omega)) ?_ | (first
    | refine wC_a rfl ?_
    | refine q_s rfl ?_
    | refine q_b rfl ?_
    | refine wG_nil ?_
    | refine wG_g rfl ?_
    | refine wG_pure (o_len_vwm rfl) ?_
    | refine wG_pure (o_not_d rfl) ?_
    | refine wG_p rfl (by first | exact rfl | omega) ?_
    | refine wG_pure (o_str2 rfl rfl rfl) ?_
    | refine wG_pure (e_istr rfl rfl (by omega)) ?_
    | refine wG_pure (e_istr0 rfl rfl (by omega)) ?_
    | refine wG_pure (o_not rfl) ?_
    | refine wG_pure (e_ia_vw0 rfl rfl (by omega) rfl) ?_
    | refine wG_pure (e_ia_vwp rfl rfl (by omega) rfl) ?_
    | refine wG_pure (e_ia_vwm rfl rfl (by omega) (by omega) rfl) ?_
    | refine wG_pure (e_ia_vwi rfl rfl (by omega) rfl) ?_
    | refine wG_pure (e_ia_vwn rfl rfl (by omega) (by omega) rfl) ?_
    | refine wG_n rfl rfl ?_
    | refine wG_u rfl rfl ?_
    | refine wG_new (o_mks rfl rfl (by omega) (by decide)) ?_))
        simp only [d3]
        repeat (first | refine wG_pure (u_shr (n := 32) rfl rfl (by omega)) ?_ | refine wG_pure (u_shr (n := 16) rfl rfl (by omega)) ?_ | refine wG_pure (u_shr (n := 8) rfl rfl (by omega)) ?_ | refine wG_pure (u_cv8 rfl (by omega)) ?_ | refine wG_pure (e_istr (s := lenT) rfl rfl (by rw [lenT_size]; omega)) ?_ | refine wG_pure (u_cvl rfl hw) ?_ | refine wG_pure (u_addbl rfl rfl hw (by omega)) ?_ | (first
    | refine wC_a rfl ?_
    | refine q_s rfl ?_
    | refine q_b rfl ?_
    | refine wG_nil ?_
    | refine wG_g rfl ?_
    | refine wG_pure (o_len_vwm rfl) ?_
    | refine wG_pure (o_not_d rfl) ?_
    | refine wG_p rfl (by first | exact rfl | omega) ?_
    | refine wG_pure (o_str2 rfl rfl rfl) ?_
    | refine wG_pure (e_istr rfl rfl (by omega)) ?_
    | refine wG_pure (e_istr0 rfl rfl (by omega)) ?_
    | refine wG_pure (o_not rfl) ?_
    | refine wG_pure (e_ia_vw0 rfl rfl (by omega) rfl) ?_
    | refine wG_pure (e_ia_vwp rfl rfl (by omega) rfl) ?_
    | refine wG_pure (e_ia_vwm rfl rfl (by omega) (by omega) rfl) ?_
    | refine wG_pure (e_ia_vwi rfl rfl (by omega) rfl) ?_
    | refine wG_pure (e_ia_vwn rfl rfl (by omega) (by omega) rfl) ?_
    | refine wG_n rfl rfl ?_
    | refine wG_u rfl rfl ?_
    | refine wG_new (o_mks rfl rfl (by omega) (by decide)) ?_))
        exact ret_intE (.inr rfl) ⟨_, retV_mv rfl, by omega⟩
    · have d2 : decide (((v / 2 ^ 32 : Nat) : Int) ≥ 65536) = false := decide_eq_false (by omega)
      by_cases n3 : v / 2 ^ 32 ≥ 256
      · have d3 : decide (((v / 2 ^ 32 : Nat) : Int) ≥ 256) = true := decide_eq_true (by omega)
        have hw : v / 2 ^ 32 / 2 ^ 8 < 256 := by omega
        have hL : lenC v = 32 + 8 + bl (v / 2 ^ 32 / 2 ^ 8) := by simp only [lenC, s3, s2, s1, n1, n2, n3, if_true, if_false]
        rw [hL]
        repeat (first | refine wG_pure (u_shr (n := 32) rfl rfl (by omega)) ?_ | refine wG_pure (u_shr (n := 16) rfl rfl (by omega)) ?_ | refine wG_pure (u_shr (n := 8) rfl rfl (by omega)) ?_ | refine wG_pure (u_cv8 rfl (by omega)) ?_ | refine wG_pure (e_istr (s := lenT) rfl rfl (by rw [lenT_size]; omega)) ?_ | refine wG_pure (u_cvl rfl hw) ?_ | refine wG_pure (u_addbl rfl rfl hw (by omega)) ?_ | (first
    | refine wC_a rfl ?_
    | refine q_s rfl ?_
    | refine q_b rfl ?_
    | refine wG_nil ?_
    | refine wG_g rfl ?_
    | refine wG_pure (o_len_vwm rfl) ?_
    | refine wG_pure (o_not_d rfl) ?_
    | refine wG_p rfl (by first | exact rfl | omega) ?_
    | refine wG_pure (o_str2 rfl rfl rfl) ?_
    | refine wG_pure (e_istr rfl rfl (by omega)) ?_
    | refine wG_pure (e_istr0 rfl rfl (by omega)) ?_
    | refine wG_pure (o_not rfl) ?_
    | refine wG_pure (e_ia_vw0 rfl rfl (by omega) rfl) ?_
    | refine wG_pure (e_ia_vwp rfl rfl (by omega) rfl) ?_
    | refine wG_pure (e_ia_vwm rfl rfl (by omega) (by omega) rfl) ?_
    | refine wG_pure (e_ia_vwi rfl rfl (by omega) rfl) ?_
    | refine wG_pure (e_ia_vwn rfl rfl (by omega) (by omega) rfl) ?_
    | refine wG_n rfl rfl ?_
    | refine wG_u rfl rfl ?_
    | refine wG_new (o_mks rfl rfl (by omega) (by decide)) ?_))
        simp only [d1]
        repeat (first | refine wG_pure (u_shr (n := 32) rfl rfl (by omega)) ?_ | refine wG_pure (u_shr (n := 16) rfl rfl (by omega)) ?_ | refine wG_pure (u_shr (n := 8) rfl rfl (by omega)) ?_ | refine wG_pure (u_cv8 rfl (by omega)) ?_ | refine wG_pure (e_istr (s := lenT) rfl rfl (by rw [lenT_size]; omega)) ?_ | refine wG_pure (u_cvl rfl hw) ?_ | refine wG_pure (u_addbl rfl rfl hw (by omega)) ?_ | (first
    | refine wC_a rfl ?_
    | refine q_s rfl ?_
    | refine q_b rfl ?_
    | refine wG_nil ?_
    | refine wG_g rfl ?_
    | refine wG_pure (o_len_vwm rfl) ?_
    | refine wG_pure (o_not_d rfl) ?_
    | refine wG_p rfl (by first | exact rfl | omega) ?_
    | refine wG_pure (o_str2 rfl rfl rfl) ?_
    | refine wG_pure (e_istr rfl rfl (by omega)) ?_
    | refine wG_pure (e_istr0 rfl rfl (by omega)) ?_
    | refine wG_pure (o_not rfl) ?_
    | refine wG_pure (e_ia_vw0 rfl rfl (by omega) rfl) ?_
    | refine wG_pure (e_ia_vwp rfl rfl (by omega) rfl) ?_
    | refine wG_pure (e_ia_vwm rfl rfl (by omega) (by omega) rfl) ?_
    | refine wG_pure (e_ia_vwi rfl rfl (by omega) rfl) ?_
    | refine wG_pure (e_ia_vwn rfl rfl (by omega) (by omega) rfl) ?_
    | refine wG_n rfl rfl ?_
    | refine wG_u rfl rfl ?_
    | refine wG_new (o_mks rfl rfl (by omega) (by decide)) ?_))
        simp only [d2]
        repeat (first | refine wG_pure (u_shr (n := 32) rfl rfl (by omega)) ?_ | refine wG_pure (u_shr (n := 16) rfl rfl (by omega)) ?_ | refine wG_pure (u_shr (n := 8) rfl rfl (by omega)) ?_ | refine wG_pure (u_cv8 rfl (by omega)) ?_ | refine wG_pure (e_istr (s := lenT) rfl rfl (by rw [lenT_size]; omega)) ?_ | refine wG_pure (u_cvl rfl hw) ?_ | refine wG_pure (u_addbl rfl rfl hw (by omega)) ?_ | (first
    | refine wC_a rfl ?_
    | refine q_s rfl ?_
    | refine q_b rfl ?_
    | refine wG_nil ?_
    | refine wG_g rfl ?_
    | refine wG_pure (o_len_vwm rfl) ?_
    | refine wG_pure (o_not_d rfl) ?_
    | refine wG_p rfl (by first | exact rfl | omega) ?_
    | refine wG_pure (o_str2 rfl rfl rfl) ?_
    | refine wG_pure (e_istr rfl rfl (by omega)) ?_
    | refine wG_pure (e_istr0 rfl rfl (by omega)) ?_
    | refine wG_pure (o_not rfl) ?_
    | refine wG_pure (e_ia_vw0 rfl rfl (by omega) rfl) ?_
    | refine wG_pure (e_ia_vwp rfl rfl (by omega) rfl) ?_
    | refine wG_pure (e_ia_vwm rfl rfl (by omega) (by omega) rfl) ?_
    | refine wG_pure (e_ia_vwi rfl rfl (by omega) rfl) ?_
    | refine wG_pure (e_ia_vwn rfl rfl (by omega) (by omega) rfl) ?_
    | refine wG_n rfl rfl ?_
    | refine wG_u rfl rfl ?_
    | refine wG_new (o_mks rfl rfl (by omega) (by decide)) ?_))
        simp only [d3]
        repeat (first | refine wG_pure (u_shr (n := 32) rfl rfl (by omega)) ?_ | refine wG_pure (u_shr (n := 16) rfl rfl (by omega)) ?_ | refine wG_pure (u_shr (n := 8) rfl rfl (by omega)) ?_ | refine wG_pure (u_cv8 rfl (by omega)) ?_ | refine wG_pure (e_istr (s := lenT) rfl rfl (by rw [lenT_size]; omega)) ?_ | refine wG_pure (u_cvl rfl hw) ?_ | refine wG_pure (u_addbl rfl rfl hw (by omega)) ?_ | (first
    | refine wC_a rfl ?_
    | refine q_s rfl ?_
    | refine q_b rfl ?_
    | refine wG_nil ?_
    | refine wG_g rfl ?_
    | refine wG_pure (o_len_vwm rfl) ?_
    | refine wG_pure (o_not_d rfl) ?_
    | refine wG_p rfl (by first | exact rfl | omega) ?_
    | refine wG_pure (o_str2 rfl rfl rfl) ?_
    | refine wG_pure (e_istr rfl rfl (by omega)) ?_
    | refine wG_pure (e_istr0 rfl rfl (by omega)) ?_
    | refine wG_pure (o_not rfl) ?_
    | refine wG_pure (e_ia_vw0 rfl rfl (by omega) rfl) ?_
    | refine wG_pure (e_ia_vwp rfl rfl (by omega) rfl) ?_
    | refine wG_pure (e_ia_vwm rfl rfl (by omega) (by omega) rfl) ?_
    | refine wG_pure (e_ia_vwi rfl rfl (by omega) rfl) ?_
    | refine wG_pure (e_ia_vwn rfl rfl (by omega) (by omega) rfl) ?_
    | refine wG_n rfl rfl ?_
    | refine wG_u rfl rfl ?_
    | refine wG_new (o_mks rfl rfl (by omega) (by decide)) ?_))
        exact ret_intE (.inr rfl) ⟨_, retV_mv rfl, by omega⟩
      · have d3 : decide (((v / 2 ^ 32 : Nat) : Int) ≥ 256) = false := decide_eq_false (by omega)
        have hw : v / 2 ^ 32 < 256 := by omega
        have hL : lenC v = 32 + bl (v / 2 ^ 32) := by simp only [lenC, s3, s2, s1, n1, n2, n3, if_true, if_false]
        rw [hL]
        repeat (first | refine wG_pure (u_shr (n := 32) rfl rfl (by omega)) ?_ | refine wG_pure (u_shr (n := 16) rfl rfl (by omega)) ?_ | refine wG_pure (u_shr (n := 8) rfl rfl (by omega)) ?_ | refine wG_pure (u_cv8 rfl (by omega)) ?_ | refine wG_pure (e_istr (s := lenT) rfl rfl (by rw [lenT_size]; omega)) ?_ | refine wG_pure (u_cvl rfl hw) ?_ | refine wG_pure (u_addbl rfl rfl hw (by omega)) ?_ | (first
    | refine wC_a rfl ?_
    | refine q_s rfl ?_
    | refine q_b rfl ?_
    | refine wG_nil ?_
    | refine wG_g rfl ?_
    | refine wG_pure (o_len_vwm rfl) ?_
    | refine wG_pure (o_not_d rfl) ?_
    | refine wG_p rfl (by first | exact rfl | omega) ?_
    | refine wG_pure (o_str2 rfl rfl rfl) ?_
    | refine wG_pure (e_istr rfl rfl (by omega)) ?_
    | refine wG_pure (e_istr0 rfl rfl (by omega)) ?_
    | refine wG_pure (o_not rfl) ?_
    | refine wG_pure (e_ia_vw0 rfl rfl (by omega) rfl) ?_
    | refine wG_pure (e_ia_vwp rfl rfl (by omega) rfl) ?_
    | refine wG_pure (e_ia_vwm rfl rfl (by omega) (by omega) rfl) ?_
    | refine wG_pure (e_ia_vwi rfl rfl (by omega) rfl) ?_
    | refine wG_pure (e_ia_vwn rfl rfl (by omega) (by omega) rfl) ?_
    | refine wG_n rfl rfl ?_
    | refine wG_u rfl rfl ?_
    | refine wG_new (o_mks rfl rfl (by omega) (by decide)) ?_))
        simp only [d1]
        repeat (first | refine wG_pure (u_shr (n := 32) rfl rfl (by omega)) ?_ | refine wG_pure (u_shr (n := 16) rfl rfl (by omega)) ?_ | refine wG_pure (u_shr (n := 8) rfl rfl (by omega)) ?_ | refine wG_pure (u_cv8 rfl (by omega)) ?_ | refine wG_pure (e_istr (s := lenT) rfl rfl (by rw [lenT_size]; omega)) ?_ | refine wG_pure (u_cvl rfl hw) ?_ | refine wG_pure (u_addbl rfl rfl hw (by omega)) ?_ | (first
    | refine wC_a rfl ?_
    | refine q_s rfl ?_
    | refine q_b rfl ?_
    | refine wG_nil ?_
    | refine wG_g rfl ?_
    | refine wG_pure (o_len_vwm rfl) ?_
    | refine wG_pure (o_not_d rfl) ?_
    | refine wG_p rfl (by first | exact rfl | omega) ?_
    | refine wG_pure (o_str2 rfl rfl rfl) ?_
    | refine wG_pure (e_istr rfl rfl (by omega)) ?_
    | refine wG_pure (e_istr0 rfl rfl (by omega)) ?_
    | refine wG_pure (o_not rfl) ?_
    | refine wG_pure (e_ia_vw0 rfl rfl (by omega) rfl) ?_
    | refine wG_pure (e_ia_vwp rfl rfl (by omega) rfl) ?_
    | refine wG_pure (e_ia_vwm rfl rfl (by omega) (by omega) rfl) ?_
    | refine wG_pure (e_ia_vwi rfl rfl (by omega) rfl) ?_
    | refine wG_pure (e_ia_vwn rfl rfl (by omega) (by omega) rfl) ?_
    | refine wG_n rfl rfl ?_
    | refine wG_u rfl rfl ?_
    | refine wG_new (o_mks rfl rfl (by omega) (by decide)) ?_))
        simp only [d2]
        repeat (first | refine wG_pure (u_shr (n := 32) rfl rfl (by omega)) ?_ | refine wG_pure (u_shr (n := 16) rfl rfl (by omega)) ?_ | refine wG_pure (u_shr (n := 8) rfl rfl (by omega)) ?_ | refine wG_pure (u_cv8 rfl (by omega)) ?_ | refine wG_pure (e_istr (s := lenT) rfl rfl (by rw [lenT_size]; omega)) ?_ | refine wG_pure (u_cvl rfl hw) ?_ | refine wG_pure (u_addbl rfl rfl hw (by omega)) ?_ | (first
    | refine wC_a rfl ?_
    | refine q_s rfl ?_
    | refine q_b rfl ?_
    | refine wG_nil ?_
    | refine wG_g rfl ?_
    | refine wG_pure (o_len_vwm rfl) ?_
    | refine wG_pure (o_not_d rfl) ?_
    | refine wG_p rfl (by first | exact rfl | omega) ?_
    | refine wG_pure (o_str2 rfl rfl rfl) ?_
    | refine wG_pure (e_istr rfl rfl (by omega)) ?_
    | refine wG_pure (e_istr0 rfl rfl (by omega)) ?_
    | refine wG_pure (o_not rfl) ?_
    | refine wG_pure (e_ia_vw0 rfl rfl (by omega) rfl) ?_
    | refine wG_pure (e_ia_vwp rfl rfl (by omega) rfl) ?_
    | refine wG_pure (e_ia_vwm rfl rfl (by omega) (by omega) rfl) ?_
    | refine wG_pure (e_ia_vwi rfl rfl (by omega) rfl) ?_
    | refine wG_pure (e_ia_vwn rfl rfl (by omega) (by omega) rfl) ?_
    | refine wG_n rfl rfl ?_
    | refine wG_u rfl rfl ?_
    | refine wG_new (o_mks rfl rfl (by omega) (by decide)) ?_))
        simp only [d3]
        repeat (first | refine wG_pure (u_shr (n := 32) rfl rfl (by omega)) ?_ | refine wG_pure (u_shr (n := 16) rfl rfl (by omega)) ?_ | refine wG_pure (u_shr (n := 8) rfl rfl (by omega)) ?_ | refine wG_pure (u_cv8 rfl (by omega)) ?_ | refine wG_pure (e_istr (s := lenT) rfl rfl (by rw [lenT_size]; omega)) ?_ | refine wG_pure (u_cvl rfl hw) ?_ | refine wG_pure (u_addbl rfl rfl hw (by omega)) ?_ | (first
    | refine wC_a rfl ?_
    | refine q_s rfl ?_
    | refine q_b rfl ?_
    | refine wG_nil ?_
    | refine wG_g rfl ?_
    | refine wG_pure (o_len_vwm rfl) ?_
    | refine wG_pure (o_not_d rfl) ?_
    | refine wG_p rfl (by first | exact rfl | omega) ?_
    | refine wG_pure (o_str2 rfl rfl rfl) ?_
    | refine wG_pure (e_istr rfl rfl (by omega)) ?_
    | refine wG_pure (e_istr0 rfl rfl (by omega)) ?_
    | refine wG_pure (o_not rfl) ?_
    | refine wG_pure (e_ia_vw0 rfl rfl (by omega) rfl) ?_
    | refine wG_pure (e_ia_vwp rfl rfl (by omega) rfl) ?_
    | refine wG_pure (e_ia_vwm rfl rfl (by omega) (by omega) rfl) ?_
    | refine wG_pure (e_ia_vwi rfl rfl (by omega) rfl) ?_
    | refine wG_pure (e_ia_vwn rfl rfl (by omega) (by omega) rfl) ?_
    | refine wG_n rfl rfl ?_
    | refine wG_u rfl rfl ?_
    | refine wG_new (o_mks rfl rfl (by omega) (by decide)) ?_))
        exact ret_intE (.inr rfl) ⟨_, retV_mv rfl, by omega⟩
  · have d1 : decide (((v : Nat) : Int) ≥ 4294967296) = false := decide_eq_false (by omega)
    by_cases n2 : v ≥ 65536
    · have d2 : decide (((v : Nat) : Int) ≥ 65536) = true := decide_eq_true (by omega)
      by_cases n3 : v / 2 ^ 16 ≥ 256
      · have d3 : decide (((v / 2 ^ 16 : Nat) : Int) ≥ 256) = true := decide_eq_true (by omega)
        have hw : v / 2 ^ 16 / 2 ^ 8 < 256 := by omega
        have hL : lenC v = 0 + 16 + 8 + bl (v / 2 ^ 16 / 2 ^ 8) := by simp only [lenC, s3, s2, s1, n1, n2, n3, if_true, if_false]
        rw [hL]
        repeat (first | refine wG_pure (u_shr (n := 32) rfl rfl (by omega)) ?_ | refine wG_pure (u_shr (n := 16) rfl rfl (by omega)) ?_ | refine wG_pure (u_shr (n := 8) rfl rfl (by omega)) ?_ | refine wG_pure (u_cv8 rfl (by omega)) ?_ | refine wG_pure (e_istr (s := lenT) rfl rfl (by rw [lenT_size]; omega)) ?_ | refine wG_pure (u_cvl rfl hw) ?_ | refine wG_pure (u_addbl rfl rfl hw (by omega)) ?_ | (first
    | refine wC_a rfl ?_
    | refine q_s rfl ?_
    | refine q_b rfl ?_
    | refine wG_nil ?_
    | refine wG_g rfl ?_
    | refine wG_pure (o_len_vwm rfl) ?_
    | refine wG_pure (o_not_d rfl) ?_
    | refine wG_p rfl (by first | exact rfl | omega) ?_
    | refine wG_pure (o_str2 rfl rfl rfl) ?_
    | refine wG_pure (e_istr rfl rfl (by omega)) ?_
    | refine wG_pure (e_istr0 rfl rfl (by omega)) ?_
    | refine wG_pure (o_not rfl) ?_
    | refine wG_pure (e_ia_vw0 rfl rfl (by omega) rfl) ?_
    | refine wG_pure (e_ia_vwp rfl rfl (by omega) rfl) ?_
    | refine wG_pure (e_ia_vwm rfl rfl (by omega) (by omega) rfl) ?_
    | refine wG_pure (e_ia_vwi rfl rfl (by omega) rfl) ?_
    | refine wG_pure (e_ia_vwn rfl rfl (by omega) (by omega) rfl) ?_
    | refine wG_n rfl rfl ?_
    | refine wG_u rfl rfl ?_
    | refine wG_new (o_mks rfl rfl (by omega) (by decide)) ?_))
        simp only [d1]
        repeat (first | refine wG_pure (u_shr (n := 32) rfl rfl (by omega)) ?_ | refine wG_pure (u_shr (n := 16) rfl rfl (by omega)) ?_ | refine wG_pure (u_shr (n := 8) rfl rfl (by omega)) ?_ | refine wG_pure (u_cv8 rfl (by omega)) ?_ | refine wG_pure (e_istr (s := lenT) rfl rfl (by rw [lenT_size]; omega)) ?_ | refine wG_pure (u_cvl rfl hw) ?_ | refine wG_pure (u_addbl rfl rfl hw (by omega)) ?_ | (first
    | refine wC_a rfl ?_
    | refine q_s rfl ?_
    | refine q_b rfl ?_
    | refine wG_nil ?_
    | refine wG_g rfl ?_
    | refine wG_pure (o_len_vwm rfl) ?_
    | refine wG_pure (o_not_d rfl) ?_
    | refine wG_p rfl (by first | exact rfl | omega) ?_
    | refine wG_pure (o_str2 rfl rfl rfl) ?_
    | refine wG_pure (e_istr rfl rfl (by omega)) ?_
    | refine wG_pure (e_istr0 rfl rfl (by omega)) ?_
    | refine wG_pure (o_not rfl) ?_
    | refine wG_pure (e_ia_vw0 rfl rfl (by omega) rfl) ?_
    | refine wG_pure (e_ia_vwp rfl rfl (by omega) rfl) ?_
    | refine wG_pure (e_ia_vwm rfl rfl (by omega) (by omega) rfl) ?_
    | refine wG_pure (e_ia_vwi rfl rfl (by omega) rfl) ?_
    | refine wG_pure (e_ia_vwn rfl rfl (by omega) (by omega) rfl) ?_
    | refine wG_n rfl rfl ?_
    | refine wG_u rfl rfl ?_
    | refine wG_new (o_mks rfl rfl (by omega) (by decide)) ?_))
        simp only [d2]
        repeat (first | refine wG_pure (u_shr (n := 32) rfl rfl (by omega)) ?_ | refine wG_pure (u_shr (n := 16) rfl rfl (by omega)) ?_ | refine wG_pure (u_shr (n := 8) rfl rfl (by omega)) ?_ | refine wG_pure (u_cv8 rfl (by omega)) ?_ | refine wG_pure (e_istr (s := lenT) rfl rfl (by rw [lenT_size]; omega)) ?_ | refine wG_pure (u_cvl rfl hw) ?_ | refine wG_pure (u_addbl rfl rfl hw (by omega)) ?_ | (first
    | refine wC_a rfl ?_
    | refine q_s rfl ?_
    | refine q_b rfl ?_
    | refine wG_nil ?_
    | refine wG_g rfl ?_
    | refine wG_pure (o_len_vwm rfl) ?_
    | refine wG_pure (o_not_d rfl) ?_
    | refine wG_p rfl (by first | exact rfl | omega) ?_
    | refine wG_pure (o_str2 rfl rfl rfl) ?_
    | refine wG_pure (e_istr rfl rfl (by omega)) ?_
    | refine wG_pure (e_istr0 rfl rfl (by omega)) ?_
    | refine wG_pure (o_not rfl) ?_
    | refine wG_pure (e_ia_vw0 rfl rfl (by omega) rfl) ?_
    | refine wG_pure (e_ia_vwp rfl rfl (by omega) rfl) ?_
    | refine wG_pure (e_ia_vwm rfl rfl (by omega) (by omega) rfl) ?_
    | refine wG_pure (e_ia_vwi rfl rfl (by omega) rfl) ?_
    | refine wG_pure (e_ia_vwn rfl rfl (by omega) (by omega) rfl) ?_
    | refine wG_n rfl rfl ?_
    | refine wG_u rfl rfl ?_
    | refine wG_new (o_mks rfl rfl (by omega) (by decide)) ?_))
        simp only [d3]
        repeat (first | refine wG_pure (u_shr (n := 32) rfl rfl (by omega)) ?_ | refine wG_pure (u_shr (n := 16) rfl rfl (by omega)) ?_ | refine wG_pure (u_shr (n := 8) rfl rfl (by omega)) ?_ | refine wG_pure (u_cv8 rfl (by omega)) ?_ | refine wG_pure (e_istr (s := lenT) rfl rfl (by rw [lenT_size]; omega)) ?_ | refine wG_pure (u_cvl rfl hw) ?_ | refine wG_pure (u_addbl rfl rfl hw (by omega)) ?_ | (first
    | refine wC_a rfl ?_
    | refine q_s rfl ?_
    | refine q_b rfl ?_
    | refine wG_nil ?_
    | refine wG_g rfl ?_
    | refine wG_pure (o_len_vwm rfl) ?_
    | refine wG_pure (o_not_d rfl) ?_
    | refine wG_p rfl (by first | exact rfl | omega) ?_
    | refine wG_pure (o_str2 rfl rfl rfl) ?_
    | refine wG_pure (e_istr rfl rfl (by omega)) ?_
    | refine wG_pure (e_istr0 rfl rfl (by omega)) ?_
    | refine wG_pure (o_not rfl) ?_
    | refine wG_pure (e_ia_vw0 rfl rfl (by omega) rfl) ?_
    | refine wG_pure (e_ia_vwp rfl rfl (by omega) rfl) ?_
    | refine wG_pure (e_ia_vwm rfl rfl (by omega) (by omega) rfl) ?_
    | refine wG_pure (e_ia_vwi rfl rfl (by omega) rfl) ?_
    | refine wG_pure (e_ia_vwn rfl rfl (by omega) (by omega) rfl) ?_
    | refine wG_n rfl rfl ?_
    | refine wG_u rfl rfl ?_
    | refine wG_new (o_mks rfl rfl (by omega) (by decide)) ?_))
        exact ret_intE (.inr rfl) ⟨_, retV_mv rfl, by omega⟩
      · have d3 : decide (((v / 2 ^ 16 : Nat) : Int) ≥ 256) = false := decide_eq_false (by omega)
        have hw : v / 2 ^ 16 < 256 := by omega
        have hL : lenC v = 0 + 16 + bl (v / 2 ^ 16) := by simp only [lenC, s3, s2, s1, n1, n2, n3, if_true, if_false]
        rw [hL]
        repeat (first | refine wG_pure (u_shr (n := 32) rfl rfl (by omega)) ?_ | refine wG_pure (u_shr (n := 16) rfl rfl (by omega)) ?_ | refine wG_pure (u_shr (n := 8) rfl rfl (by omega)) ?_ | refine wG_pure (u_cv8 rfl (by omega)) ?_ | refine wG_pure (e_istr (s := lenT) rfl rfl (by rw [lenT_size]; omega)) ?_ | refine wG_pure (u_cvl rfl hw) ?_ | refine wG_pure (u_addbl rfl rfl hw (by omega)) ?_ | (first
    | refine wC_a rfl ?_
    | refine q_s rfl ?_
    | refine q_b rfl ?_
    | refine wG_nil ?_
    | refine wG_g rfl ?_
    | refine wG_pure (o_len_vwm rfl) ?_
    | refine wG_pure (o_not_d rfl) ?_
    | refine wG_p rfl (by first | exact rfl | omega) ?_
    | refine wG_pure (o_str2 rfl rfl rfl) ?_
    | refine wG_pure (e_istr rfl rfl (by omega)) ?_
    | refine wG_pure (e_istr0 rfl rfl (by omega)) ?_
    | refine wG_pure (o_not rfl) ?_
    | refine wG_pure (e_ia_vw0 rfl rfl (by omega) rfl) ?_
    | refine wG_pure (e_ia_vwp rfl rfl (by omega) rfl) ?_
    | refine wG_pure (e_ia_vwm rfl rfl (by omega) (by omega) rfl) ?_
    | refine wG_pure (e_ia_vwi rfl rfl (by omega) rfl) ?_
    | refine wG_pure (e_ia_vwn rfl rfl (by omega) (by omega) rfl) ?_
    | refine wG_n rfl rfl ?_
    | refine wG_u rfl rfl ?_
    | refine wG_new (o_mks rfl rfl (by omega) (by decide)) ?_))
        simp only [d1]
        repeat (first | refine wG_pure (u_shr (n := 32) rfl rfl (by omega)) ?_ | refine wG_pure (u_shr (n := 16) rfl rfl (by omega)) ?_ | refine wG_pure (u_shr (n := 8) rfl rfl (by omega)) ?_ | refine wG_pure (u_cv8 rfl (by omega)) ?_ | refine wG_pure (e_istr (s := lenT) rfl rfl (by rw [lenT_size]; omega)) ?_ | refine wG_pure (u_cvl rfl hw) ?_ | refine wG_pure (u_addbl rfl rfl hw (by omega)) ?_ | (first
    | refine wC_a rfl ?_
    | refine q_s rfl ?_
    | refine q_b rfl ?_
    | refine wG_nil ?_
    | refine wG_g rfl ?_
    | refine wG_pure (o_len_vwm rfl) ?_
    | refine wG_pure (o_not_d rfl) ?_
    | refine wG_p rfl (by first | exact rfl | omega) ?_
    | refine wG_pure (o_str2 rfl rfl rfl) ?_
    | refine wG_pure (e_istr rfl rfl (by omega)) ?_
    | refine wG_pure (e_istr0 rfl rfl (by omega)) ?_
    | refine wG_pure (o_not rfl) ?_
    | refine wG_pure (e_ia_vw0 rfl rfl (by omega) rfl) ?_
    | refine wG_pure (e_ia_vwp rfl rfl (by omega) rfl) ?_
    | refine wG_pure (e_ia_vwm rfl rfl (by omega) (by omega) rfl) ?_
    | refine wG_pure (e_ia_vwi rfl rfl (by omega) rfl) ?_
    | refine wG_pure (e_ia_vwn rfl rfl (by omega) (by omega) rfl) ?_
    | refine wG_n rfl rfl ?_
    | refine wG_u rfl rfl ?_
    | refine wG_new (o_mks rfl rfl (by omega) (by decide)) ?_))
        simp only [d2]
        repeat (first | refine wG_pure (u_shr (n := 32) rfl rfl (by omega)) ?_ | refine wG_pure (u_shr (n := 16) rfl rfl (by omega)) ?_ | refine wG_pure (u_shr (n := 8) rfl rfl (by omega)) ?_ | refine wG_pure (u_cv8 rfl (by omega)) ?_ | refine wG_pure (e_istr (s := lenT) rfl rfl (by rw [lenT_size]; omega)) ?_ | refine wG_pure (u_cvl rfl hw) ?_ | refine wG_pure (u_addbl rfl rfl hw (by omega)) ?_ | (first
    | refine wC_a rfl ?_
    | refine q_s rfl ?_
    | refine q_b rfl ?_
    | refine wG_nil ?_
    | refine wG_g rfl ?_
    | refine wG_pure (o_len_vwm rfl) ?_
    | refine wG_pure (o_not_d rfl) ?_
    | refine wG_p rfl (by first | exact rfl | omega) ?_
    | refine wG_pure (o_str2 rfl rfl rfl) ?_
    | refine wG_pure (e_istr rfl rfl (by omega)) ?_
    | refine wG_pure (e_istr0 rfl rfl (by omega)) ?_
    | refine wG_pure (o_not rfl) ?_
    | refine wG_pure (e_ia_vw0 rfl rfl (by omega) rfl) ?_
    | refine wG_pure (e_ia_vwp rfl rfl (by omega) rfl) ?_
    | refine wG_pure (e_ia_vwm rfl rfl (by omega) (by omega) rfl) ?_
    | refine wG_pure (e_ia_vwi rfl rfl (by omega) rfl) ?_
    | refine wG_pure (e_ia_vwn rfl rfl (by omega) (by omega) rfl) ?_
    | refine wG_n rfl rfl ?_
    | refine wG_u rfl rfl ?_
    | refine wG_new (o_mks rfl rfl (by omega) (by decide)) ?_))
        simp only [d3]
        repeat (first | refine wG_pure (u_shr (n := 32) rfl rfl (by omega)) ?_ | refine wG_pure (u_shr (n := 16) rfl rfl (by omega)) ?_ | refine wG_pure (u_shr (n := 8) rfl rfl (by omega)) ?_ | refine wG_pure (u_cv8 rfl (by omega)) ?_ | refine wG_pure (e_istr (s := lenT) rfl rfl (by rw [lenT_size]; omega)) ?_ | refine wG_pure (u_cvl rfl hw) ?_ | refine wG_pure (u_addbl rfl rfl hw (by omega)) ?_ | (first
    | refine wC_a rfl ?_
    | refine q_s rfl ?_
    | refine q_b rfl ?_
    | refine wG_nil ?_
    | refine wG_g rfl ?_
    | refine wG_pure (o_len_vwm rfl) ?_
    | refine wG_pure (o_not_d rfl) ?_
    | refine wG_p rfl (by first | exact rfl | omega) ?_
    | refine wG_pure (o_str2 rfl rfl rfl) ?_
    | refine wG_pure (e_istr rfl rfl (by omega)) ?_
    | refine wG_pure (e_istr0 rfl rfl (by omega)) ?_
    | refine wG_pure (o_not rfl) ?_
    | refine wG_pure (e_ia_vw0 rfl rfl (by omega) rfl) ?_
    | refine wG_pure (e_ia_vwp rfl rfl (by omega) rfl) ?_
    | refine wG_pure (e_ia_vwm rfl rfl (by omega) (by omega) rfl) ?_
    | refine wG_pure (e_ia_vwi rfl rfl (by omega) rfl) ?_
    | refine wG_pure (e_ia_vwn rfl rfl (by omega) (by omega) rfl) ?_
    | refine wG_n rfl rfl ?_
    | refine wG_u rfl rfl ?_
    | refine wG_new (o_mks rfl rfl (by omega) (by decide)) ?_))
        exact ret_intE (.inr rfl) ⟨_, retV_mv rfl, by omega⟩
    · have d2 : decide (((v : Nat) : Int) ≥ 65536) = false := decide_eq_false (by omega)
      by_cases n3 : v ≥ 256
      · have d3 : decide (((v : Nat) : Int) ≥ 256) = true := decide_eq_true (by omega)
        have hw : v / 2 ^ 8 < 256 := by omega
        have hL : lenC v = 0 + 8 + bl (v / 2 ^ 8) := by simp only [lenC, s3, s2, s1, n1, n2, n3, if_true, if_false]
        rw [hL]
        repeat (first | refine wG_pure (u_shr (n := 32) rfl rfl (by omega)) ?_ | refine wG_pure (u_shr (n := 16) rfl rfl (by omega)) ?_ | refine wG_pure (u_shr (n := 8) rfl rfl (by omega)) ?_ | refine wG_pure (u_cv8 rfl (by omega)) ?_ | refine wG_pure (e_istr (s := lenT) rfl rfl (by rw [lenT_size]; omega)) ?_ | refine wG_pure (u_cvl rfl hw) ?_ | refine wG_pure (u_addbl rfl rfl hw (by omega)) ?_ | (first
    | refine wC_a rfl ?_
    | refine q_s rfl ?_
    | refine q_b rfl ?_
    | refine wG_nil ?_
    | refine wG_g rfl ?_
    | refine wG_pure (o_len_vwm rfl) ?_
    | refine wG_pure (o_not_d rfl) ?_
    | refine wG_p rfl (by first | exact rfl | omega) ?_
    | refine wG_pure (o_str2 rfl rfl rfl) ?_
    | refine wG_pure (e_istr rfl rfl (by omega)) ?_
    | refine wG_pure (e_istr0 rfl rfl (by omega)) ?_
    | refine wG_pure (o_not rfl) ?_
    | refine wG_pure (e_ia_vw0 rfl rfl (by omega) rfl) ?_
    | refine wG_pure (e_ia_vwp rfl rfl (by omega) rfl) ?_
    | refine wG_pure (e_ia_vwm rfl rfl (by omega) (by omega) rfl) ?_
    | refine wG_pure (e_ia_vwi rfl rfl (by omega) rfl) ?_
    | refine wG_pure (e_ia_vwn rfl rfl (by omega) (by omega) rfl) ?_
    | refine wG_n rfl rfl ?_
    | refine wG_u rfl rfl ?_
    | refine wG_new (o_mks rfl rfl (by omega) (by decide)) ?_))
        simp only [d1]
        repeat (first | refine wG_pure (u_shr (n := 32) rfl rfl (by omega)) ?_ | refine wG_pure (u_shr (n := 16) rfl rfl (by omega)) ?_ | refine wG_pure (u_shr (n := 8) rfl rfl (by omega)) ?_ | refine wG_pure (u_cv8 rfl (by omega)) ?_ | refine wG_pure (e_istr (s := lenT) rfl rfl (by rw [lenT_size]; omega)) ?_ | refine wG_pure (u_cvl rfl hw) ?_ | refine wG_pure (u_addbl rfl rfl hw (by omega)) ?_ | (first
    | refine wC_a rfl ?_
    | refine q_s rfl ?_
    | refine q_b rfl ?_
    | refine wG_nil ?_
    | refine wG_g rfl ?_
    | refine wG_pure (o_len_vwm rfl) ?_
    | refine wG_pure (o_not_d rfl) ?_
    | refine wG_p rfl (by first | exact rfl | omega) ?_
    | refine wG_pure (o_str2 rfl rfl rfl) ?_
    | refine wG_pure (e_istr rfl rfl (by omega)) ?_
    | refine wG_pure (e_istr0 rfl rfl (by omega)) ?_
    | refine wG_pure (o_not rfl) ?_
    | refine wG_pure (e_ia_vw0 rfl rfl (by omega) rfl) ?_
    | refine wG_pure (e_ia_vwp rfl rfl (by omega) rfl) ?_
    | refine wG_pure (e_ia_vwm rfl rfl (by omega) (by omega) rfl) ?_
    | refine wG_pure (e_ia_vwi rfl rfl (by omega) rfl) ?_
    | refine wG_pure (e_ia_vwn rfl rfl (by omega) (by omega) rfl) ?_
    | refine wG_n rfl rfl ?_
    | refine wG_u rfl rfl ?_
    | refine wG_new (o_mks rfl rfl (by omega) (by decide)) ?_))
        simp only [d2]
        repeat (first | refine wG_pure (u_shr (n := 32) rfl rfl (by omega)) ?_ | refine wG_pure (u_shr (n := 16) rfl rfl (by omega)) ?_ | refine wG_pure (u_shr (n := 8) rfl rfl (by omega)) ?_ | refine wG_pure (u_cv8 rfl (by omega)) ?_ | refine wG_pure (e_istr (s := lenT) rfl rfl (by rw [lenT_size]; omega)) ?_ | refine wG_pure (u_cvl rfl hw) ?_ | refine wG_pure (u_addbl rfl rfl hw (by omega)) ?_ | (first
    | refine wC_a rfl ?_
    | refine q_s rfl ?_
    | refine q_b rfl ?_
    | refine wG_nil ?_
    | refine wG_g rfl ?_
    | refine wG_pure (o_len_vwm rfl) ?_
    | refine wG_pure (o_not_d rfl) ?_
    | refine wG_p rfl (by first | exact rfl | omega) ?_
    | refine wG_pure (o_str2 rfl rfl rfl) ?_
    | refine wG_pure (e_istr rfl rfl (by omega)) ?_
    | refine wG_pure (e_istr0 rfl rfl (by omega)) ?_
    | refine wG_pure (o_not rfl) ?_
    | refine wG_pure (e_ia_vw0 rfl rfl (by omega) rfl) ?_
    | refine wG_pure (e_ia_vwp rfl rfl (by omega) rfl) ?_
    | refine wG_pure (e_ia_vwm rfl rfl (by omega) (by omega) rfl) ?_
    | refine wG_pure (e_ia_vwi rfl rfl (by omega) rfl) ?_
    | refine wG_pure (e_ia_vwn rfl rfl (by omega) (by omega) rfl) ?_
    | refine wG_n rfl rfl ?_
    | refine wG_u rfl rfl ?_
    | refine wG_new (o_mks rfl rfl (by omega) (by decide)) ?_))
        simp only [d3]
        repeat (first | refine wG_pure (u_shr (n := 32) rfl rfl (by omega)) ?_ | refine wG_pure (u_shr (n := 16) rfl rfl (by omega)) ?_ | refine wG_pure (u_shr (n := 8) rfl rfl (by omega)) ?_ | refine wG_pure (u_cv8 rfl (by omega)) ?_ | refine wG_pure (e_istr (s := lenT) rfl rfl (by rw [lenT_size]; omega)) ?_ | refine wG_pure (u_cvl rfl hw) ?_ | refine wG_pure (u_addbl rfl rfl hw (by omega)) ?_ | (first
    | refine wC_a rfl ?_
    | refine q_s rfl ?_
    | refine q_b rfl ?_
    | refine wG_nil ?_
    | refine wG_g rfl ?_
    | refine wG_pure (o_len_vwm rfl) ?_
    | refine wG_pure (o_not_d rfl) ?_
    | refine wG_p rfl (by first | exact rfl | omega) ?_
    | refine wG_pure (o_str2 rfl rfl rfl) ?_
    | refine wG_pure (e_istr rfl rfl (by omega)) ?_
    | refine wG_pure (e_istr0 rfl rfl (by omega)) ?_
    | refine wG_pure (o_not rfl) ?_
    | refine wG_pure (e_ia_vw0 rfl rfl (by omega) rfl) ?_
    | refine wG_pure (e_ia_vwp rfl rfl (by omega) rfl) ?_
    | refine wG_pure (e_ia_vwm rfl rfl (by omega) (by omega) rfl) ?_
    | refine wG_pure (e_ia_vwi rfl rfl (by omega) rfl) ?_
    | refine wG_pure (e_ia_vwn rfl rfl (by omega) (by omega) rfl) ?_
    | refine wG_n rfl rfl ?_
    | refine wG_u rfl rfl ?_
    | refine wG_new (o_mks rfl rfl (by omega) (by decide)) ?_))
        exact ret_intE (.inr rfl) ⟨_, retV_mv rfl, by omega⟩
      · have d3 : decide (((v : Nat) : Int) ≥ 256) = false := decide_eq_false (by omega)
        have hw : v < 256 := by omega
        have hL : lenC v = 0 + bl (v) := by simp only [lenC, s3, s2, s1, n1, n2, n3, if_true, if_false]
        rw [hL]
        repeat (first | refine wG_pure (u_shr (n := 32) rfl rfl (by omega)) ?_ | refine wG_pure (u_shr (n := 16) rfl rfl (by omega)) ?_ | refine wG_pure (u_shr (n := 8) rfl rfl (by omega)) ?_ | refine wG_pure (u_cv8 rfl (by omega)) ?_ | refine wG_pure (e_istr (s := lenT) rfl rfl (by rw [lenT_size]; omega)) ?_ | refine wG_pure (u_cvl rfl hw) ?_ | refine wG_pure (u_addbl rfl rfl hw (by omega)) ?_ | (first
    | refine wC_a rfl ?_
    | refine q_s rfl ?_
    | refine q_b rfl ?_
    | refine wG_nil ?_
    | refine wG_g rfl ?_
    | refine wG_pure (o_len_vwm rfl) ?_
    | refine wG_pure (o_not_d rfl) ?_
    | refine wG_p rfl (by first | exact rfl | omega) ?_
    | refine wG_pure (o_str2 rfl rfl rfl) ?_
    | refine wG_pure (e_istr rfl rfl (by omega)) ?_
    | refine wG_pure (e_istr0 rfl rfl (by omega)) ?_
    | refine wG_pure (o_not rfl) ?_
    | refine wG_pure (e_ia_vw0 rfl rfl (by omega) rfl) ?_
    | refine wG_pure (e_ia_vwp rfl rfl (by omega) rfl) ?_
    | refine wG_pure (e_ia_vwm rfl rfl (by omega) (by omega) rfl) ?_
    | refine wG_pure (e_ia_vwi rfl rfl (by omega) rfl) ?_
    | refine wG_pure (e_ia_vwn rfl rfl (by omega) (by omega) rfl) ?_
    | refine wG_n rfl rfl ?_
    | refine wG_u rfl rfl ?_
    | refine wG_new (o_mks rfl rfl (by omega) (by decide)) ?_))
        simp only [d1]
        repeat (first | refine wG_pure (u_shr (n := 32) rfl rfl (by omega)) ?_ | refine wG_pure (u_shr (n := 16) rfl rfl (by omega)) ?_ | refine wG_pure (u_shr (n := 8) rfl rfl (by omega)) ?_ | refine wG_pure (u_cv8 rfl (by omega)) ?_ | refine wG_pure (e_istr (s := lenT) rfl rfl (by rw [lenT_size]; omega)) ?_ | refine wG_pure (u_cvl rfl hw) ?_ | refine wG_pure (u_addbl rfl rfl hw (by omega)) ?_ | (first
    | refine wC_a rfl ?_
    | refine q_s rfl ?_
    | refine q_b rfl ?_
    | refine wG_nil ?_
    | refine wG_g rfl ?_
    | refine wG_pure (o_len_vwm rfl) ?_
    | refine wG_pure (o_not_d rfl) ?_
    | refine wG_p rfl (by first | exact rfl | omega) ?_
    | refine wG_pure (o_str2 rfl rfl rfl) ?_
    | refine wG_pure (e_istr rfl rfl (by omega)) ?_
    | refine wG_pure (e_istr0 rfl rfl (by omega)) ?_
    | refine wG_pure (o_not rfl) ?_
    | refine wG_pure (e_ia_vw0 rfl rfl (by omega) rfl) ?_
    | refine wG_pure (e_ia_vwp rfl rfl (by omega) rfl) ?_
    | refine wG_pure (e_ia_vwm rfl rfl (by omega) (by omega) rfl) ?_
    | refine wG_pure (e_ia_vwi rfl rfl (by omega) rfl) ?_
    | refine wG_pure (e_ia_vwn rfl rfl (by omega) (by omega) rfl) ?_
    | refine wG_n rfl rfl ?_
    | refine wG_u rfl rfl ?_
    | refine wG_new (o_mks rfl rfl (by omega) (by decide)) ?_))
        simp only [d2]
        repeat (first | refine wG_pure (u_shr (n := 32) rfl rfl (by omega)) ?_ | refine wG_pure (u_shr (n := 16) rfl rfl (by omega)) ?_ | refine wG_pure (u_shr (n := 8) rfl rfl (by omega)) ?_ | refine wG_pure (u_cv8 rfl (by omega)) ?_ | refine wG_pure (e_istr (s := lenT) rfl rfl (by rw [lenT_size]; omega)) ?_ | refine wG_pure (u_cvl rfl hw) ?_ | refine wG_pure (u_addbl rfl rfl hw (by omega)) ?_ | (first
    | refine wC_a rfl ?_
    | refine q_s rfl ?_
    | refine q_b rfl ?_
    | refine wG_nil ?_
    | refine wG_g rfl ?_
    | refine wG_pure (o_len_vwm rfl) ?_
    | refine wG_pure (o_not_d rfl) ?_
    | refine wG_p rfl (by first | exact rfl | omega) ?_
    | refine wG_pure (o_str2 rfl rfl rfl) ?_
    | refine wG_pure (e_istr rfl rfl (by omega)) ?_
    | refine wG_pure (e_istr0 rfl rfl (by omega)) ?_
    | refine wG_pure (o_not rfl) ?_
    | refine wG_pure (e_ia_vw0 rfl rfl (by omega) rfl) ?_
    | refine wG_pure (e_ia_vwp rfl rfl (by omega) rfl) ?_
    | refine wG_pure (e_ia_vwm rfl rfl (by omega) (by omega) rfl) ?_
    | refine wG_pure (e_ia_vwi rfl rfl (by omega) rfl) ?_
    | refine wG_pure (e_ia_vwn rfl rfl (by omega) (by omega) rfl) ?_
    | refine wG_n rfl rfl ?_
    | refine wG_u rfl rfl ?_
    | refine wG_new (o_mks rfl rfl (by omega) (by decide)) ?_))
        simp only [d3]
        repeat (first | refine wG_pure (u_shr (n := 32) rfl rfl (by omega)) ?_ | refine wG_pure (u_shr (n := 16) rfl rfl (by omega)) ?_ | refine wG_pure (u_shr (n := 8) rfl rfl (by omega)) ?_ | refine wG_pure (u_cv8 rfl (by omega)) ?_ | refine wG_pure (e_istr (s := lenT) rfl rfl (by rw [lenT_size]; omega)) ?_ | refine wG_pure (u_cvl rfl hw) ?_ | refine wG_pure (u_addbl rfl rfl hw (by omega)) ?_ | (first
    | refine wC_a rfl ?_
    | refine q_s rfl ?_
    | refine q_b rfl ?_
    | refine wG_nil ?_
    | refine wG_g rfl ?_
    | refine wG_pure (o_len_vwm rfl) ?_
    | refine wG_pure (o_not_d rfl) ?_
    | refine wG_p rfl (by first | exact rfl | omega) ?_
    | refine wG_pure (o_str2 rfl rfl rfl) ?_
    | refine wG_pure (e_istr rfl rfl (by omega)) ?_
    | refine wG_pure (e_istr0 rfl rfl (by omega)) ?_
    | refine wG_pure (o_not rfl) ?_
    | refine wG_pure (e_ia_vw0 rfl rfl (by omega) rfl) ?_
    | refine wG_pure (e_ia_vwp rfl rfl (by omega) rfl) ?_
    | refine wG_pure (e_ia_vwm rfl rfl (by omega) (by omega) rfl) ?_
    | refine wG_pure (e_ia_vwi rfl rfl (by omega) rfl) ?_
    | refine wG_pure (e_ia_vwn rfl rfl (by omega) (by omega) rfl) ?_
    | refine wG_n rfl rfl ?_
    | refine wG_u rfl rfl ?_
    | refine wG_new (o_mks rfl rfl (by omega) (by decide)) ?_))
        exact ret_intE (.inr rfl) ⟨_, retV_mv rfl, by omega⟩
end Go.Proofs.Ytnohaclnpbpjbaa.Und
namespace Go.Proofs.Ytnohaclnpbpjbaa.Und
open Go Go.Proofs.Ytnohaclnpbpjbaa.Ab Go.Proofs.Ytnohaclnpbpjbaa.Il
attribute [local irreducible] wpO wpC wpDr wpQ wpG wpE stepA seqQ blkQ Ret ev
set_option maxRecDepth 10000
set_option maxHeartbeats 8000000
set_option linter.unusedSimpArgs false
set_option linter.unusedVariables false
theorem bl_spec {n : Nat} (h : 0 < n) : 1 ≤ bl n ∧ n < 2 ^ bl n ∧ 2 ^ (bl n - 1) ≤ n := by
  unfold bl
  rw [if_neg (by omega)]
  exact ⟨by omega, Nat.lt_log2_self, by rw [Nat.add_sub_cancel]; exact Nat.log2_self_le (by omega)⟩
theorem s_inv {v : Nat} (h : 0 < v) : ((s1 v).2 = v / 2 ^ (s1 v).1 ∧ 0 < (s1 v).2) ∧ ((s2 v).2 = v / 2 ^ (s2 v).1 ∧ 0 < (s2 v).2) ∧ (s3 v).2 = v / 2 ^ (s3 v).1 ∧ 0 < (s3 v).2 := by
  have a : (s1 v).2 = v / 2 ^ (s1 v).1 ∧ 0 < (s1 v).2 := by
    unfold s1; split
    · exact ⟨rfl, by show 0 < v / 2 ^ 32; omega⟩
    · exact ⟨by simp, h⟩
  have b : (s2 v).2 = v / 2 ^ (s2 v).1 ∧ 0 < (s2 v).2 := by
    unfold s2; split
    · refine ⟨?_, by show 0 < (s1 v).2 / 2 ^ 16; omega⟩
      show (s1 v).2 / 2 ^ 16 = v / 2 ^ ((s1 v).1 + 16)
      rw [a.1, Nat.div_div_eq_div_mul, Nat.pow_add]
    · exact a
  refine ⟨a, b, ?_⟩
  unfold s3; split
  · refine ⟨?_, by show 0 < (s2 v).2 / 2 ^ 8; omega⟩
    show (s2 v).2 / 2 ^ 8 = v / 2 ^ ((s2 v).1 + 8)
    rw [b.1, Nat.div_div_eq_div_mul, Nat.pow_add]
  · exact b
theorem lenC_spec {v : Nat} (h : 0 < v) (hv : v < 18446744073709551616) : 1 ≤ lenC v ∧ lenC v ≤ 64 ∧ v < 2 ^ lenC v ∧ 2 ^ (lenC v - 1) ≤ v := by
  obtain ⟨_, _, e, hp⟩ := s_inv h
  obtain ⟨_, _, c1, c2⟩ := st_b hv
  obtain ⟨b1, b2, b3⟩ := bl_spec hp
  have b4 := bl_le c2
  unfold lenC
  generalize (s3 v).1 = c at *
  generalize (s3 v).2 = w at *
  refine ⟨by omega, by omega, ?_, ?_⟩
  · have b5 : v / 2 ^ c < 2 ^ bl w := by rw [← e]; exact b2
    rw [Nat.div_lt_iff_lt_mul (Nat.pow_pos (by decide))] at b5
    rw [Nat.add_comm, Nat.pow_add]
    exact b5
  · have b5 : 2 ^ (bl w - 1) ≤ v / 2 ^ c := by rw [← e]; exact b3
    rw [Nat.le_div_iff_mul_le (Nat.pow_pos (by decide)), ← Nat.pow_add] at b5
    rwa [show c + bl w - 1 = bl w - 1 + c by omega]
theorem con97 (v : Nat) (h : 0 < v) (hv : v < 18446744073709551616) : ∃ s : Nat, s ≤ 63 ∧ 9223372036854775808 ≤ v * 2 ^ s ∧ v * 2 ^ s < 18446744073709551616 ∧ Con Try.prog 97 true [.int .u64 (v : Int)] (.int .i64 (s : Int)) [] := by
  obtain ⟨l1, l2, l3, l4⟩ := lenC_spec h hv
  refine ⟨64 - lenC v, by omega, ?_, ?_, ?_⟩
  · have : 2 ^ (lenC v - 1) * 2 ^ (64 - lenC v) = 9223372036854775808 := by
      rw [← Nat.pow_add, show lenC v - 1 + (64 - lenC v) = 63 by omega]
    rw [← this]
    exact Nat.mul_le_mul_right _ l4
  · have : 2 ^ lenC v * 2 ^ (64 - lenC v) = 18446744073709551616 := by
      rw [← Nat.pow_add, show lenC v + (64 - lenC v) = 64 by omega]
    rw [← this]
    exact Nat.mul_lt_mul_of_pos_right l3 (Nat.pow_pos (by decide))
  · refine con_of_wp mixed fun97 (by simp) [] plain_nil ?_
    unfold ac97 ro97
    simp only [zipT]
    have c := con104 v hv
    repeat (first | refine wG_call c rfl rfl ?_ | (first
    | refine wC_a rfl ?_
    | refine q_s rfl ?_
    | refine q_b rfl ?_
    | refine wG_nil ?_
    | refine wG_g rfl ?_
    | refine wG_pure (o_len_vwm rfl) ?_
    | refine wG_pure (o_not_d rfl) ?_
    | refine wG_p rfl (by first | exact rfl | omega) ?_
    | refine wG_pure (o_str2 rfl rfl rfl) ?_
    | refine wG_pure (e_istr rfl rfl (by omega)) ?_
    | refine wG_pure (e_istr0 rfl rfl (by omega)) ?_
    | refine wG_pure (o_not rfl) ?_
    | refine wG_pure (e_ia_vw0 rfl rfl (by omega) rfl) ?_
    | refine wG_pure (e_ia_vwp rfl rfl (by omega) rfl) ?_
    | refine wG_pure (e_ia_vwm rfl rfl (by omega) (by omega) rfl) ?_
    | refine wG_pure (e_ia_vwi rfl rfl (by omega) rfl) ?_
    | refine wG_pure (e_ia_vwn rfl rfl (by omega) (by omega) rfl) ?_
    | refine wG_n rfl rfl ?_
    | refine wG_u rfl rfl ?_
    | refine wG_new (o_mks rfl rfl (by omega) (by decide)) ?_))
    exact ret_intE (.inr rfl) ⟨_, retV_mv rfl, by omega⟩
end Go.Proofs.Ytnohaclnpbpjbaa.Und
namespace Go.Proofs.Ytnohaclnpbpjbaa.Und
open Go Go.Proofs.Ytnohaclnpbpjbaa.Ab Go.Proofs.Ytnohaclnpbpjbaa.Il
set_option maxRecDepth 10000
set_option maxHeartbeats 8000000
set_option linter.unusedSimpArgs false
set_option linter.unusedVariables false
section
variable {T : Nat → AV} {H : Nat → Option Ab.Rows} {nr : Nat} {x y : AX}
theorem u_shlx {k : IntKind} {m n : Nat} (h1 : gT T x = .int .u64 (m : Int)) (h2 : gT T y = .int k (n : Int)) (hn : n ≤ 64) (hb : m * 2 ^ n < 18446744073709551616) : Ab.ev (gT T) H nr (.bin .shl x y) = some (.int .u64 ((m * 2 ^ n : Nat) : Int), [], 0) := by
  rw [u_shl h1 h2 hn, Nat.mod_eq_of_lt hb]
theorem u_or {a b s : Nat} (h1 : gT T x = .int .u64 ((a * 2 ^ s : Nat) : Int)) (h2 : gT T y = .int .u64 (b : Int)) (hb : b < 2 ^ s) (hs : a * 2 ^ s + b < 18446744073709551616) : Ab.ev (gT T) H nr (.bin .or x y) = some (.int .u64 ((a * 2 ^ s + b : Nat) : Int), [], 0) := by
  have e : (BitVec.ofInt (IntKind.bits .u64) ((a * 2 ^ s : Nat) : Int) ||| BitVec.ofInt (IntKind.bits .u64) (b : Int)).toNat = a * 2 ^ s + b := by
    show (BitVec.ofInt 64 ((a * 2 ^ s : Nat) : Int) ||| BitVec.ofInt 64 (b : Int)).toNat = _
    rw [BitVec.toNat_or, ofU _ (by omega), ofU _ (by omega), ← Nat.shiftLeft_eq]
    exact (Nat.shiftLeft_add_eq_or_of_lt hb a).symm
  simp only [Ab.ev, h1, h2, binI, if_true, Option.bind_some, pureR, e]
  generalize a * 2 ^ s + b = q at hs
  rw [u_in (by omega) (by omega)]
end
section
variable {v1 v0 u un q r : Nat}
theorem dig_dn2 (hv : 2147483648 ≤ v1) (h0 : v0 < 4294967296) (hu : u < v1 * 4294967296 + v0) (hn : un < 4294967296) (hq : q * v1 + r = u) (hle : (u * 4294967296 + un) / (v1 * 4294967296 + v0) ≤ q) (hs : q ≥ 4294967296 ∨ q * v0 > 4294967296 * r + un) : 1 ≤ q ∧ (u * 4294967296 + un) / (v1 * 4294967296 + v0) ≤ q - 1 ∧ (q - 1) * v1 + (r + v1) = u := by
  have hq1 : 1 ≤ q := by
    rcases hs with h | h
    · omega
    · cases q with
      | zero => rw [Nat.zero_mul] at h; omega
      | succ q => omega
  refine ⟨hq1, ?_, ?_⟩
  · rcases hs with h | h
    · have := dig_small (v := v1 * 4294967296 + v0) (u := u) (un := un) hu hn
      omega
    · exact dig_dn hv h0 hq h
  · obtain ⟨p, rfl⟩ : ∃ p, q = p + 1 := ⟨q - 1, by omega⟩
    rw [Nat.add_mul, Nat.one_mul] at hq
    rw [Nat.add_sub_cancel]; omega
theorem dig_end (hv : 2147483648 ≤ v1) (h1 : v1 < 4294967296) (h0 : v0 < 4294967296) (hu : u < v1 * 4294967296 + v0) (hn : un < 4294967296) (hq : q * v1 + r = u) (hle : (u * 4294967296 + un) / (v1 * 4294967296 + v0) ≤ q) (hb : q ≤ 4294967296) (hr : 4294967296 ≤ r) : q = (u * 4294967296 + un) / (v1 * 4294967296 + v0) := by
  refine dig_ok hv h1 h0 hu hn hq hle ?_
  have a : q * v0 ≤ 4294967296 * v0 := Nat.mul_le_mul_right _ hb
  omega
end
end Go.Proofs.Ytnohaclnpbpjbaa.Und
