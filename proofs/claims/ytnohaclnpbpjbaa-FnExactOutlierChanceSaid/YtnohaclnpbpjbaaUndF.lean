/- Division of two digits by one. -/
import Derived.Test.YtnohaclnpbpjbaaUndM
namespace Go.Proofs.Ytnohaclnpbpjbaa.Und
open Go Go.Proofs.Ytnohaclnpbpjbaa.Ab Go.Proofs.Ytnohaclnpbpjbaa.Il
attribute [local irreducible] wpO wpC wpDr wpQ wpG wpE stepA seqQ blkQ Ret ev
set_option maxRecDepth 10000
set_option maxHeartbeats 8000000
set_option linter.unusedSimpArgs false
set_option linter.unusedVariables false

def ac72 : AC := (.seq (.reg [⟨(some 6), none, (.mv (.c (.int .u64 0)))⟩, ⟨(some 7), none, (.mv (.c (.int .u64 0)))⟩]) (.seq (.seq (.reg [⟨(some 19), none, (.mv (.t 2))⟩, ⟨(some 20), none, (.bin .eql (.t 19) (.c (.int .u64 0)))⟩]) (.cond (.t 20) (.cond (.c .undef) .skip .skip) .skip)) (.seq (.seq (.reg [⟨(some 22), none, (.mv (.t 2))⟩, ⟨(some 23), none, (.mv (.t 0))⟩, ⟨(some 24), none, (.bin .leq (.t 22) (.t 23))⟩]) (.cond (.t 24) (.cond (.c .undef) .skip .skip) .skip)) (.seq (.seq (.reg [⟨(some 26), none, (.mv (.t 0))⟩, ⟨(some 27), none, (.bin .eql (.t 26) (.c (.int .u64 0)))⟩]) (.cond (.t 27) (.seq (.dreg [⟨(some 28), none, (.mv (.t 1))⟩, ⟨(some 29), none, (.mv (.t 2))⟩, ⟨(some 30), none, (.bin .quo (.t 28) (.t 29))⟩, ⟨(some 31), none, (.mv (.t 1))⟩, ⟨(some 32), none, (.mv (.t 2))⟩, ⟨(some 33), none, (.bin .rem (.t 31) (.t 32))⟩, ⟨(some 6), none, (.mv (.t 30))⟩, ⟨(some 7), none, (.mv (.t 33))⟩] [[], [], [0, 1], [], [], [3, 4], [0, 1, 2], [0, 1, 2, 3, 4, 5, 6]]) .ret) .skip)) (.seq (.reg [⟨(some 34), none, (.mv (.t 2))⟩, ⟨(some 35), none, (.call 97 [(.t 34)])⟩, ⟨(some 36), none, (.cv .u64 (.t 35))⟩, ⟨(some 8), none, (.mv (.t 36))⟩]) (.seq (.reg [⟨(some 37), none, (.mv (.t 2))⟩, ⟨(some 38), none, (.mv (.t 8))⟩, ⟨(some 39), none, (.bin .shl (.t 37) (.t 38))⟩, ⟨(some 2), none, (.mv (.t 39))⟩]) (.seq (.reg [⟨(some 40), none, (.mv (.t 2))⟩, ⟨(some 41), none, (.bin .shr (.t 40) (.c (.int .u64 32)))⟩, ⟨(some 9), none, (.mv (.t 41))⟩]) (.seq (.reg [⟨(some 42), none, (.mv (.t 2))⟩, ⟨(some 43), none, (.bin .and (.t 42) (.c (.int .u64 4294967295)))⟩, ⟨(some 10), none, (.mv (.t 43))⟩]) (.seq (.reg [⟨(some 44), none, (.mv (.t 0))⟩, ⟨(some 45), none, (.mv (.t 8))⟩, ⟨(some 46), none, (.bin .shl (.t 44) (.t 45))⟩, ⟨(some 47), none, (.mv (.t 1))⟩, ⟨(some 48), none, (.mv (.t 8))⟩, ⟨(some 49), none, (.bin .sub (.c (.int .u64 64)) (.t 48))⟩, ⟨(some 50), none, (.bin .shr (.t 47) (.t 49))⟩, ⟨(some 51), none, (.bin .or (.t 46) (.t 50))⟩, ⟨(some 11), none, (.mv (.t 51))⟩]) (.seq (.reg [⟨(some 52), none, (.mv (.t 1))⟩, ⟨(some 53), none, (.mv (.t 8))⟩, ⟨(some 54), none, (.bin .shl (.t 52) (.t 53))⟩, ⟨(some 12), none, (.mv (.t 54))⟩]) (.seq (.reg [⟨(some 55), none, (.mv (.t 12))⟩, ⟨(some 56), none, (.bin .shr (.t 55) (.c (.int .u64 32)))⟩, ⟨(some 13), none, (.mv (.t 56))⟩]) (.seq (.reg [⟨(some 57), none, (.mv (.t 12))⟩, ⟨(some 58), none, (.bin .and (.t 57) (.c (.int .u64 4294967295)))⟩, ⟨(some 14), none, (.mv (.t 58))⟩]) (.seq (.reg [⟨(some 59), none, (.mv (.t 11))⟩, ⟨(some 60), none, (.mv (.t 9))⟩, ⟨(some 61), none, (.bin .quo (.t 59) (.t 60))⟩, ⟨(some 15), none, (.mv (.t 61))⟩]) (.seq (.reg [⟨(some 62), none, (.mv (.t 11))⟩, ⟨(some 63), none, (.mv (.t 15))⟩, ⟨(some 64), none, (.mv (.t 9))⟩, ⟨(some 65), none, (.bin .mul (.t 63) (.t 64))⟩, ⟨(some 66), none, (.bin .sub (.t 62) (.t 65))⟩, ⟨(some 16), none, (.mv (.t 66))⟩]) (.seq (.blk 0 (.loop (.seq (.seq (.reg [⟨(some 67), none, (.mv (.t 15))⟩, ⟨(some 68), none, (.bin .geq (.t 67) (.c (.int .u64 4294967296)))⟩, ⟨(some 69), none, (.mv (.t 68))⟩, ⟨(some 70), (some (69, false)), (.mv (.t 15))⟩, ⟨(some 71), (some (69, false)), (.mv (.t 10))⟩, ⟨(some 72), (some (69, false)), (.bin .mul (.t 70) (.t 71))⟩, ⟨(some 73), (some (69, false)), (.mv (.t 16))⟩, ⟨(some 74), (some (69, false)), (.bin .mul (.c (.int .u64 4294967296)) (.t 73))⟩, ⟨(some 75), (some (69, false)), (.mv (.t 13))⟩, ⟨(some 76), (some (69, false)), (.bin .add (.t 74) (.t 75))⟩, ⟨(some 77), (some (69, false)), (.bin .gtr (.t 72) (.t 76))⟩, ⟨(some 78), none, (.pick (.t 69) (.c (.bool true)) (.t 77))⟩]) (.cond (.t 78) .skip (.exit 0))) (.blk 1 (.seq (.reg [⟨(some 79), none, (.mv (.t 15))⟩, ⟨(some 80), none, (.bin .sub (.t 79) (.c (.int .u64 1)))⟩, ⟨(some 15), none, (.mv (.t 80))⟩]) (.seq (.reg [⟨(some 81), none, (.mv (.t 16))⟩, ⟨(some 82), none, (.mv (.t 9))⟩, ⟨(some 83), none, (.bin .add (.t 81) (.t 82))⟩, ⟨(some 16), none, (.mv (.t 83))⟩]) (.seq (.reg [⟨(some 84), none, (.mv (.t 16))⟩, ⟨(some 85), none, (.bin .geq (.t 84) (.c (.int .u64 4294967296)))⟩]) (.cond (.t 85) (.exit 0) .skip)))))))) (.seq (.reg [⟨(some 86), none, (.mv (.t 11))⟩, ⟨(some 87), none, (.bin .mul (.t 86) (.c (.int .u64 4294967296)))⟩, ⟨(some 88), none, (.mv (.t 13))⟩, ⟨(some 89), none, (.bin .add (.t 87) (.t 88))⟩, ⟨(some 90), none, (.mv (.t 15))⟩, ⟨(some 91), none, (.mv (.t 2))⟩, ⟨(some 92), none, (.bin .mul (.t 90) (.t 91))⟩, ⟨(some 93), none, (.bin .sub (.t 89) (.t 92))⟩, ⟨(some 17), none, (.mv (.t 93))⟩]) (.seq (.reg [⟨(some 94), none, (.mv (.t 17))⟩, ⟨(some 95), none, (.mv (.t 9))⟩, ⟨(some 96), none, (.bin .quo (.t 94) (.t 95))⟩, ⟨(some 18), none, (.mv (.t 96))⟩]) (.seq (.reg [⟨(some 97), none, (.mv (.t 17))⟩, ⟨(some 98), none, (.mv (.t 18))⟩, ⟨(some 99), none, (.mv (.t 9))⟩, ⟨(some 100), none, (.bin .mul (.t 98) (.t 99))⟩, ⟨(some 101), none, (.bin .sub (.t 97) (.t 100))⟩, ⟨(some 16), none, (.mv (.t 101))⟩]) (.seq (.blk 2 (.loop (.seq (.seq (.reg [⟨(some 102), none, (.mv (.t 18))⟩, ⟨(some 103), none, (.bin .geq (.t 102) (.c (.int .u64 4294967296)))⟩, ⟨(some 104), none, (.mv (.t 103))⟩, ⟨(some 105), (some (104, false)), (.mv (.t 18))⟩, ⟨(some 106), (some (104, false)), (.mv (.t 10))⟩, ⟨(some 107), (some (104, false)), (.bin .mul (.t 105) (.t 106))⟩, ⟨(some 108), (some (104, false)), (.mv (.t 16))⟩, ⟨(some 109), (some (104, false)), (.bin .mul (.c (.int .u64 4294967296)) (.t 108))⟩, ⟨(some 110), (some (104, false)), (.mv (.t 14))⟩, ⟨(some 111), (some (104, false)), (.bin .add (.t 109) (.t 110))⟩, ⟨(some 112), (some (104, false)), (.bin .gtr (.t 107) (.t 111))⟩, ⟨(some 113), none, (.pick (.t 104) (.c (.bool true)) (.t 112))⟩]) (.cond (.t 113) .skip (.exit 2))) (.blk 3 (.seq (.reg [⟨(some 114), none, (.mv (.t 18))⟩, ⟨(some 115), none, (.bin .sub (.t 114) (.c (.int .u64 1)))⟩, ⟨(some 18), none, (.mv (.t 115))⟩]) (.seq (.reg [⟨(some 116), none, (.mv (.t 16))⟩, ⟨(some 117), none, (.mv (.t 9))⟩, ⟨(some 118), none, (.bin .add (.t 116) (.t 117))⟩, ⟨(some 16), none, (.mv (.t 118))⟩]) (.seq (.reg [⟨(some 119), none, (.mv (.t 16))⟩, ⟨(some 120), none, (.bin .geq (.t 119) (.c (.int .u64 4294967296)))⟩]) (.cond (.t 120) (.exit 2) .skip)))))))) (.seq (.reg [⟨(some 121), none, (.mv (.t 15))⟩, ⟨(some 122), none, (.bin .mul (.t 121) (.c (.int .u64 4294967296)))⟩, ⟨(some 123), none, (.mv (.t 18))⟩, ⟨(some 124), none, (.bin .add (.t 122) (.t 123))⟩, ⟨(some 125), none, (.mv (.t 17))⟩, ⟨(some 126), none, (.bin .mul (.t 125) (.c (.int .u64 4294967296)))⟩, ⟨(some 127), none, (.mv (.t 14))⟩, ⟨(some 128), none, (.bin .add (.t 126) (.t 127))⟩, ⟨(some 129), none, (.mv (.t 18))⟩, ⟨(some 130), none, (.mv (.t 2))⟩, ⟨(some 131), none, (.bin .mul (.t 129) (.t 130))⟩, ⟨(some 132), none, (.bin .sub (.t 128) (.t 131))⟩, ⟨(some 133), none, (.mv (.t 8))⟩, ⟨(some 134), none, (.bin .shr (.t 132) (.t 133))⟩, ⟨(some 6), none, (.mv (.t 124))⟩, ⟨(some 7), none, (.mv (.t 134))⟩]) .ret))))))))))))))))))))
def ro72 : List AOp := [(.mv (.t 6)), (.mv (.t 7))]
theorem fun72 : Fun Try.prog 72 135 ac72 ro72 := ⟨Try.f72, _, Try.func72, by kernel_rfl, rfl, rfl, by kernel_rfl, by kernel_rfl, by decide⟩
theorem con72_0 (lo v : Nat) (h0 : 0 < v) (hv : v < 18446744073709551616) (hl : lo < 18446744073709551616) : Con Try.prog 72 true [.int .u64 ((0 : Nat) : Int), .int .u64 (lo : Int), .int .u64 (v : Int)] (.tup [.int .u64 ((lo / v : Nat) : Int), .int .u64 ((lo % v : Nat) : Int)]) [] := by
  refine con_of_wp mixed fun72 (by simp) [] plain_nil ?_
  unfold ac72 ro72
  simp only [zipT]
  have d0 : decide ((v : Int) = 0) = false := decide_eq_false (by omega)
  have d1 : decide ((v : Int) ≤ ((0 : Nat) : Int)) = false := decide_eq_false (by omega)
  repeat (first
    | refine wC_a rfl ?_
    | refine q_s rfl ?_
    | refine q_b rfl ?_
    | refine wG_nil ?_
    | refine wG_g rfl ?_
    | refine wG_pure (o_len_vwm rfl) ?_
    | refine wG_pure (o_not_d rfl) ?_
    | refine wG_p rfl (by first | exact rfl | omega) ?_
    | refine wG_pure (o_not rfl) ?_
    | refine wG_pure (e_ia_vw0 rfl rfl (by omega) rfl) ?_
    | refine wG_pure (e_ia_vwp rfl rfl (by omega) rfl) ?_
    | refine wG_pure (e_ia_vwm rfl rfl (by omega) (by omega) rfl) ?_
    | refine wG_pure (e_ia_vwi rfl rfl (by omega) rfl) ?_
    | refine wG_pure (e_ia_vwn rfl rfl (by omega) (by omega) rfl) ?_
    | refine wG_n rfl rfl ?_
    | refine wG_u rfl rfl ?_
    | refine wG_new (o_mks rfl rfl (by omega) (by decide)) ?_)
  simp only [d0]
  repeat (first
    | refine wC_a rfl ?_
    | refine q_s rfl ?_
    | refine q_b rfl ?_
    | refine wG_nil ?_
    | refine wG_g rfl ?_
    | refine wG_pure (o_len_vwm rfl) ?_
    | refine wG_pure (o_not_d rfl) ?_
    | refine wG_p rfl (by first | exact rfl | omega) ?_
    | refine wG_pure (o_not rfl) ?_
    | refine wG_pure (e_ia_vw0 rfl rfl (by omega) rfl) ?_
    | refine wG_pure (e_ia_vwp rfl rfl (by omega) rfl) ?_
    | refine wG_pure (e_ia_vwm rfl rfl (by omega) (by omega) rfl) ?_
    | refine wG_pure (e_ia_vwi rfl rfl (by omega) rfl) ?_
    | refine wG_pure (e_ia_vwn rfl rfl (by omega) (by omega) rfl) ?_
    | refine wG_n rfl rfl ?_
    | refine wG_u rfl rfl ?_
    | refine wG_new (o_mks rfl rfl (by omega) (by decide)) ?_)
  simp only [d1]
  repeat (first | refine wG_pure (u_quo rfl rfl h0 hl) ?_ | refine wG_pure (u_rem rfl rfl h0) ?_ | (first
    | refine wC_a rfl ?_
    | refine q_s rfl ?_
    | refine q_b rfl ?_
    | refine wG_nil ?_
    | refine wG_g rfl ?_
    | refine wG_pure (o_len_vwm rfl) ?_
    | refine wG_pure (o_not_d rfl) ?_
    | refine wG_p rfl (by first | exact rfl | omega) ?_
    | refine wG_pure (o_not rfl) ?_
    | refine wG_pure (e_ia_vw0 rfl rfl (by omega) rfl) ?_
    | refine wG_pure (e_ia_vwp rfl rfl (by omega) rfl) ?_
    | refine wG_pure (e_ia_vwm rfl rfl (by omega) (by omega) rfl) ?_
    | refine wG_pure (e_ia_vwi rfl rfl (by omega) rfl) ?_
    | refine wG_pure (e_ia_vwn rfl rfl (by omega) (by omega) rfl) ?_
    | refine wG_n rfl rfl ?_
    | refine wG_u rfl rfl ?_
    | refine wG_new (o_mks rfl rfl (by omega) (by decide)) ?_))
  exact ret_gen (.inr rfl) (retVs_2 (retV_mv rfl) (retV_mv rfl)) rfl (by simp [notOne]) rfl rfl List.nodup_nil (fun i rows h => by simp at h)
theorem spl (n : Nat) : n / 2 ^ 32 * 4294967296 + n % 4294967296 = n := by omega
theorem nrm {hi lo v s : Nat} (hh : hi < v) (hl : lo < 18446744073709551616) (hs : s ≤ 64) : lo / 2 ^ (64 - s) < 2 ^ s ∧ hi * 2 ^ s + 2 ^ s ≤ v * 2 ^ s ∧ (hi * 2 ^ s + lo / 2 ^ (64 - s)) * 18446744073709551616 + lo * 2 ^ s % 18446744073709551616 = (hi * 18446744073709551616 + lo) * 2 ^ s := by
  have e : 2 ^ (64 - s) * 2 ^ s = 18446744073709551616 := by rw [← Nat.pow_add, show 64 - s + s = 64 by omega]
  have a : lo / 2 ^ (64 - s) < 2 ^ s := by
    rw [Nat.div_lt_iff_lt_mul (Nat.pow_pos (by decide)), Nat.mul_comm, e]; exact hl
  have b : hi * 2 ^ s + 2 ^ s ≤ v * 2 ^ s := by
    rw [← Nat.succ_mul]; exact Nat.mul_le_mul_right _ hh
  refine ⟨a, b, ?_⟩
  have c : lo * 2 ^ s / 18446744073709551616 = lo / 2 ^ (64 - s) := by
    rw [← e]; exact Nat.mul_div_mul_right _ _ (Nat.pow_pos (by decide))
  have d := Nat.div_add_mod (lo * 2 ^ s) 18446744073709551616
  rw [c] at d
  rw [Nat.add_mul, Nat.add_mul, Nat.mul_right_comm hi 18446744073709551616]
  omega
theorem two_rem {V B n b : Nat} : ((n % V) * B + b) % V = (n * B + b) % V := by
  rw [Nat.add_mod (n % V * B), Nat.mul_mod (n % V), Nat.mod_mod, ← Nat.mul_mod, ← Nat.add_mod]
theorem wrp {u un Q V U : Nat} (h : V * Q + U = u * 4294967296 + un) (hU : U < 18446744073709551616) : IntKind.u64.wrap (IntKind.u64.wrap (IntKind.u64.wrap ((u : Int) * 4294967296) + (un : Int)) - IntKind.u64.wrap ((Q : Int) * (V : Int))) = (U : Int) := by
  have e : (Q : Int) * (V : Int) = ((V * Q : Nat) : Int) := by rw [Nat.mul_comm]; simp
  rw [e]
  generalize V * Q = P at *
  simp only [IntKind.wrap_u64]
  omega
theorem wrp2 {Q q : Nat} (h1 : Q < 4294967296) (h2 : q < 4294967296) : IntKind.u64.wrap (IntKind.u64.wrap ((Q : Int) * 4294967296) + (q : Int)) = ((Q * 4294967296 + q : Nat) : Int) := by
  simp only [IntKind.wrap_u64]
  omega
theorem mul64 {q v : Nat} (h1 : ¬ 4294967296 ≤ q) (h2 : v < 4294967296) : q * v < 18446744073709551616 := by
  have : q * v ≤ 4294967295 * 4294967295 := Nat.mul_le_mul (by omega) (by omega)
  omega
theorem dig_cat {u a b : Nat} : u * 18446744073709551616 + (a * 4294967296 + b) = (u * 4294967296 + a) * 4294967296 + b := by omega
theorem dig_r {u v : Nat} (h : 0 < v) : u - u / v * v < v := by
  have := Nat.mod_lt u h
  have h := Nat.div_add_mod u v
  rw [Nat.mul_comm] at h
  omega
theorem ge_n {n : Nat} : ((n : Int) ≥ 4294967296) ↔ 4294967296 ≤ n := by omega
theorem ge_t {n : Nat} (h : 4294967296 ≤ n) : decide ((n : Int) ≥ 4294967296) = true := decide_eq_true (ge_n.2 h)
theorem ge_f {n : Nat} (h : ¬ 4294967296 ≤ n) : decide ((n : Int) ≥ 4294967296) = false := decide_eq_false (fun g => h (ge_n.1 g))
/-- What one round needs. -/
theorem dig_rd {v1 v0 u un q Q r : Nat} (hv : 2147483648 ≤ v1) (h1 : v1 < 4294967296) (h0 : v0 < 4294967296) (hu : u < v1 * 4294967296 + v0) (hn : un < 4294967296) (hQ : Q = (u * 4294967296 + un) / (v1 * 4294967296 + v0))
    (i1 : q * v1 ≤ u) (hr : u - q * v1 = r) (i2 : r < 4294967296) (i3 : Q ≤ q) (i4 : q ≤ 4294967297) :
    4294967296 * r < 18446744073709551616 ∧ 4294967296 * r + un < 18446744073709551616 ∧ r + v1 < 18446744073709551616 ∧ q < 18446744073709551616 ∧
    (4294967296 ≤ q ∨ q * v0 > 4294967296 * r + un → 1 ≤ q ∧ u - (q - 1) * v1 = r + v1 ∧ q - 1 < q ∧ (4294967296 ≤ r + v1 → q - 1 = Q) ∧ (¬ 4294967296 ≤ r + v1 → (q - 1) * v1 ≤ u ∧ u - (q - 1) * v1 < 4294967296 ∧ Q ≤ q - 1 ∧ q - 1 ≤ 4294967297)) ∧
    (¬ 4294967296 ≤ q → q * v0 < 18446744073709551616) ∧ (¬ q * v0 > 4294967296 * r + un → q = Q) := by
  have i5 : q * v1 + r = u := by omega
  subst hQ
  refine ⟨by omega, by omega, by omega, by omega, fun h => ?_, fun h => mul64 h h0, fun h => dig_ok hv h1 h0 hu hn i5 i3 (by omega)⟩
  obtain ⟨d1, d2, d3⟩ := dig_dn2 hv h0 hu hn i5 i3 h
  refine ⟨d1, by omega, by omega, fun g => dig_end hv h1 h0 hu hn d3 d2 (by omega) g, fun g => ⟨by omega, by omega, d2, by omega⟩⟩
theorem dig_st {v1 v0 u un Q : Nat} (hv : 2147483648 ≤ v1) (h1 : v1 < 4294967296) (h0 : v0 < 4294967296) (hu : u < v1 * 4294967296 + v0) (hn : un < 4294967296) (hQ : Q = (u * 4294967296 + un) / (v1 * 4294967296 + v0)) :
    0 < v1 ∧ u < 18446744073709551616 ∧ u / v1 * v1 ≤ u ∧ u / v1 * v1 < 18446744073709551616 ∧ u - u / v1 * v1 < 4294967296 ∧ Q ≤ u / v1 ∧ u / v1 ≤ 4294967297 := by
  obtain ⟨f1, f2⟩ := dig_first hv h0 hu hn
  have f3 : u / v1 * v1 ≤ u := Nat.div_mul_le_self _ _
  have f4 := dig_r (u := u) (v := v1) (by omega)
  exact ⟨by omega, by omega, f3, by omega, by omega, by omega, f2⟩
theorem fin2 {a a' r r' V s : Nat} (h : a = a') (g : r = r' % V) : [AV.int .u64 (a : Int), AV.int .u64 ((r / 2 ^ s : Nat) : Int)] = [AV.int .u64 (a' : Int), AV.int .u64 ((r' % V / 2 ^ s : Nat) : Int)] := by rw [h, g]
theorem con72_1 (hi lo v : Nat) (hh : hi < v) (hp : 0 < hi) (hv : v < 18446744073709551616) (hl : lo < 18446744073709551616) : ∃ m : Int, Con Try.prog 72 true [.int .u64 (hi : Int), .int .u64 (lo : Int), .int .u64 (v : Int)] (.tup [.int .u64 (((hi * 18446744073709551616 + lo) / v : Nat) : Int), .int .u64 m]) [] := by
  obtain ⟨s, s1, s2, s3, cZ⟩ := con97 v (by omega) hv
  obtain ⟨n1, n2, n3⟩ := nrm (s := s) hh hl (by omega)
  refine ⟨((((hi * 18446744073709551616 + lo) * 2 ^ s % (v * 2 ^ s)) / 2 ^ s : Nat) : Int), ?_⟩
  refine con_of_wp mixed fun72 (by simp) [] plain_nil ?_
  unfold ac72 ro72
  simp only [zipT]
  have d0 : decide ((v : Int) = 0) = false := decide_eq_false (by omega)
  have d1 : decide ((v : Int) ≤ (hi : Int)) = false := decide_eq_false (by omega)
  have d2 : decide ((hi : Int) = 0) = false := decide_eq_false (by omega)
  have hhs : hi * 2 ^ s < 18446744073709551616 := Nat.lt_of_le_of_lt (Nat.le_trans (Nat.le_add_right _ _) n2) s3
  have hu : hi * 2 ^ s + lo / 2 ^ (64 - s) < v * 2 ^ s := Nat.lt_of_lt_of_le (Nat.add_lt_add_left n1 _) n2
  repeat (first
    | refine wC_a rfl ?_
    | refine q_s rfl ?_
    | refine q_b rfl ?_
    | refine wG_nil ?_
    | refine wG_g rfl ?_
    | refine wG_pure (o_len_vwm rfl) ?_
    | refine wG_pure (o_not_d rfl) ?_
    | refine wG_p rfl (by first | exact rfl | omega) ?_
    | refine wG_pure (o_not rfl) ?_
    | refine wG_pure (e_ia_vw0 rfl rfl (by omega) rfl) ?_
    | refine wG_pure (e_ia_vwp rfl rfl (by omega) rfl) ?_
    | refine wG_pure (e_ia_vwm rfl rfl (by omega) (by omega) rfl) ?_
    | refine wG_pure (e_ia_vwi rfl rfl (by omega) rfl) ?_
    | refine wG_pure (e_ia_vwn rfl rfl (by omega) (by omega) rfl) ?_
    | refine wG_n rfl rfl ?_
    | refine wG_u rfl rfl ?_
    | refine wG_new (o_mks rfl rfl (by omega) (by decide)) ?_)
  simp only [d0]
  repeat (first
    | refine wC_a rfl ?_
    | refine q_s rfl ?_
    | refine q_b rfl ?_
    | refine wG_nil ?_
    | refine wG_g rfl ?_
    | refine wG_pure (o_len_vwm rfl) ?_
    | refine wG_pure (o_not_d rfl) ?_
    | refine wG_p rfl (by first | exact rfl | omega) ?_
    | refine wG_pure (o_not rfl) ?_
    | refine wG_pure (e_ia_vw0 rfl rfl (by omega) rfl) ?_
    | refine wG_pure (e_ia_vwp rfl rfl (by omega) rfl) ?_
    | refine wG_pure (e_ia_vwm rfl rfl (by omega) (by omega) rfl) ?_
    | refine wG_pure (e_ia_vwi rfl rfl (by omega) rfl) ?_
    | refine wG_pure (e_ia_vwn rfl rfl (by omega) (by omega) rfl) ?_
    | refine wG_n rfl rfl ?_
    | refine wG_u rfl rfl ?_
    | refine wG_new (o_mks rfl rfl (by omega) (by decide)) ?_)
  simp only [d1]
  repeat (first
    | refine wC_a rfl ?_
    | refine q_s rfl ?_
    | refine q_b rfl ?_
    | refine wG_nil ?_
    | refine wG_g rfl ?_
    | refine wG_pure (o_len_vwm rfl) ?_
    | refine wG_pure (o_not_d rfl) ?_
    | refine wG_p rfl (by first | exact rfl | omega) ?_
    | refine wG_pure (o_not rfl) ?_
    | refine wG_pure (e_ia_vw0 rfl rfl (by omega) rfl) ?_
    | refine wG_pure (e_ia_vwp rfl rfl (by omega) rfl) ?_
    | refine wG_pure (e_ia_vwm rfl rfl (by omega) (by omega) rfl) ?_
    | refine wG_pure (e_ia_vwi rfl rfl (by omega) rfl) ?_
    | refine wG_pure (e_ia_vwn rfl rfl (by omega) (by omega) rfl) ?_
    | refine wG_n rfl rfl ?_
    | refine wG_u rfl rfl ?_
    | refine wG_new (o_mks rfl rfl (by omega) (by decide)) ?_)
  simp only [d2]
  repeat (first | refine wG_call cZ rfl rfl ?_ | refine wG_pure (o_cvu rfl (by omega)) ?_ | refine wG_pure (u_shlx rfl rfl (by omega) s3) ?_ | refine wG_pure (u_shlx rfl rfl (by omega) hhs) ?_ | refine wG_pure (u_sub (a := 64) rfl rfl (by omega) (by omega)) ?_ | refine wG_pure (u_shr (n := 64 - s) rfl rfl (by omega)) ?_ | refine wG_pure (u_or rfl rfl n1 (Nat.lt_trans hu s3)) ?_ | refine wG_pure (u_shl rfl rfl (by omega)) ?_ | refine wG_pure (u_shr (n := 32) rfl rfl (by omega)) ?_ | refine wG_pure (u_mask rfl rfl (by omega)) ?_ | (first
    | refine wC_a rfl ?_
    | refine q_s rfl ?_
    | refine q_b rfl ?_
    | refine wG_nil ?_
    | refine wG_g rfl ?_
    | refine wG_pure (o_len_vwm rfl) ?_
    | refine wG_pure (o_not_d rfl) ?_
    | refine wG_p rfl (by first | exact rfl | omega) ?_
    | refine wG_pure (o_not rfl) ?_
    | refine wG_pure (e_ia_vw0 rfl rfl (by omega) rfl) ?_
    | refine wG_pure (e_ia_vwp rfl rfl (by omega) rfl) ?_
    | refine wG_pure (e_ia_vwm rfl rfl (by omega) (by omega) rfl) ?_
    | refine wG_pure (e_ia_vwi rfl rfl (by omega) rfl) ?_
    | refine wG_pure (e_ia_vwn rfl rfl (by omega) (by omega) rfl) ?_
    | refine wG_n rfl rfl ?_
    | refine wG_u rfl rfl ?_
    | refine wG_new (o_mks rfl rfl (by omega) (by decide)) ?_))
  generalize hun10 : lo * 2 ^ s % 18446744073709551616 = un10 at *
  generalize hU : hi * 2 ^ s + lo / 2 ^ (64 - s) = u at *
  generalize hV : v * 2 ^ s = V at *
  have hun : un10 < 18446744073709551616 := by rw [← hun10]; exact Nat.mod_lt _ (by decide)
  have g1 : un10 / 2 ^ 32 * 4294967296 + un10 % 4294967296 = un10 := spl un10
  have g2 : un10 / 2 ^ 32 < 4294967296 ∧ un10 % 4294967296 < 4294967296 := by omega
  have g3 : V / 2 ^ 32 * 4294967296 + V % 4294967296 = V := spl V
  have g4 : 2147483648 ≤ V / 2 ^ 32 ∧ V / 2 ^ 32 < 4294967296 ∧ V % 4294967296 < 4294967296 := by omega
  generalize un10 / 2 ^ 32 = un1 at *
  generalize un10 % 4294967296 = un0 at *
  generalize V / 2 ^ 32 = V1 at *
  generalize V % 4294967296 = V0 at *
  obtain ⟨g5, g6⟩ := g2
  obtain ⟨g7, g8, g9⟩ := g4
  have hu1 : u < V1 * 4294967296 + V0 := by omega
  have s64 : s ≤ 64 := by omega
  clear hu hhs hun10 hU d0 d1 d2 cZ hl hp hh
  obtain ⟨Q, hQ⟩ : ∃ Q, Q = (u * 4294967296 + un1) / V := ⟨_, rfl⟩
  obtain ⟨U, hU⟩ : ∃ U, U = (u * 4294967296 + un1) % V := ⟨_, rfl⟩
  obtain ⟨Q2, hQ2⟩ : ∃ Q2, Q2 = (U * 4294967296 + un0) / V := ⟨_, rfl⟩
  obtain ⟨R, hR⟩ : ∃ R, R = (U * 4294967296 + un0) % V := ⟨_, rfl⟩
  have hV0 : 0 < V := by omega
  have hUV : U < V := by rw [hU]; exact Nat.mod_lt _ hV0
  have hRV : R < V := by rw [hR]; exact Nat.mod_lt _ hV0
  have e21 := wrp (show V * Q + U = u * 4294967296 + un1 by rw [hU, hQ]; exact Nat.div_add_mod _ _) (Nat.lt_trans hUV s3)
  have e22 := wrp (show V * Q2 + R = U * 4294967296 + un0 by rw [hR, hQ2]; exact Nat.div_add_mod _ _) (Nat.lt_trans hRV s3)
  have hQ32 : Q < 4294967296 := by rw [hQ, ← g3]; exact dig_small hu1 g5
  have hQ232 : Q2 < 4294967296 := by rw [hQ2]; exact dig_small hUV g6
  have e23 := wrp2 hQ32 hQ232
  have e24 : Q * 4294967296 + Q2 = (hi * 18446744073709551616 + lo) / v := by
    rw [hQ, hQ2, hU, two_dig hV0, g1, n3, ← hV]
    exact Nat.mul_div_mul_right _ _ (Nat.pow_pos (by decide))
  have e25 : R = (hi * 18446744073709551616 + lo) * 2 ^ s % V := by
    rw [hR, hU, two_rem, ← n3, ← g1, dig_cat]
  have hu2 : U < V1 * 4294967296 + V0 := by rw [g3]; exact hUV
  rw [← g3] at hQ hQ2
  obtain ⟨w1, w2, w3, w4, w5, w6, w7⟩ := dig_st g7 g8 g9 hu1 g5 hQ
  obtain ⟨x1, x2, x3, x4, x5, x6, x7⟩ := dig_st g7 g8 g9 hu2 g6 hQ2
  have rd1 := fun q r i1 hr i2 i3 i4 => dig_rd (q := q) (r := r) g7 g8 g9 hu1 g5 hQ i1 hr i2 i3 i4
  have rd2 := fun q r i1 hr i2 i3 i4 => dig_rd (q := q) (r := r) g7 g8 g9 hu2 g6 hQ2 i1 hr i2 i3 i4
  clear hQ hQ2 hU hR hUV hRV hQ32 hQ232 hu1 hu2 hV0 g1 g3 g5 g6 g7 g8 g9 n1 n2 n3 hV s2 s3 hun
  repeat (first | refine wG_pure (u_quo rfl rfl w1 w2) ?_ | refine wG_pure (u_mul rfl rfl w4) ?_ | refine wG_pure (u_sub rfl rfl w3 w2) ?_ | (first
    | refine wC_a rfl ?_
    | refine q_s rfl ?_
    | refine q_b rfl ?_
    | refine wG_nil ?_
    | refine wG_g rfl ?_
    | refine wG_pure (o_len_vwm rfl) ?_
    | refine wG_pure (o_not_d rfl) ?_
    | refine wG_p rfl (by first | exact rfl | omega) ?_
    | refine wG_pure (o_not rfl) ?_
    | refine wG_pure (e_ia_vw0 rfl rfl (by omega) rfl) ?_
    | refine wG_pure (e_ia_vwp rfl rfl (by omega) rfl) ?_
    | refine wG_pure (e_ia_vwm rfl rfl (by omega) (by omega) rfl) ?_
    | refine wG_pure (e_ia_vwi rfl rfl (by omega) rfl) ?_
    | refine wG_pure (e_ia_vwn rfl rfl (by omega) (by omega) rfl) ?_
    | refine wG_n rfl rfl ?_
    | refine wG_u rfl rfl ?_
    | refine wG_new (o_mks rfl rfl (by omega) (by decide)) ?_))
  generalize u / V1 = q0 at *
  refine wC_loop Nat (fun q => ⟨[(0, .int .u64 (hi : Int)), (1, .int .u64 (lo : Int)), (2, .int .u64 (V : Int)), (6, .int .u64 0), (7, .int .u64 0), (8, .int .u64 (s : Int)), (9, .int .u64 (V1 : Int)), (10, .int .u64 (V0 : Int)), (11, .int .u64 (u : Int)), (12, .int .u64 (un10 : Int)), (13, .int .u64 (un1 : Int)), (14, .int .u64 (un0 : Int)), (15, .int .u64 (q : Int)), (16, .int .u64 ((u - q * V1 : Nat) : Int))], [], 0⟩) (fun q => q * V1 ≤ u ∧ u - q * V1 < 4294967296 ∧ Q ≤ q ∧ q ≤ 4294967297) (fun q => q) q0 ⟨w3, w5, w6, w7⟩ ?_ (fun _ _ => Nat.zero_le _) ?_
  · exact ⟨⟨⟨rfl, rfl⟩, ⟨rfl, rfl⟩, ⟨rfl, rfl⟩, ⟨rfl, rfl⟩, ⟨rfl, rfl⟩, ⟨rfl, rfl⟩, ⟨rfl, rfl⟩, ⟨rfl, rfl⟩, ⟨rfl, rfl⟩, ⟨rfl, rfl⟩, ⟨rfl, rfl⟩, ⟨rfl, rfl⟩, ⟨rfl, rfl⟩, ⟨rfl, rfl⟩, trivial⟩, trivial⟩
  rintro q ⟨i1, i2, i3, i4⟩
  obtain ⟨r, hr⟩ : ∃ r, u - q * V1 = r := ⟨_, rfl⟩
  rw [hr] at i2 ⊢
  obtain ⟨b1, b2, b3, b4, b5, b6, b7⟩ := rd1 q r i1 hr i2 i3 i4
  clear i1 hr i2 i3 i4
  repeat (first
    | refine wC_a rfl ?_
    | refine q_s rfl ?_
    | refine q_b rfl ?_
    | refine wG_nil ?_
    | refine wG_g rfl ?_
    | refine wG_pure (o_len_vwm rfl) ?_
    | refine wG_pure (o_not_d rfl) ?_
    | refine wG_p rfl (by first | exact rfl | omega) ?_
    | refine wG_pure (o_not rfl) ?_
    | refine wG_pure (e_ia_vw0 rfl rfl (by omega) rfl) ?_
    | refine wG_pure (e_ia_vwp rfl rfl (by omega) rfl) ?_
    | refine wG_pure (e_ia_vwm rfl rfl (by omega) (by omega) rfl) ?_
    | refine wG_pure (e_ia_vwi rfl rfl (by omega) rfl) ?_
    | refine wG_pure (e_ia_vwn rfl rfl (by omega) (by omega) rfl) ?_
    | refine wG_n rfl rfl ?_
    | refine wG_u rfl rfl ?_
    | refine wG_new (o_mks rfl rfl (by omega) (by decide)) ?_)
  refine Decidable.byCases (p := 4294967296 ≤ q) (fun hq => ?cA0) (fun hq => ?cB0)
  case' cA0 =>
    obtain ⟨d1, d2, d3, d4, d5⟩ := b5 (.inl hq)
    simp only [ge_t hq]
    repeat (first | refine wG_pure (u_sub (b := 1) rfl rfl d1 b4) ?_ | refine wG_pure (u_add rfl rfl b3) ?_ | (first
    | refine wC_a rfl ?_
    | refine q_s rfl ?_
    | refine q_b rfl ?_
    | refine wG_nil ?_
    | refine wG_g rfl ?_
    | refine wG_pure (o_len_vwm rfl) ?_
    | refine wG_pure (o_not_d rfl) ?_
    | refine wG_p rfl (by first | exact rfl | omega) ?_
    | refine wG_pure (o_not rfl) ?_
    | refine wG_pure (e_ia_vw0 rfl rfl (by omega) rfl) ?_
    | refine wG_pure (e_ia_vwp rfl rfl (by omega) rfl) ?_
    | refine wG_pure (e_ia_vwm rfl rfl (by omega) (by omega) rfl) ?_
    | refine wG_pure (e_ia_vwi rfl rfl (by omega) rfl) ?_
    | refine wG_pure (e_ia_vwn rfl rfl (by omega) (by omega) rfl) ?_
    | refine wG_n rfl rfl ?_
    | refine wG_u rfl rfl ?_
    | refine wG_new (o_mks rfl rfl (by omega) (by decide)) ?_))
    refine wC_cond_d rfl (fun h2 => ?exA0) (fun h2 => ?coA0)
  case' coA0 =>
    repeat (first
    | refine wC_a rfl ?_
    | refine q_s rfl ?_
    | refine q_b rfl ?_
    | refine wG_nil ?_
    | refine wG_g rfl ?_
    | refine wG_pure (o_len_vwm rfl) ?_
    | refine wG_pure (o_not_d rfl) ?_
    | refine wG_p rfl (by first | exact rfl | omega) ?_
    | refine wG_pure (o_not rfl) ?_
    | refine wG_pure (e_ia_vw0 rfl rfl (by omega) rfl) ?_
    | refine wG_pure (e_ia_vwp rfl rfl (by omega) rfl) ?_
    | refine wG_pure (e_ia_vwm rfl rfl (by omega) (by omega) rfl) ?_
    | refine wG_pure (e_ia_vwi rfl rfl (by omega) rfl) ?_
    | refine wG_pure (e_ia_vwn rfl rfl (by omega) (by omega) rfl) ?_
    | refine wG_n rfl rfl ?_
    | refine wG_u rfl rfl ?_
    | refine wG_new (o_mks rfl rfl (by omega) (by decide)) ?_)
    refine ⟨q - 1, d5 (fun g => h2 (ge_n.2 g)), d3, ⟨⟨⟨rfl, rfl⟩, ⟨rfl, rfl⟩, ⟨rfl, rfl⟩, ⟨rfl, rfl⟩, ⟨rfl, rfl⟩, ⟨rfl, rfl⟩, ⟨rfl, rfl⟩, ⟨rfl, rfl⟩, ⟨rfl, rfl⟩, ⟨rfl, rfl⟩, ⟨rfl, rfl⟩, ⟨rfl, rfl⟩, ⟨rfl, rfl⟩, ⟨?_, rfl⟩, trivial⟩, trivial⟩⟩
    exact congrArg (fun n : Nat => AV.int .u64 (n : Int)) d2.symm
  case' cB0 =>
    simp only [ge_f hq]
    repeat (first | refine wG_pure (u_mul (a := 4294967296) rfl rfl b1) ?_ | refine wG_pure (u_mul rfl rfl (b6 hq)) ?_ | refine wG_pure (u_add rfl rfl b2) ?_ | (first
    | refine wC_a rfl ?_
    | refine q_s rfl ?_
    | refine q_b rfl ?_
    | refine wG_nil ?_
    | refine wG_g rfl ?_
    | refine wG_pure (o_len_vwm rfl) ?_
    | refine wG_pure (o_not_d rfl) ?_
    | refine wG_p rfl (by first | exact rfl | omega) ?_
    | refine wG_pure (o_not rfl) ?_
    | refine wG_pure (e_ia_vw0 rfl rfl (by omega) rfl) ?_
    | refine wG_pure (e_ia_vwp rfl rfl (by omega) rfl) ?_
    | refine wG_pure (e_ia_vwm rfl rfl (by omega) (by omega) rfl) ?_
    | refine wG_pure (e_ia_vwi rfl rfl (by omega) rfl) ?_
    | refine wG_pure (e_ia_vwn rfl rfl (by omega) (by omega) rfl) ?_
    | refine wG_n rfl rfl ?_
    | refine wG_u rfl rfl ?_
    | refine wG_new (o_mks rfl rfl (by omega) (by decide)) ?_))
    refine wC_cond_d rfl (fun h2 => ?tt0) (fun h2 => ?ff0)
  case' tt0 =>
    obtain ⟨d1, d2, d3, d4, d5⟩ := b5 (.inr (Int.ofNat_lt.1 h2))
    repeat (first | refine wG_pure (u_sub (b := 1) rfl rfl d1 b4) ?_ | refine wG_pure (u_add rfl rfl b3) ?_ | (first
    | refine wC_a rfl ?_
    | refine q_s rfl ?_
    | refine q_b rfl ?_
    | refine wG_nil ?_
    | refine wG_g rfl ?_
    | refine wG_pure (o_len_vwm rfl) ?_
    | refine wG_pure (o_not_d rfl) ?_
    | refine wG_p rfl (by first | exact rfl | omega) ?_
    | refine wG_pure (o_not rfl) ?_
    | refine wG_pure (e_ia_vw0 rfl rfl (by omega) rfl) ?_
    | refine wG_pure (e_ia_vwp rfl rfl (by omega) rfl) ?_
    | refine wG_pure (e_ia_vwm rfl rfl (by omega) (by omega) rfl) ?_
    | refine wG_pure (e_ia_vwi rfl rfl (by omega) rfl) ?_
    | refine wG_pure (e_ia_vwn rfl rfl (by omega) (by omega) rfl) ?_
    | refine wG_n rfl rfl ?_
    | refine wG_u rfl rfl ?_
    | refine wG_new (o_mks rfl rfl (by omega) (by decide)) ?_))
    refine wC_cond_d rfl (fun h4 => ?exB0) (fun h4 => ?coB0)
  case' coB0 =>
    repeat (first
    | refine wC_a rfl ?_
    | refine q_s rfl ?_
    | refine q_b rfl ?_
    | refine wG_nil ?_
    | refine wG_g rfl ?_
    | refine wG_pure (o_len_vwm rfl) ?_
    | refine wG_pure (o_not_d rfl) ?_
    | refine wG_p rfl (by first | exact rfl | omega) ?_
    | refine wG_pure (o_not rfl) ?_
    | refine wG_pure (e_ia_vw0 rfl rfl (by omega) rfl) ?_
    | refine wG_pure (e_ia_vwp rfl rfl (by omega) rfl) ?_
    | refine wG_pure (e_ia_vwm rfl rfl (by omega) (by omega) rfl) ?_
    | refine wG_pure (e_ia_vwi rfl rfl (by omega) rfl) ?_
    | refine wG_pure (e_ia_vwn rfl rfl (by omega) (by omega) rfl) ?_
    | refine wG_n rfl rfl ?_
    | refine wG_u rfl rfl ?_
    | refine wG_new (o_mks rfl rfl (by omega) (by decide)) ?_)
    refine ⟨q - 1, d5 (fun g => h4 (ge_n.2 g)), d3, ⟨⟨⟨rfl, rfl⟩, ⟨rfl, rfl⟩, ⟨rfl, rfl⟩, ⟨rfl, rfl⟩, ⟨rfl, rfl⟩, ⟨rfl, rfl⟩, ⟨rfl, rfl⟩, ⟨rfl, rfl⟩, ⟨rfl, rfl⟩, ⟨rfl, rfl⟩, ⟨rfl, rfl⟩, ⟨rfl, rfl⟩, ⟨rfl, rfl⟩, ⟨?_, rfl⟩, trivial⟩, trivial⟩⟩
    exact congrArg (fun n : Nat => AV.int .u64 (n : Int)) d2.symm
  case' exA0 =>
    have hend : q - 1 = Q := d4 (ge_n.1 h2)
    simp only [hend]
    clear b1 b2 b3 b4 b5 b6 b7 hend
    repeat (first | refine wG_pure (u_mulw rfl rfl) ?_ | refine wG_pure (u_addw rfl rfl) ?_ | refine wG_pure (u_subw rfl rfl) ?_ | (first
    | refine wC_a rfl ?_
    | refine q_s rfl ?_
    | refine q_b rfl ?_
    | refine wG_nil ?_
    | refine wG_g rfl ?_
    | refine wG_pure (o_len_vwm rfl) ?_
    | refine wG_pure (o_not_d rfl) ?_
    | refine wG_p rfl (by first | exact rfl | omega) ?_
    | refine wG_pure (o_not rfl) ?_
    | refine wG_pure (e_ia_vw0 rfl rfl (by omega) rfl) ?_
    | refine wG_pure (e_ia_vwp rfl rfl (by omega) rfl) ?_
    | refine wG_pure (e_ia_vwm rfl rfl (by omega) (by omega) rfl) ?_
    | refine wG_pure (e_ia_vwi rfl rfl (by omega) rfl) ?_
    | refine wG_pure (e_ia_vwn rfl rfl (by omega) (by omega) rfl) ?_
    | refine wG_n rfl rfl ?_
    | refine wG_u rfl rfl ?_
    | refine wG_new (o_mks rfl rfl (by omega) (by decide)) ?_))
    simp only [e21]
    repeat (first | refine wG_pure (u_quo rfl rfl x1 x2) ?_ | refine wG_pure (u_mul rfl rfl x4) ?_ | refine wG_pure (u_sub rfl rfl x3 x2) ?_ | (first
    | refine wC_a rfl ?_
    | refine q_s rfl ?_
    | refine q_b rfl ?_
    | refine wG_nil ?_
    | refine wG_g rfl ?_
    | refine wG_pure (o_len_vwm rfl) ?_
    | refine wG_pure (o_not_d rfl) ?_
    | refine wG_p rfl (by first | exact rfl | omega) ?_
    | refine wG_pure (o_not rfl) ?_
    | refine wG_pure (e_ia_vw0 rfl rfl (by omega) rfl) ?_
    | refine wG_pure (e_ia_vwp rfl rfl (by omega) rfl) ?_
    | refine wG_pure (e_ia_vwm rfl rfl (by omega) (by omega) rfl) ?_
    | refine wG_pure (e_ia_vwi rfl rfl (by omega) rfl) ?_
    | refine wG_pure (e_ia_vwn rfl rfl (by omega) (by omega) rfl) ?_
    | refine wG_n rfl rfl ?_
    | refine wG_u rfl rfl ?_
    | refine wG_new (o_mks rfl rfl (by omega) (by decide)) ?_))
    refine wC_loop Nat (fun q => ⟨[(2, .int .u64 (V : Int)), (6, .int .u64 0), (7, .int .u64 0), (8, .int .u64 (s : Int)), (9, .int .u64 (V1 : Int)), (10, .int .u64 (V0 : Int)), (14, .int .u64 (un0 : Int)), (15, .int .u64 (Q : Int)), (16, .int .u64 ((U - q * V1 : Nat) : Int)), (17, .int .u64 (U : Int)), (18, .int .u64 (q : Int))], [], 0⟩) (fun q => q * V1 ≤ U ∧ U - q * V1 < 4294967296 ∧ Q2 ≤ q ∧ q ≤ 4294967297) (fun q => q) (U / V1) ⟨x3, x5, x6, x7⟩ ?_ (fun _ _ => Nat.zero_le _) ?_
    · exact ⟨⟨⟨rfl, rfl⟩, ⟨rfl, rfl⟩, ⟨rfl, rfl⟩, ⟨rfl, rfl⟩, ⟨rfl, rfl⟩, ⟨rfl, rfl⟩, ⟨rfl, rfl⟩, ⟨rfl, rfl⟩, ⟨rfl, rfl⟩, ⟨rfl, rfl⟩, ⟨rfl, rfl⟩, trivial⟩, trivial⟩
    rintro q ⟨i1, i2, i3, i4⟩
    obtain ⟨r, hr⟩ : ∃ r, U - q * V1 = r := ⟨_, rfl⟩
    rw [hr] at i2 ⊢
    obtain ⟨b1, b2, b3, b4, b5, b6, b7⟩ := rd2 q r i1 hr i2 i3 i4
    clear i1 hr i2 i3 i4
    repeat (first
    | refine wC_a rfl ?_
    | refine q_s rfl ?_
    | refine q_b rfl ?_
    | refine wG_nil ?_
    | refine wG_g rfl ?_
    | refine wG_pure (o_len_vwm rfl) ?_
    | refine wG_pure (o_not_d rfl) ?_
    | refine wG_p rfl (by first | exact rfl | omega) ?_
    | refine wG_pure (o_not rfl) ?_
    | refine wG_pure (e_ia_vw0 rfl rfl (by omega) rfl) ?_
    | refine wG_pure (e_ia_vwp rfl rfl (by omega) rfl) ?_
    | refine wG_pure (e_ia_vwm rfl rfl (by omega) (by omega) rfl) ?_
    | refine wG_pure (e_ia_vwi rfl rfl (by omega) rfl) ?_
    | refine wG_pure (e_ia_vwn rfl rfl (by omega) (by omega) rfl) ?_
    | refine wG_n rfl rfl ?_
    | refine wG_u rfl rfl ?_
    | refine wG_new (o_mks rfl rfl (by omega) (by decide)) ?_)
    refine Decidable.byCases (p := 4294967296 ≤ q) (fun hq => ?cA1) (fun hq => ?cB1)
    case' cA1 =>
      obtain ⟨d1, d2, d3, d4, d5⟩ := b5 (.inl hq)
      simp only [ge_t hq]
      repeat (first | refine wG_pure (u_sub (b := 1) rfl rfl d1 b4) ?_ | refine wG_pure (u_add rfl rfl b3) ?_ | (first
    | refine wC_a rfl ?_
    | refine q_s rfl ?_
    | refine q_b rfl ?_
    | refine wG_nil ?_
    | refine wG_g rfl ?_
    | refine wG_pure (o_len_vwm rfl) ?_
    | refine wG_pure (o_not_d rfl) ?_
    | refine wG_p rfl (by first | exact rfl | omega) ?_
    | refine wG_pure (o_not rfl) ?_
    | refine wG_pure (e_ia_vw0 rfl rfl (by omega) rfl) ?_
    | refine wG_pure (e_ia_vwp rfl rfl (by omega) rfl) ?_
    | refine wG_pure (e_ia_vwm rfl rfl (by omega) (by omega) rfl) ?_
    | refine wG_pure (e_ia_vwi rfl rfl (by omega) rfl) ?_
    | refine wG_pure (e_ia_vwn rfl rfl (by omega) (by omega) rfl) ?_
    | refine wG_n rfl rfl ?_
    | refine wG_u rfl rfl ?_
    | refine wG_new (o_mks rfl rfl (by omega) (by decide)) ?_))
      refine wC_cond_d rfl (fun h2 => ?exA1) (fun h2 => ?coA1)
    case' coA1 =>
      repeat (first
    | refine wC_a rfl ?_
    | refine q_s rfl ?_
    | refine q_b rfl ?_
    | refine wG_nil ?_
    | refine wG_g rfl ?_
    | refine wG_pure (o_len_vwm rfl) ?_
    | refine wG_pure (o_not_d rfl) ?_
    | refine wG_p rfl (by first | exact rfl | omega) ?_
    | refine wG_pure (o_not rfl) ?_
    | refine wG_pure (e_ia_vw0 rfl rfl (by omega) rfl) ?_
    | refine wG_pure (e_ia_vwp rfl rfl (by omega) rfl) ?_
    | refine wG_pure (e_ia_vwm rfl rfl (by omega) (by omega) rfl) ?_
    | refine wG_pure (e_ia_vwi rfl rfl (by omega) rfl) ?_
    | refine wG_pure (e_ia_vwn rfl rfl (by omega) (by omega) rfl) ?_
    | refine wG_n rfl rfl ?_
    | refine wG_u rfl rfl ?_
    | refine wG_new (o_mks rfl rfl (by omega) (by decide)) ?_)
      refine ⟨q - 1, d5 (fun g => h2 (ge_n.2 g)), d3, ⟨⟨⟨rfl, rfl⟩, ⟨rfl, rfl⟩, ⟨rfl, rfl⟩, ⟨rfl, rfl⟩, ⟨rfl, rfl⟩, ⟨rfl, rfl⟩, ⟨rfl, rfl⟩, ⟨rfl, rfl⟩, ⟨?_, rfl⟩, ⟨rfl, rfl⟩, ⟨rfl, rfl⟩, trivial⟩, trivial⟩⟩
      exact congrArg (fun n : Nat => AV.int .u64 (n : Int)) d2.symm
    case' cB1 =>
      simp only [ge_f hq]
      repeat (first | refine wG_pure (u_mul (a := 4294967296) rfl rfl b1) ?_ | refine wG_pure (u_mul rfl rfl (b6 hq)) ?_ | refine wG_pure (u_add rfl rfl b2) ?_ | (first
    | refine wC_a rfl ?_
    | refine q_s rfl ?_
    | refine q_b rfl ?_
    | refine wG_nil ?_
    | refine wG_g rfl ?_
    | refine wG_pure (o_len_vwm rfl) ?_
    | refine wG_pure (o_not_d rfl) ?_
    | refine wG_p rfl (by first | exact rfl | omega) ?_
    | refine wG_pure (o_not rfl) ?_
    | refine wG_pure (e_ia_vw0 rfl rfl (by omega) rfl) ?_
    | refine wG_pure (e_ia_vwp rfl rfl (by omega) rfl) ?_
    | refine wG_pure (e_ia_vwm rfl rfl (by omega) (by omega) rfl) ?_
    | refine wG_pure (e_ia_vwi rfl rfl (by omega) rfl) ?_
    | refine wG_pure (e_ia_vwn rfl rfl (by omega) (by omega) rfl) ?_
    | refine wG_n rfl rfl ?_
    | refine wG_u rfl rfl ?_
    | refine wG_new (o_mks rfl rfl (by omega) (by decide)) ?_))
      refine wC_cond_d rfl (fun h2 => ?tt1) (fun h2 => ?ff1)
    case' tt1 =>
      obtain ⟨d1, d2, d3, d4, d5⟩ := b5 (.inr (Int.ofNat_lt.1 h2))
      repeat (first | refine wG_pure (u_sub (b := 1) rfl rfl d1 b4) ?_ | refine wG_pure (u_add rfl rfl b3) ?_ | (first
    | refine wC_a rfl ?_
    | refine q_s rfl ?_
    | refine q_b rfl ?_
    | refine wG_nil ?_
    | refine wG_g rfl ?_
    | refine wG_pure (o_len_vwm rfl) ?_
    | refine wG_pure (o_not_d rfl) ?_
    | refine wG_p rfl (by first | exact rfl | omega) ?_
    | refine wG_pure (o_not rfl) ?_
    | refine wG_pure (e_ia_vw0 rfl rfl (by omega) rfl) ?_
    | refine wG_pure (e_ia_vwp rfl rfl (by omega) rfl) ?_
    | refine wG_pure (e_ia_vwm rfl rfl (by omega) (by omega) rfl) ?_
    | refine wG_pure (e_ia_vwi rfl rfl (by omega) rfl) ?_
    | refine wG_pure (e_ia_vwn rfl rfl (by omega) (by omega) rfl) ?_
    | refine wG_n rfl rfl ?_
    | refine wG_u rfl rfl ?_
    | refine wG_new (o_mks rfl rfl (by omega) (by decide)) ?_))
      refine wC_cond_d rfl (fun h4 => ?exB1) (fun h4 => ?coB1)
    case' coB1 =>
      repeat (first
    | refine wC_a rfl ?_
    | refine q_s rfl ?_
    | refine q_b rfl ?_
    | refine wG_nil ?_
    | refine wG_g rfl ?_
    | refine wG_pure (o_len_vwm rfl) ?_
    | refine wG_pure (o_not_d rfl) ?_
    | refine wG_p rfl (by first | exact rfl | omega) ?_
    | refine wG_pure (o_not rfl) ?_
    | refine wG_pure (e_ia_vw0 rfl rfl (by omega) rfl) ?_
    | refine wG_pure (e_ia_vwp rfl rfl (by omega) rfl) ?_
    | refine wG_pure (e_ia_vwm rfl rfl (by omega) (by omega) rfl) ?_
    | refine wG_pure (e_ia_vwi rfl rfl (by omega) rfl) ?_
    | refine wG_pure (e_ia_vwn rfl rfl (by omega) (by omega) rfl) ?_
    | refine wG_n rfl rfl ?_
    | refine wG_u rfl rfl ?_
    | refine wG_new (o_mks rfl rfl (by omega) (by decide)) ?_)
      refine ⟨q - 1, d5 (fun g => h4 (ge_n.2 g)), d3, ⟨⟨⟨rfl, rfl⟩, ⟨rfl, rfl⟩, ⟨rfl, rfl⟩, ⟨rfl, rfl⟩, ⟨rfl, rfl⟩, ⟨rfl, rfl⟩, ⟨rfl, rfl⟩, ⟨rfl, rfl⟩, ⟨?_, rfl⟩, ⟨rfl, rfl⟩, ⟨rfl, rfl⟩, trivial⟩, trivial⟩⟩
      exact congrArg (fun n : Nat => AV.int .u64 (n : Int)) d2.symm
    case' exA1 =>
      have hend : q - 1 = Q2 := d4 (ge_n.1 h2)
      simp only [hend]
      repeat (first | refine wG_pure (u_mulw rfl rfl) ?_ | refine wG_pure (u_addw rfl rfl) ?_ | refine wG_pure (u_subw rfl rfl) ?_ | (first
    | refine wC_a rfl ?_
    | refine q_s rfl ?_
    | refine q_b rfl ?_
    | refine wG_nil ?_
    | refine wG_g rfl ?_
    | refine wG_pure (o_len_vwm rfl) ?_
    | refine wG_pure (o_not_d rfl) ?_
    | refine wG_p rfl (by first | exact rfl | omega) ?_
    | refine wG_pure (o_not rfl) ?_
    | refine wG_pure (e_ia_vw0 rfl rfl (by omega) rfl) ?_
    | refine wG_pure (e_ia_vwp rfl rfl (by omega) rfl) ?_
    | refine wG_pure (e_ia_vwm rfl rfl (by omega) (by omega) rfl) ?_
    | refine wG_pure (e_ia_vwi rfl rfl (by omega) rfl) ?_
    | refine wG_pure (e_ia_vwn rfl rfl (by omega) (by omega) rfl) ?_
    | refine wG_n rfl rfl ?_
    | refine wG_u rfl rfl ?_
    | refine wG_new (o_mks rfl rfl (by omega) (by decide)) ?_))
      simp only [e22, e23]
      repeat (first | refine wG_pure (u_shr (n := s) rfl rfl s64) ?_ | (first
    | refine wC_a rfl ?_
    | refine q_s rfl ?_
    | refine q_b rfl ?_
    | refine wG_nil ?_
    | refine wG_g rfl ?_
    | refine wG_pure (o_len_vwm rfl) ?_
    | refine wG_pure (o_not_d rfl) ?_
    | refine wG_p rfl (by first | exact rfl | omega) ?_
    | refine wG_pure (o_not rfl) ?_
    | refine wG_pure (e_ia_vw0 rfl rfl (by omega) rfl) ?_
    | refine wG_pure (e_ia_vwp rfl rfl (by omega) rfl) ?_
    | refine wG_pure (e_ia_vwm rfl rfl (by omega) (by omega) rfl) ?_
    | refine wG_pure (e_ia_vwi rfl rfl (by omega) rfl) ?_
    | refine wG_pure (e_ia_vwn rfl rfl (by omega) (by omega) rfl) ?_
    | refine wG_n rfl rfl ?_
    | refine wG_u rfl rfl ?_
    | refine wG_new (o_mks rfl rfl (by omega) (by decide)) ?_))
      exact ret_gen (.inr rfl) (retVs_2 (retV_mv rfl) (retV_mv rfl)) (fin2 e24 e25) (by simp [notOne]) rfl rfl List.nodup_nil (fun i rows h => by simp at h)
    case' exB1 =>
      have hend : q - 1 = Q2 := d4 (ge_n.1 h4)
      simp only [hend]
      repeat (first | refine wG_pure (u_mulw rfl rfl) ?_ | refine wG_pure (u_addw rfl rfl) ?_ | refine wG_pure (u_subw rfl rfl) ?_ | (first
    | refine wC_a rfl ?_
    | refine q_s rfl ?_
    | refine q_b rfl ?_
    | refine wG_nil ?_
    | refine wG_g rfl ?_
    | refine wG_pure (o_len_vwm rfl) ?_
    | refine wG_pure (o_not_d rfl) ?_
    | refine wG_p rfl (by first | exact rfl | omega) ?_
    | refine wG_pure (o_not rfl) ?_
    | refine wG_pure (e_ia_vw0 rfl rfl (by omega) rfl) ?_
    | refine wG_pure (e_ia_vwp rfl rfl (by omega) rfl) ?_
    | refine wG_pure (e_ia_vwm rfl rfl (by omega) (by omega) rfl) ?_
    | refine wG_pure (e_ia_vwi rfl rfl (by omega) rfl) ?_
    | refine wG_pure (e_ia_vwn rfl rfl (by omega) (by omega) rfl) ?_
    | refine wG_n rfl rfl ?_
    | refine wG_u rfl rfl ?_
    | refine wG_new (o_mks rfl rfl (by omega) (by decide)) ?_))
      simp only [e22, e23]
      repeat (first | refine wG_pure (u_shr (n := s) rfl rfl s64) ?_ | (first
    | refine wC_a rfl ?_
    | refine q_s rfl ?_
    | refine q_b rfl ?_
    | refine wG_nil ?_
    | refine wG_g rfl ?_
    | refine wG_pure (o_len_vwm rfl) ?_
    | refine wG_pure (o_not_d rfl) ?_
    | refine wG_p rfl (by first | exact rfl | omega) ?_
    | refine wG_pure (o_not rfl) ?_
    | refine wG_pure (e_ia_vw0 rfl rfl (by omega) rfl) ?_
    | refine wG_pure (e_ia_vwp rfl rfl (by omega) rfl) ?_
    | refine wG_pure (e_ia_vwm rfl rfl (by omega) (by omega) rfl) ?_
    | refine wG_pure (e_ia_vwi rfl rfl (by omega) rfl) ?_
    | refine wG_pure (e_ia_vwn rfl rfl (by omega) (by omega) rfl) ?_
    | refine wG_n rfl rfl ?_
    | refine wG_u rfl rfl ?_
    | refine wG_new (o_mks rfl rfl (by omega) (by decide)) ?_))
      exact ret_gen (.inr rfl) (retVs_2 (retV_mv rfl) (retV_mv rfl)) (fin2 e24 e25) (by simp [notOne]) rfl rfl List.nodup_nil (fun i rows h => by simp at h)
    case' ff1 =>
      have hend : q = Q2 := b7 (fun g => h2 (Int.ofNat_lt.2 g))
      simp only [hend]
      repeat (first | refine wG_pure (u_mulw rfl rfl) ?_ | refine wG_pure (u_addw rfl rfl) ?_ | refine wG_pure (u_subw rfl rfl) ?_ | (first
    | refine wC_a rfl ?_
    | refine q_s rfl ?_
    | refine q_b rfl ?_
    | refine wG_nil ?_
    | refine wG_g rfl ?_
    | refine wG_pure (o_len_vwm rfl) ?_
    | refine wG_pure (o_not_d rfl) ?_
    | refine wG_p rfl (by first | exact rfl | omega) ?_
    | refine wG_pure (o_not rfl) ?_
    | refine wG_pure (e_ia_vw0 rfl rfl (by omega) rfl) ?_
    | refine wG_pure (e_ia_vwp rfl rfl (by omega) rfl) ?_
    | refine wG_pure (e_ia_vwm rfl rfl (by omega) (by omega) rfl) ?_
    | refine wG_pure (e_ia_vwi rfl rfl (by omega) rfl) ?_
    | refine wG_pure (e_ia_vwn rfl rfl (by omega) (by omega) rfl) ?_
    | refine wG_n rfl rfl ?_
    | refine wG_u rfl rfl ?_
    | refine wG_new (o_mks rfl rfl (by omega) (by decide)) ?_))
      simp only [e22, e23]
      repeat (first | refine wG_pure (u_shr (n := s) rfl rfl s64) ?_ | (first
    | refine wC_a rfl ?_
    | refine q_s rfl ?_
    | refine q_b rfl ?_
    | refine wG_nil ?_
    | refine wG_g rfl ?_
    | refine wG_pure (o_len_vwm rfl) ?_
    | refine wG_pure (o_not_d rfl) ?_
    | refine wG_p rfl (by first | exact rfl | omega) ?_
    | refine wG_pure (o_not rfl) ?_
    | refine wG_pure (e_ia_vw0 rfl rfl (by omega) rfl) ?_
    | refine wG_pure (e_ia_vwp rfl rfl (by omega) rfl) ?_
    | refine wG_pure (e_ia_vwm rfl rfl (by omega) (by omega) rfl) ?_
    | refine wG_pure (e_ia_vwi rfl rfl (by omega) rfl) ?_
    | refine wG_pure (e_ia_vwn rfl rfl (by omega) (by omega) rfl) ?_
    | refine wG_n rfl rfl ?_
    | refine wG_u rfl rfl ?_
    | refine wG_new (o_mks rfl rfl (by omega) (by decide)) ?_))
      exact ret_gen (.inr rfl) (retVs_2 (retV_mv rfl) (retV_mv rfl)) (fin2 e24 e25) (by simp [notOne]) rfl rfl List.nodup_nil (fun i rows h => by simp at h)
  case' exB0 =>
    have hend : q - 1 = Q := d4 (ge_n.1 h4)
    simp only [hend]
    clear b1 b2 b3 b4 b5 b6 b7 hend
    repeat (first | refine wG_pure (u_mulw rfl rfl) ?_ | refine wG_pure (u_addw rfl rfl) ?_ | refine wG_pure (u_subw rfl rfl) ?_ | (first
    | refine wC_a rfl ?_
    | refine q_s rfl ?_
    | refine q_b rfl ?_
    | refine wG_nil ?_
    | refine wG_g rfl ?_
    | refine wG_pure (o_len_vwm rfl) ?_
    | refine wG_pure (o_not_d rfl) ?_
    | refine wG_p rfl (by first | exact rfl | omega) ?_
    | refine wG_pure (o_not rfl) ?_
    | refine wG_pure (e_ia_vw0 rfl rfl (by omega) rfl) ?_
    | refine wG_pure (e_ia_vwp rfl rfl (by omega) rfl) ?_
    | refine wG_pure (e_ia_vwm rfl rfl (by omega) (by omega) rfl) ?_
    | refine wG_pure (e_ia_vwi rfl rfl (by omega) rfl) ?_
    | refine wG_pure (e_ia_vwn rfl rfl (by omega) (by omega) rfl) ?_
    | refine wG_n rfl rfl ?_
    | refine wG_u rfl rfl ?_
    | refine wG_new (o_mks rfl rfl (by omega) (by decide)) ?_))
    simp only [e21]
    repeat (first | refine wG_pure (u_quo rfl rfl x1 x2) ?_ | refine wG_pure (u_mul rfl rfl x4) ?_ | refine wG_pure (u_sub rfl rfl x3 x2) ?_ | (first
    | refine wC_a rfl ?_
    | refine q_s rfl ?_
    | refine q_b rfl ?_
    | refine wG_nil ?_
    | refine wG_g rfl ?_
    | refine wG_pure (o_len_vwm rfl) ?_
    | refine wG_pure (o_not_d rfl) ?_
    | refine wG_p rfl (by first | exact rfl | omega) ?_
    | refine wG_pure (o_not rfl) ?_
    | refine wG_pure (e_ia_vw0 rfl rfl (by omega) rfl) ?_
    | refine wG_pure (e_ia_vwp rfl rfl (by omega) rfl) ?_
    | refine wG_pure (e_ia_vwm rfl rfl (by omega) (by omega) rfl) ?_
    | refine wG_pure (e_ia_vwi rfl rfl (by omega) rfl) ?_
    | refine wG_pure (e_ia_vwn rfl rfl (by omega) (by omega) rfl) ?_
    | refine wG_n rfl rfl ?_
    | refine wG_u rfl rfl ?_
    | refine wG_new (o_mks rfl rfl (by omega) (by decide)) ?_))
    refine wC_loop Nat (fun q => ⟨[(2, .int .u64 (V : Int)), (6, .int .u64 0), (7, .int .u64 0), (8, .int .u64 (s : Int)), (9, .int .u64 (V1 : Int)), (10, .int .u64 (V0 : Int)), (14, .int .u64 (un0 : Int)), (15, .int .u64 (Q : Int)), (16, .int .u64 ((U - q * V1 : Nat) : Int)), (17, .int .u64 (U : Int)), (18, .int .u64 (q : Int))], [], 0⟩) (fun q => q * V1 ≤ U ∧ U - q * V1 < 4294967296 ∧ Q2 ≤ q ∧ q ≤ 4294967297) (fun q => q) (U / V1) ⟨x3, x5, x6, x7⟩ ?_ (fun _ _ => Nat.zero_le _) ?_
    · exact ⟨⟨⟨rfl, rfl⟩, ⟨rfl, rfl⟩, ⟨rfl, rfl⟩, ⟨rfl, rfl⟩, ⟨rfl, rfl⟩, ⟨rfl, rfl⟩, ⟨rfl, rfl⟩, ⟨rfl, rfl⟩, ⟨rfl, rfl⟩, ⟨rfl, rfl⟩, ⟨rfl, rfl⟩, trivial⟩, trivial⟩
    rintro q ⟨i1, i2, i3, i4⟩
    obtain ⟨r, hr⟩ : ∃ r, U - q * V1 = r := ⟨_, rfl⟩
    rw [hr] at i2 ⊢
    obtain ⟨b1, b2, b3, b4, b5, b6, b7⟩ := rd2 q r i1 hr i2 i3 i4
    clear i1 hr i2 i3 i4
    repeat (first
    | refine wC_a rfl ?_
    | refine q_s rfl ?_
    | refine q_b rfl ?_
    | refine wG_nil ?_
    | refine wG_g rfl ?_
    | refine wG_pure (o_len_vwm rfl) ?_
    | refine wG_pure (o_not_d rfl) ?_
    | refine wG_p rfl (by first | exact rfl | omega) ?_
    | refine wG_pure (o_not rfl) ?_
    | refine wG_pure (e_ia_vw0 rfl rfl (by omega) rfl) ?_
    | refine wG_pure (e_ia_vwp rfl rfl (by omega) rfl) ?_
    | refine wG_pure (e_ia_vwm rfl rfl (by omega) (by omega) rfl) ?_
    | refine wG_pure (e_ia_vwi rfl rfl (by omega) rfl) ?_
    | refine wG_pure (e_ia_vwn rfl rfl (by omega) (by omega) rfl) ?_
    | refine wG_n rfl rfl ?_
    | refine wG_u rfl rfl ?_
    | refine wG_new (o_mks rfl rfl (by omega) (by decide)) ?_)
    refine Decidable.byCases (p := 4294967296 ≤ q) (fun hq => ?cA2) (fun hq => ?cB2)
    case' cA2 =>
      obtain ⟨d1, d2, d3, d4, d5⟩ := b5 (.inl hq)
      simp only [ge_t hq]
      repeat (first | refine wG_pure (u_sub (b := 1) rfl rfl d1 b4) ?_ | refine wG_pure (u_add rfl rfl b3) ?_ | (first
    | refine wC_a rfl ?_
    | refine q_s rfl ?_
    | refine q_b rfl ?_
    | refine wG_nil ?_
    | refine wG_g rfl ?_
    | refine wG_pure (o_len_vwm rfl) ?_
    | refine wG_pure (o_not_d rfl) ?_
    | refine wG_p rfl (by first | exact rfl | omega) ?_
    | refine wG_pure (o_not rfl) ?_
    | refine wG_pure (e_ia_vw0 rfl rfl (by omega) rfl) ?_
    | refine wG_pure (e_ia_vwp rfl rfl (by omega) rfl) ?_
    | refine wG_pure (e_ia_vwm rfl rfl (by omega) (by omega) rfl) ?_
    | refine wG_pure (e_ia_vwi rfl rfl (by omega) rfl) ?_
    | refine wG_pure (e_ia_vwn rfl rfl (by omega) (by omega) rfl) ?_
    | refine wG_n rfl rfl ?_
    | refine wG_u rfl rfl ?_
    | refine wG_new (o_mks rfl rfl (by omega) (by decide)) ?_))
      refine wC_cond_d rfl (fun h2 => ?exA2) (fun h2 => ?coA2)
    case' coA2 =>
      repeat (first
    | refine wC_a rfl ?_
    | refine q_s rfl ?_
    | refine q_b rfl ?_
    | refine wG_nil ?_
    | refine wG_g rfl ?_
    | refine wG_pure (o_len_vwm rfl) ?_
    | refine wG_pure (o_not_d rfl) ?_
    | refine wG_p rfl (by first | exact rfl | omega) ?_
    | refine wG_pure (o_not rfl) ?_
    | refine wG_pure (e_ia_vw0 rfl rfl (by omega) rfl) ?_
    | refine wG_pure (e_ia_vwp rfl rfl (by omega) rfl) ?_
    | refine wG_pure (e_ia_vwm rfl rfl (by omega) (by omega) rfl) ?_
    | refine wG_pure (e_ia_vwi rfl rfl (by omega) rfl) ?_
    | refine wG_pure (e_ia_vwn rfl rfl (by omega) (by omega) rfl) ?_
    | refine wG_n rfl rfl ?_
    | refine wG_u rfl rfl ?_
    | refine wG_new (o_mks rfl rfl (by omega) (by decide)) ?_)
      refine ⟨q - 1, d5 (fun g => h2 (ge_n.2 g)), d3, ⟨⟨⟨rfl, rfl⟩, ⟨rfl, rfl⟩, ⟨rfl, rfl⟩, ⟨rfl, rfl⟩, ⟨rfl, rfl⟩, ⟨rfl, rfl⟩, ⟨rfl, rfl⟩, ⟨rfl, rfl⟩, ⟨?_, rfl⟩, ⟨rfl, rfl⟩, ⟨rfl, rfl⟩, trivial⟩, trivial⟩⟩
      exact congrArg (fun n : Nat => AV.int .u64 (n : Int)) d2.symm
    case' cB2 =>
      simp only [ge_f hq]
      repeat (first | refine wG_pure (u_mul (a := 4294967296) rfl rfl b1) ?_ | refine wG_pure (u_mul rfl rfl (b6 hq)) ?_ | refine wG_pure (u_add rfl rfl b2) ?_ | (first
    | refine wC_a rfl ?_
    | refine q_s rfl ?_
    | refine q_b rfl ?_
    | refine wG_nil ?_
    | refine wG_g rfl ?_
    | refine wG_pure (o_len_vwm rfl) ?_
    | refine wG_pure (o_not_d rfl) ?_
    | refine wG_p rfl (by first | exact rfl | omega) ?_
    | refine wG_pure (o_not rfl) ?_
    | refine wG_pure (e_ia_vw0 rfl rfl (by omega) rfl) ?_
    | refine wG_pure (e_ia_vwp rfl rfl (by omega) rfl) ?_
    | refine wG_pure (e_ia_vwm rfl rfl (by omega) (by omega) rfl) ?_
    | refine wG_pure (e_ia_vwi rfl rfl (by omega) rfl) ?_
    | refine wG_pure (e_ia_vwn rfl rfl (by omega) (by omega) rfl) ?_
    | refine wG_n rfl rfl ?_
    | refine wG_u rfl rfl ?_
    | refine wG_new (o_mks rfl rfl (by omega) (by decide)) ?_))
      refine wC_cond_d rfl (fun h2 => ?tt2) (fun h2 => ?ff2)
    case' tt2 =>
      obtain ⟨d1, d2, d3, d4, d5⟩ := b5 (.inr (Int.ofNat_lt.1 h2))
      repeat (first | refine wG_pure (u_sub (b := 1) rfl rfl d1 b4) ?_ | refine wG_pure (u_add rfl rfl b3) ?_ | (first
    | refine wC_a rfl ?_
    | refine q_s rfl ?_
    | refine q_b rfl ?_
    | refine wG_nil ?_
    | refine wG_g rfl ?_
    | refine wG_pure (o_len_vwm rfl) ?_
    | refine wG_pure (o_not_d rfl) ?_
    | refine wG_p rfl (by first | exact rfl | omega) ?_
    | refine wG_pure (o_not rfl) ?_
    | refine wG_pure (e_ia_vw0 rfl rfl (by omega) rfl) ?_
    | refine wG_pure (e_ia_vwp rfl rfl (by omega) rfl) ?_
    | refine wG_pure (e_ia_vwm rfl rfl (by omega) (by omega) rfl) ?_
    | refine wG_pure (e_ia_vwi rfl rfl (by omega) rfl) ?_
    | refine wG_pure (e_ia_vwn rfl rfl (by omega) (by omega) rfl) ?_
    | refine wG_n rfl rfl ?_
    | refine wG_u rfl rfl ?_
    | refine wG_new (o_mks rfl rfl (by omega) (by decide)) ?_))
      refine wC_cond_d rfl (fun h4 => ?exB2) (fun h4 => ?coB2)
    case' coB2 =>
      repeat (first
    | refine wC_a rfl ?_
    | refine q_s rfl ?_
    | refine q_b rfl ?_
    | refine wG_nil ?_
    | refine wG_g rfl ?_
    | refine wG_pure (o_len_vwm rfl) ?_
    | refine wG_pure (o_not_d rfl) ?_
    | refine wG_p rfl (by first | exact rfl | omega) ?_
    | refine wG_pure (o_not rfl) ?_
    | refine wG_pure (e_ia_vw0 rfl rfl (by omega) rfl) ?_
    | refine wG_pure (e_ia_vwp rfl rfl (by omega) rfl) ?_
    | refine wG_pure (e_ia_vwm rfl rfl (by omega) (by omega) rfl) ?_
    | refine wG_pure (e_ia_vwi rfl rfl (by omega) rfl) ?_
    | refine wG_pure (e_ia_vwn rfl rfl (by omega) (by omega) rfl) ?_
    | refine wG_n rfl rfl ?_
    | refine wG_u rfl rfl ?_
    | refine wG_new (o_mks rfl rfl (by omega) (by decide)) ?_)
      refine ⟨q - 1, d5 (fun g => h4 (ge_n.2 g)), d3, ⟨⟨⟨rfl, rfl⟩, ⟨rfl, rfl⟩, ⟨rfl, rfl⟩, ⟨rfl, rfl⟩, ⟨rfl, rfl⟩, ⟨rfl, rfl⟩, ⟨rfl, rfl⟩, ⟨rfl, rfl⟩, ⟨?_, rfl⟩, ⟨rfl, rfl⟩, ⟨rfl, rfl⟩, trivial⟩, trivial⟩⟩
      exact congrArg (fun n : Nat => AV.int .u64 (n : Int)) d2.symm
    case' exA2 =>
      have hend : q - 1 = Q2 := d4 (ge_n.1 h2)
      simp only [hend]
      repeat (first | refine wG_pure (u_mulw rfl rfl) ?_ | refine wG_pure (u_addw rfl rfl) ?_ | refine wG_pure (u_subw rfl rfl) ?_ | (first
    | refine wC_a rfl ?_
    | refine q_s rfl ?_
    | refine q_b rfl ?_
    | refine wG_nil ?_
    | refine wG_g rfl ?_
    | refine wG_pure (o_len_vwm rfl) ?_
    | refine wG_pure (o_not_d rfl) ?_
    | refine wG_p rfl (by first | exact rfl | omega) ?_
    | refine wG_pure (o_not rfl) ?_
    | refine wG_pure (e_ia_vw0 rfl rfl (by omega) rfl) ?_
    | refine wG_pure (e_ia_vwp rfl rfl (by omega) rfl) ?_
    | refine wG_pure (e_ia_vwm rfl rfl (by omega) (by omega) rfl) ?_
    | refine wG_pure (e_ia_vwi rfl rfl (by omega) rfl) ?_
    | refine wG_pure (e_ia_vwn rfl rfl (by omega) (by omega) rfl) ?_
    | refine wG_n rfl rfl ?_
    | refine wG_u rfl rfl ?_
    | refine wG_new (o_mks rfl rfl (by omega) (by decide)) ?_))
      simp only [e22, e23]
      repeat (first | refine wG_pure (u_shr (n := s) rfl rfl s64) ?_ | (first
    | refine wC_a rfl ?_
    | refine q_s rfl ?_
    | refine q_b rfl ?_
    | refine wG_nil ?_
    | refine wG_g rfl ?_
    | refine wG_pure (o_len_vwm rfl) ?_
    | refine wG_pure (o_not_d rfl) ?_
    | refine wG_p rfl (by first | exact rfl | omega) ?_
    | refine wG_pure (o_not rfl) ?_
    | refine wG_pure (e_ia_vw0 rfl rfl (by omega) rfl) ?_
    | refine wG_pure (e_ia_vwp rfl rfl (by omega) rfl) ?_
    | refine wG_pure (e_ia_vwm rfl rfl (by omega) (by omega) rfl) ?_
    | refine wG_pure (e_ia_vwi rfl rfl (by omega) rfl) ?_
    | refine wG_pure (e_ia_vwn rfl rfl (by omega) (by omega) rfl) ?_
    | refine wG_n rfl rfl ?_
    | refine wG_u rfl rfl ?_
    | refine wG_new (o_mks rfl rfl (by omega) (by decide)) ?_))
      exact ret_gen (.inr rfl) (retVs_2 (retV_mv rfl) (retV_mv rfl)) (fin2 e24 e25) (by simp [notOne]) rfl rfl List.nodup_nil (fun i rows h => by simp at h)
    case' exB2 =>
      have hend : q - 1 = Q2 := d4 (ge_n.1 h4)
      simp only [hend]
      repeat (first | refine wG_pure (u_mulw rfl rfl) ?_ | refine wG_pure (u_addw rfl rfl) ?_ | refine wG_pure (u_subw rfl rfl) ?_ | (first
    | refine wC_a rfl ?_
    | refine q_s rfl ?_
    | refine q_b rfl ?_
    | refine wG_nil ?_
    | refine wG_g rfl ?_
    | refine wG_pure (o_len_vwm rfl) ?_
    | refine wG_pure (o_not_d rfl) ?_
    | refine wG_p rfl (by first | exact rfl | omega) ?_
    | refine wG_pure (o_not rfl) ?_
    | refine wG_pure (e_ia_vw0 rfl rfl (by omega) rfl) ?_
    | refine wG_pure (e_ia_vwp rfl rfl (by omega) rfl) ?_
    | refine wG_pure (e_ia_vwm rfl rfl (by omega) (by omega) rfl) ?_
    | refine wG_pure (e_ia_vwi rfl rfl (by omega) rfl) ?_
    | refine wG_pure (e_ia_vwn rfl rfl (by omega) (by omega) rfl) ?_
    | refine wG_n rfl rfl ?_
    | refine wG_u rfl rfl ?_
    | refine wG_new (o_mks rfl rfl (by omega) (by decide)) ?_))
      simp only [e22, e23]
      repeat (first | refine wG_pure (u_shr (n := s) rfl rfl s64) ?_ | (first
    | refine wC_a rfl ?_
    | refine q_s rfl ?_
    | refine q_b rfl ?_
    | refine wG_nil ?_
    | refine wG_g rfl ?_
    | refine wG_pure (o_len_vwm rfl) ?_
    | refine wG_pure (o_not_d rfl) ?_
    | refine wG_p rfl (by first | exact rfl | omega) ?_
    | refine wG_pure (o_not rfl) ?_
    | refine wG_pure (e_ia_vw0 rfl rfl (by omega) rfl) ?_
    | refine wG_pure (e_ia_vwp rfl rfl (by omega) rfl) ?_
    | refine wG_pure (e_ia_vwm rfl rfl (by omega) (by omega) rfl) ?_
    | refine wG_pure (e_ia_vwi rfl rfl (by omega) rfl) ?_
    | refine wG_pure (e_ia_vwn rfl rfl (by omega) (by omega) rfl) ?_
    | refine wG_n rfl rfl ?_
    | refine wG_u rfl rfl ?_
    | refine wG_new (o_mks rfl rfl (by omega) (by decide)) ?_))
      exact ret_gen (.inr rfl) (retVs_2 (retV_mv rfl) (retV_mv rfl)) (fin2 e24 e25) (by simp [notOne]) rfl rfl List.nodup_nil (fun i rows h => by simp at h)
    case' ff2 =>
      have hend : q = Q2 := b7 (fun g => h2 (Int.ofNat_lt.2 g))
      simp only [hend]
      repeat (first | refine wG_pure (u_mulw rfl rfl) ?_ | refine wG_pure (u_addw rfl rfl) ?_ | refine wG_pure (u_subw rfl rfl) ?_ | (first
    | refine wC_a rfl ?_
    | refine q_s rfl ?_
    | refine q_b rfl ?_
    | refine wG_nil ?_
    | refine wG_g rfl ?_
    | refine wG_pure (o_len_vwm rfl) ?_
    | refine wG_pure (o_not_d rfl) ?_
    | refine wG_p rfl (by first | exact rfl | omega) ?_
    | refine wG_pure (o_not rfl) ?_
    | refine wG_pure (e_ia_vw0 rfl rfl (by omega) rfl) ?_
    | refine wG_pure (e_ia_vwp rfl rfl (by omega) rfl) ?_
    | refine wG_pure (e_ia_vwm rfl rfl (by omega) (by omega) rfl) ?_
    | refine wG_pure (e_ia_vwi rfl rfl (by omega) rfl) ?_
    | refine wG_pure (e_ia_vwn rfl rfl (by omega) (by omega) rfl) ?_
    | refine wG_n rfl rfl ?_
    | refine wG_u rfl rfl ?_
    | refine wG_new (o_mks rfl rfl (by omega) (by decide)) ?_))
      simp only [e22, e23]
      repeat (first | refine wG_pure (u_shr (n := s) rfl rfl s64) ?_ | (first
    | refine wC_a rfl ?_
    | refine q_s rfl ?_
    | refine q_b rfl ?_
    | refine wG_nil ?_
    | refine wG_g rfl ?_
    | refine wG_pure (o_len_vwm rfl) ?_
    | refine wG_pure (o_not_d rfl) ?_
    | refine wG_p rfl (by first | exact rfl | omega) ?_
    | refine wG_pure (o_not rfl) ?_
    | refine wG_pure (e_ia_vw0 rfl rfl (by omega) rfl) ?_
    | refine wG_pure (e_ia_vwp rfl rfl (by omega) rfl) ?_
    | refine wG_pure (e_ia_vwm rfl rfl (by omega) (by omega) rfl) ?_
    | refine wG_pure (e_ia_vwi rfl rfl (by omega) rfl) ?_
    | refine wG_pure (e_ia_vwn rfl rfl (by omega) (by omega) rfl) ?_
    | refine wG_n rfl rfl ?_
    | refine wG_u rfl rfl ?_
    | refine wG_new (o_mks rfl rfl (by omega) (by decide)) ?_))
      exact ret_gen (.inr rfl) (retVs_2 (retV_mv rfl) (retV_mv rfl)) (fin2 e24 e25) (by simp [notOne]) rfl rfl List.nodup_nil (fun i rows h => by simp at h)
  case' ff0 =>
    have hend : q = Q := b7 (fun g => h2 (Int.ofNat_lt.2 g))
    simp only [hend]
    clear b1 b2 b3 b4 b5 b6 b7 hend
    repeat (first | refine wG_pure (u_mulw rfl rfl) ?_ | refine wG_pure (u_addw rfl rfl) ?_ | refine wG_pure (u_subw rfl rfl) ?_ | (first
    | refine wC_a rfl ?_
    | refine q_s rfl ?_
    | refine q_b rfl ?_
    | refine wG_nil ?_
    | refine wG_g rfl ?_
    | refine wG_pure (o_len_vwm rfl) ?_
    | refine wG_pure (o_not_d rfl) ?_
    | refine wG_p rfl (by first | exact rfl | omega) ?_
    | refine wG_pure (o_not rfl) ?_
    | refine wG_pure (e_ia_vw0 rfl rfl (by omega) rfl) ?_
    | refine wG_pure (e_ia_vwp rfl rfl (by omega) rfl) ?_
    | refine wG_pure (e_ia_vwm rfl rfl (by omega) (by omega) rfl) ?_
    | refine wG_pure (e_ia_vwi rfl rfl (by omega) rfl) ?_
    | refine wG_pure (e_ia_vwn rfl rfl (by omega) (by omega) rfl) ?_
    | refine wG_n rfl rfl ?_
    | refine wG_u rfl rfl ?_
    | refine wG_new (o_mks rfl rfl (by omega) (by decide)) ?_))
    simp only [e21]
    repeat (first | refine wG_pure (u_quo rfl rfl x1 x2) ?_ | refine wG_pure (u_mul rfl rfl x4) ?_ | refine wG_pure (u_sub rfl rfl x3 x2) ?_ | (first
    | refine wC_a rfl ?_
    | refine q_s rfl ?_
    | refine q_b rfl ?_
    | refine wG_nil ?_
    | refine wG_g rfl ?_
    | refine wG_pure (o_len_vwm rfl) ?_
    | refine wG_pure (o_not_d rfl) ?_
    | refine wG_p rfl (by first | exact rfl | omega) ?_
    | refine wG_pure (o_not rfl) ?_
    | refine wG_pure (e_ia_vw0 rfl rfl (by omega) rfl) ?_
    | refine wG_pure (e_ia_vwp rfl rfl (by omega) rfl) ?_
    | refine wG_pure (e_ia_vwm rfl rfl (by omega) (by omega) rfl) ?_
    | refine wG_pure (e_ia_vwi rfl rfl (by omega) rfl) ?_
    | refine wG_pure (e_ia_vwn rfl rfl (by omega) (by omega) rfl) ?_
    | refine wG_n rfl rfl ?_
    | refine wG_u rfl rfl ?_
    | refine wG_new (o_mks rfl rfl (by omega) (by decide)) ?_))
    refine wC_loop Nat (fun q => ⟨[(2, .int .u64 (V : Int)), (6, .int .u64 0), (7, .int .u64 0), (8, .int .u64 (s : Int)), (9, .int .u64 (V1 : Int)), (10, .int .u64 (V0 : Int)), (14, .int .u64 (un0 : Int)), (15, .int .u64 (Q : Int)), (16, .int .u64 ((U - q * V1 : Nat) : Int)), (17, .int .u64 (U : Int)), (18, .int .u64 (q : Int))], [], 0⟩) (fun q => q * V1 ≤ U ∧ U - q * V1 < 4294967296 ∧ Q2 ≤ q ∧ q ≤ 4294967297) (fun q => q) (U / V1) ⟨x3, x5, x6, x7⟩ ?_ (fun _ _ => Nat.zero_le _) ?_
    · exact ⟨⟨⟨rfl, rfl⟩, ⟨rfl, rfl⟩, ⟨rfl, rfl⟩, ⟨rfl, rfl⟩, ⟨rfl, rfl⟩, ⟨rfl, rfl⟩, ⟨rfl, rfl⟩, ⟨rfl, rfl⟩, ⟨rfl, rfl⟩, ⟨rfl, rfl⟩, ⟨rfl, rfl⟩, trivial⟩, trivial⟩
    rintro q ⟨i1, i2, i3, i4⟩
    obtain ⟨r, hr⟩ : ∃ r, U - q * V1 = r := ⟨_, rfl⟩
    rw [hr] at i2 ⊢
    obtain ⟨b1, b2, b3, b4, b5, b6, b7⟩ := rd2 q r i1 hr i2 i3 i4
    clear i1 hr i2 i3 i4
    repeat (first
    | refine wC_a rfl ?_
    | refine q_s rfl ?_
    | refine q_b rfl ?_
    | refine wG_nil ?_
    | refine wG_g rfl ?_
    | refine wG_pure (o_len_vwm rfl) ?_
    | refine wG_pure (o_not_d rfl) ?_
    | refine wG_p rfl (by first | exact rfl | omega) ?_
    | refine wG_pure (o_not rfl) ?_
    | refine wG_pure (e_ia_vw0 rfl rfl (by omega) rfl) ?_
    | refine wG_pure (e_ia_vwp rfl rfl (by omega) rfl) ?_
    | refine wG_pure (e_ia_vwm rfl rfl (by omega) (by omega) rfl) ?_
    | refine wG_pure (e_ia_vwi rfl rfl (by omega) rfl) ?_
    | refine wG_pure (e_ia_vwn rfl rfl (by omega) (by omega) rfl) ?_
    | refine wG_n rfl rfl ?_
    | refine wG_u rfl rfl ?_
    | refine wG_new (o_mks rfl rfl (by omega) (by decide)) ?_)
    refine Decidable.byCases (p := 4294967296 ≤ q) (fun hq => ?cA3) (fun hq => ?cB3)
    case' cA3 =>
      obtain ⟨d1, d2, d3, d4, d5⟩ := b5 (.inl hq)
      simp only [ge_t hq]
      repeat (first | refine wG_pure (u_sub (b := 1) rfl rfl d1 b4) ?_ | refine wG_pure (u_add rfl rfl b3) ?_ | (first
    | refine wC_a rfl ?_
    | refine q_s rfl ?_
    | refine q_b rfl ?_
    | refine wG_nil ?_
    | refine wG_g rfl ?_
    | refine wG_pure (o_len_vwm rfl) ?_
    | refine wG_pure (o_not_d rfl) ?_
    | refine wG_p rfl (by first | exact rfl | omega) ?_
    | refine wG_pure (o_not rfl) ?_
    | refine wG_pure (e_ia_vw0 rfl rfl (by omega) rfl) ?_
    | refine wG_pure (e_ia_vwp rfl rfl (by omega) rfl) ?_
    | refine wG_pure (e_ia_vwm rfl rfl (by omega) (by omega) rfl) ?_
    | refine wG_pure (e_ia_vwi rfl rfl (by omega) rfl) ?_
    | refine wG_pure (e_ia_vwn rfl rfl (by omega) (by omega) rfl) ?_
    | refine wG_n rfl rfl ?_
    | refine wG_u rfl rfl ?_
    | refine wG_new (o_mks rfl rfl (by omega) (by decide)) ?_))
      refine wC_cond_d rfl (fun h2 => ?exA3) (fun h2 => ?coA3)
    case' coA3 =>
      repeat (first
    | refine wC_a rfl ?_
    | refine q_s rfl ?_
    | refine q_b rfl ?_
    | refine wG_nil ?_
    | refine wG_g rfl ?_
    | refine wG_pure (o_len_vwm rfl) ?_
    | refine wG_pure (o_not_d rfl) ?_
    | refine wG_p rfl (by first | exact rfl | omega) ?_
    | refine wG_pure (o_not rfl) ?_
    | refine wG_pure (e_ia_vw0 rfl rfl (by omega) rfl) ?_
    | refine wG_pure (e_ia_vwp rfl rfl (by omega) rfl) ?_
    | refine wG_pure (e_ia_vwm rfl rfl (by omega) (by omega) rfl) ?_
    | refine wG_pure (e_ia_vwi rfl rfl (by omega) rfl) ?_
    | refine wG_pure (e_ia_vwn rfl rfl (by omega) (by omega) rfl) ?_
    | refine wG_n rfl rfl ?_
    | refine wG_u rfl rfl ?_
    | refine wG_new (o_mks rfl rfl (by omega) (by decide)) ?_)
      refine ⟨q - 1, d5 (fun g => h2 (ge_n.2 g)), d3, ⟨⟨⟨rfl, rfl⟩, ⟨rfl, rfl⟩, ⟨rfl, rfl⟩, ⟨rfl, rfl⟩, ⟨rfl, rfl⟩, ⟨rfl, rfl⟩, ⟨rfl, rfl⟩, ⟨rfl, rfl⟩, ⟨?_, rfl⟩, ⟨rfl, rfl⟩, ⟨rfl, rfl⟩, trivial⟩, trivial⟩⟩
      exact congrArg (fun n : Nat => AV.int .u64 (n : Int)) d2.symm
    case' cB3 =>
      simp only [ge_f hq]
      repeat (first | refine wG_pure (u_mul (a := 4294967296) rfl rfl b1) ?_ | refine wG_pure (u_mul rfl rfl (b6 hq)) ?_ | refine wG_pure (u_add rfl rfl b2) ?_ | (first
    | refine wC_a rfl ?_
    | refine q_s rfl ?_
    | refine q_b rfl ?_
    | refine wG_nil ?_
    | refine wG_g rfl ?_
    | refine wG_pure (o_len_vwm rfl) ?_
    | refine wG_pure (o_not_d rfl) ?_
    | refine wG_p rfl (by first | exact rfl | omega) ?_
    | refine wG_pure (o_not rfl) ?_
    | refine wG_pure (e_ia_vw0 rfl rfl (by omega) rfl) ?_
    | refine wG_pure (e_ia_vwp rfl rfl (by omega) rfl) ?_
    | refine wG_pure (e_ia_vwm rfl rfl (by omega) (by omega) rfl) ?_
    | refine wG_pure (e_ia_vwi rfl rfl (by omega) rfl) ?_
    | refine wG_pure (e_ia_vwn rfl rfl (by omega) (by omega) rfl) ?_
    | refine wG_n rfl rfl ?_
    | refine wG_u rfl rfl ?_
    | refine wG_new (o_mks rfl rfl (by omega) (by decide)) ?_))
      refine wC_cond_d rfl (fun h2 => ?tt3) (fun h2 => ?ff3)
    case' tt3 =>
      obtain ⟨d1, d2, d3, d4, d5⟩ := b5 (.inr (Int.ofNat_lt.1 h2))
      repeat (first | refine wG_pure (u_sub (b := 1) rfl rfl d1 b4) ?_ | refine wG_pure (u_add rfl rfl b3) ?_ | (first
    | refine wC_a rfl ?_
    | refine q_s rfl ?_
    | refine q_b rfl ?_
    | refine wG_nil ?_
    | refine wG_g rfl ?_
    | refine wG_pure (o_len_vwm rfl) ?_
    | refine wG_pure (o_not_d rfl) ?_
    | refine wG_p rfl (by first | exact rfl | omega) ?_
    | refine wG_pure (o_not rfl) ?_
    | refine wG_pure (e_ia_vw0 rfl rfl (by omega) rfl) ?_
    | refine wG_pure (e_ia_vwp rfl rfl (by omega) rfl) ?_
    | refine wG_pure (e_ia_vwm rfl rfl (by omega) (by omega) rfl) ?_
    | refine wG_pure (e_ia_vwi rfl rfl (by omega) rfl) ?_
    | refine wG_pure (e_ia_vwn rfl rfl (by omega) (by omega) rfl) ?_
    | refine wG_n rfl rfl ?_
    | refine wG_u rfl rfl ?_
    | refine wG_new (o_mks rfl rfl (by omega) (by decide)) ?_))
      refine wC_cond_d rfl (fun h4 => ?exB3) (fun h4 => ?coB3)
    case' coB3 =>
      repeat (first
    | refine wC_a rfl ?_
    | refine q_s rfl ?_
    | refine q_b rfl ?_
    | refine wG_nil ?_
    | refine wG_g rfl ?_
    | refine wG_pure (o_len_vwm rfl) ?_
    | refine wG_pure (o_not_d rfl) ?_
    | refine wG_p rfl (by first | exact rfl | omega) ?_
    | refine wG_pure (o_not rfl) ?_
    | refine wG_pure (e_ia_vw0 rfl rfl (by omega) rfl) ?_
    | refine wG_pure (e_ia_vwp rfl rfl (by omega) rfl) ?_
    | refine wG_pure (e_ia_vwm rfl rfl (by omega) (by omega) rfl) ?_
    | refine wG_pure (e_ia_vwi rfl rfl (by omega) rfl) ?_
    | refine wG_pure (e_ia_vwn rfl rfl (by omega) (by omega) rfl) ?_
    | refine wG_n rfl rfl ?_
    | refine wG_u rfl rfl ?_
    | refine wG_new (o_mks rfl rfl (by omega) (by decide)) ?_)
      refine ⟨q - 1, d5 (fun g => h4 (ge_n.2 g)), d3, ⟨⟨⟨rfl, rfl⟩, ⟨rfl, rfl⟩, ⟨rfl, rfl⟩, ⟨rfl, rfl⟩, ⟨rfl, rfl⟩, ⟨rfl, rfl⟩, ⟨rfl, rfl⟩, ⟨rfl, rfl⟩, ⟨?_, rfl⟩, ⟨rfl, rfl⟩, ⟨rfl, rfl⟩, trivial⟩, trivial⟩⟩
      exact congrArg (fun n : Nat => AV.int .u64 (n : Int)) d2.symm
    case' exA3 =>
      have hend : q - 1 = Q2 := d4 (ge_n.1 h2)
      simp only [hend]
      repeat (first | refine wG_pure (u_mulw rfl rfl) ?_ | refine wG_pure (u_addw rfl rfl) ?_ | refine wG_pure (u_subw rfl rfl) ?_ | (first
    | refine wC_a rfl ?_
    | refine q_s rfl ?_
    | refine q_b rfl ?_
    | refine wG_nil ?_
    | refine wG_g rfl ?_
    | refine wG_pure (o_len_vwm rfl) ?_
    | refine wG_pure (o_not_d rfl) ?_
    | refine wG_p rfl (by first | exact rfl | omega) ?_
    | refine wG_pure (o_not rfl) ?_
    | refine wG_pure (e_ia_vw0 rfl rfl (by omega) rfl) ?_
    | refine wG_pure (e_ia_vwp rfl rfl (by omega) rfl) ?_
    | refine wG_pure (e_ia_vwm rfl rfl (by omega) (by omega) rfl) ?_
    | refine wG_pure (e_ia_vwi rfl rfl (by omega) rfl) ?_
    | refine wG_pure (e_ia_vwn rfl rfl (by omega) (by omega) rfl) ?_
    | refine wG_n rfl rfl ?_
    | refine wG_u rfl rfl ?_
    | refine wG_new (o_mks rfl rfl (by omega) (by decide)) ?_))
      simp only [e22, e23]
      repeat (first | refine wG_pure (u_shr (n := s) rfl rfl s64) ?_ | (first
    | refine wC_a rfl ?_
    | refine q_s rfl ?_
    | refine q_b rfl ?_
    | refine wG_nil ?_
    | refine wG_g rfl ?_
    | refine wG_pure (o_len_vwm rfl) ?_
    | refine wG_pure (o_not_d rfl) ?_
    | refine wG_p rfl (by first | exact rfl | omega) ?_
    | refine wG_pure (o_not rfl) ?_
    | refine wG_pure (e_ia_vw0 rfl rfl (by omega) rfl) ?_
    | refine wG_pure (e_ia_vwp rfl rfl (by omega) rfl) ?_
    | refine wG_pure (e_ia_vwm rfl rfl (by omega) (by omega) rfl) ?_
    | refine wG_pure (e_ia_vwi rfl rfl (by omega) rfl) ?_
    | refine wG_pure (e_ia_vwn rfl rfl (by omega) (by omega) rfl) ?_
    | refine wG_n rfl rfl ?_
    | refine wG_u rfl rfl ?_
    | refine wG_new (o_mks rfl rfl (by omega) (by decide)) ?_))
      exact ret_gen (.inr rfl) (retVs_2 (retV_mv rfl) (retV_mv rfl)) (fin2 e24 e25) (by simp [notOne]) rfl rfl List.nodup_nil (fun i rows h => by simp at h)
    case' exB3 =>
      have hend : q - 1 = Q2 := d4 (ge_n.1 h4)
      simp only [hend]
      repeat (first | refine wG_pure (u_mulw rfl rfl) ?_ | refine wG_pure (u_addw rfl rfl) ?_ | refine wG_pure (u_subw rfl rfl) ?_ | (first
    | refine wC_a rfl ?_
    | refine q_s rfl ?_
    | refine q_b rfl ?_
    | refine wG_nil ?_
    | refine wG_g rfl ?_
    | refine wG_pure (o_len_vwm rfl) ?_
    | refine wG_pure (o_not_d rfl) ?_
    | refine wG_p rfl (by first | exact rfl | omega) ?_
    | refine wG_pure (o_not rfl) ?_
    | refine wG_pure (e_ia_vw0 rfl rfl (by omega) rfl) ?_
    | refine wG_pure (e_ia_vwp rfl rfl (by omega) rfl) ?_
    | refine wG_pure (e_ia_vwm rfl rfl (by omega) (by omega) rfl) ?_
    | refine wG_pure (e_ia_vwi rfl rfl (by omega) rfl) ?_
    | refine wG_pure (e_ia_vwn rfl rfl (by omega) (by omega) rfl) ?_
    | refine wG_n rfl rfl ?_
    | refine wG_u rfl rfl ?_
    | refine wG_new (o_mks rfl rfl (by omega) (by decide)) ?_))
      simp only [e22, e23]
      repeat (first | refine wG_pure (u_shr (n := s) rfl rfl s64) ?_ | (first
    | refine wC_a rfl ?_
    | refine q_s rfl ?_
    | refine q_b rfl ?_
    | refine wG_nil ?_
    | refine wG_g rfl ?_
    | refine wG_pure (o_len_vwm rfl) ?_
    | refine wG_pure (o_not_d rfl) ?_
    | refine wG_p rfl (by first | exact rfl | omega) ?_
    | refine wG_pure (o_not rfl) ?_
    | refine wG_pure (e_ia_vw0 rfl rfl (by omega) rfl) ?_
    | refine wG_pure (e_ia_vwp rfl rfl (by omega) rfl) ?_
    | refine wG_pure (e_ia_vwm rfl rfl (by omega) (by omega) rfl) ?_
    | refine wG_pure (e_ia_vwi rfl rfl (by omega) rfl) ?_
    | refine wG_pure (e_ia_vwn rfl rfl (by omega) (by omega) rfl) ?_
    | refine wG_n rfl rfl ?_
    | refine wG_u rfl rfl ?_
    | refine wG_new (o_mks rfl rfl (by omega) (by decide)) ?_))
      exact ret_gen (.inr rfl) (retVs_2 (retV_mv rfl) (retV_mv rfl)) (fin2 e24 e25) (by simp [notOne]) rfl rfl List.nodup_nil (fun i rows h => by simp at h)
    case' ff3 =>
      have hend : q = Q2 := b7 (fun g => h2 (Int.ofNat_lt.2 g))
      simp only [hend]
      repeat (first | refine wG_pure (u_mulw rfl rfl) ?_ | refine wG_pure (u_addw rfl rfl) ?_ | refine wG_pure (u_subw rfl rfl) ?_ | (first
    | refine wC_a rfl ?_
    | refine q_s rfl ?_
    | refine q_b rfl ?_
    | refine wG_nil ?_
    | refine wG_g rfl ?_
    | refine wG_pure (o_len_vwm rfl) ?_
    | refine wG_pure (o_not_d rfl) ?_
    | refine wG_p rfl (by first | exact rfl | omega) ?_
    | refine wG_pure (o_not rfl) ?_
    | refine wG_pure (e_ia_vw0 rfl rfl (by omega) rfl) ?_
    | refine wG_pure (e_ia_vwp rfl rfl (by omega) rfl) ?_
    | refine wG_pure (e_ia_vwm rfl rfl (by omega) (by omega) rfl) ?_
    | refine wG_pure (e_ia_vwi rfl rfl (by omega) rfl) ?_
    | refine wG_pure (e_ia_vwn rfl rfl (by omega) (by omega) rfl) ?_
    | refine wG_n rfl rfl ?_
    | refine wG_u rfl rfl ?_
    | refine wG_new (o_mks rfl rfl (by omega) (by decide)) ?_))
      simp only [e22, e23]
      repeat (first | refine wG_pure (u_shr (n := s) rfl rfl s64) ?_ | (first
    | refine wC_a rfl ?_
    | refine q_s rfl ?_
    | refine q_b rfl ?_
    | refine wG_nil ?_
    | refine wG_g rfl ?_
    | refine wG_pure (o_len_vwm rfl) ?_
    | refine wG_pure (o_not_d rfl) ?_
    | refine wG_p rfl (by first | exact rfl | omega) ?_
    | refine wG_pure (o_not rfl) ?_
    | refine wG_pure (e_ia_vw0 rfl rfl (by omega) rfl) ?_
    | refine wG_pure (e_ia_vwp rfl rfl (by omega) rfl) ?_
    | refine wG_pure (e_ia_vwm rfl rfl (by omega) (by omega) rfl) ?_
    | refine wG_pure (e_ia_vwi rfl rfl (by omega) rfl) ?_
    | refine wG_pure (e_ia_vwn rfl rfl (by omega) (by omega) rfl) ?_
    | refine wG_n rfl rfl ?_
    | refine wG_u rfl rfl ?_
    | refine wG_new (o_mks rfl rfl (by omega) (by decide)) ?_))
      exact ret_gen (.inr rfl) (retVs_2 (retV_mv rfl) (retV_mv rfl)) (fin2 e24 e25) (by simp [notOne]) rfl rfl List.nodup_nil (fun i rows h => by simp at h)
end Go.Proofs.Ytnohaclnpbpjbaa.Und
