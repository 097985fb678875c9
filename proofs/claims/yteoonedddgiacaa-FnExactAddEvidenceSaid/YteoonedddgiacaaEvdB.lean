/- A list of equal intervals, new in memory. -/
import Derived.Test.YteoonedddgiacaaEvdA
import Derived.Test.YteoonedddgiacaaAb4
namespace Go.Proofs.Yteoonedddgiacaa.Rec
open Go Go.Proofs.Yteoonedddgiacaa.Ab Go.Proofs.Yteoonedddgiacaa.Il
attribute [local irreducible] wpO wpC wpDr wpQ wpG wpE stepA seqQ blkQ Ret
set_option maxRecDepth 10000
set_option maxHeartbeats 8000000
set_option linter.unusedSimpArgs false
set_option linter.unusedVariables false

def ac55 : AC := (.seq (.reg [⟨(some 4), none, (.mv (.c .nilS))⟩]) (.seq (.seq (.reg [⟨(some 9), none, (.mv (.t 1))⟩, ⟨(some 10), none, (.bin .lss (.t 9) (.c (.int .i64 0)))⟩]) (.cond (.t 10) (.cond (.c .undef) .skip .skip) .skip)) (.seq (.reg [⟨(some 13), none, (.mv (.t 0))⟩, ⟨(some 14), none, (.len (.t 13))⟩, ⟨(some 15), none, (.cv .u64 (.t 14))⟩, ⟨(some 16), none, (.mv (.t 1))⟩, ⟨(some 17), none, (.cv .u64 (.t 16))⟩, ⟨(some 18), none, (.call 64 [(.t 15), (.t 17)])⟩, ⟨(some 12), none, (.mv (.t 18))⟩, ⟨(some 19), none, (.ext (.t 12) 0)⟩, ⟨(some 20), none, (.ext (.t 12) 1)⟩, ⟨(some 5), none, (.mv (.t 19))⟩, ⟨(some 6), none, (.mv (.t 20))⟩]) (.seq (.seq (.reg [⟨(some 21), none, (.mv (.t 5))⟩, ⟨(some 22), none, (.bin .gtr (.t 21) (.c (.int .u64 0)))⟩, ⟨(some 23), none, (.mv (.t 22))⟩, ⟨(some 24), (some (23, false)), (.mv (.t 6))⟩, ⟨(some 25), (some (23, false)), (.bin .gtr (.t 24) (.c (.int .u64 9223372036854775807)))⟩, ⟨(some 26), none, (.pick (.t 23) (.c (.bool true)) (.t 25))⟩]) (.cond (.t 26) (.cond (.c .undef) .skip .skip) .skip)) (.seq (.reg [⟨(some 28), none, (.mv (.t 6))⟩, ⟨(some 29), none, (.cv .i64 (.t 28))⟩, ⟨(some 30), none, (.mks 2 16 [(.int .i64 0), (.int .i64 0)] (.t 29) (.t 29))⟩, ⟨(some 7), none, (.mv (.t 30))⟩]) (.seq (.reg [⟨(some 31), none, (.mv (.t 7))⟩, ⟨(some 32), none, (.mv (.t 0))⟩, ⟨(some 33), none, (.cpy 2 (.t 31) (.t 32))⟩, ⟨(some 8), none, (.mv (.t 33))⟩]) (.seq (.blk 0 (.loop (.seq (.seq (.reg [⟨(some 34), none, (.mv (.t 8))⟩, ⟨(some 35), none, (.mv (.t 7))⟩, ⟨(some 36), none, (.len (.t 35))⟩, ⟨(some 37), none, (.bin .lss (.t 34) (.t 36))⟩]) (.cond (.t 37) .skip (.exit 0))) (.blk 1 (.dreg [⟨(some 38), none, (.mv (.t 8))⟩, ⟨(some 39), none, (.mv (.t 7))⟩, ⟨(some 40), none, (.mv (.t 8))⟩, ⟨(some 41), none, (.slc 2 (.t 39) (some (.t 40)) none)⟩, ⟨(some 42), none, (.mv (.t 7))⟩, ⟨(some 43), none, (.mv (.t 8))⟩, ⟨(some 44), none, (.slc 2 (.t 42) none (some (.t 43)))⟩, ⟨(some 45), none, (.cpy 2 (.t 41) (.t 44))⟩, ⟨(some 46), none, (.bin .add (.t 38) (.t 45))⟩, ⟨(some 8), none, (.mv (.t 46))⟩] [[], [], [], [1, 2], [], [], [4, 5], [1, 2, 3, 4, 5, 6], [0, 1, 2, 3, 4, 5, 6, 7], [0, 1, 2, 3, 4, 5, 6, 7, 8]]))))) (.seq (.reg [⟨(some 47), none, (.mv (.t 7))⟩, ⟨(some 4), none, (.mv (.t 47))⟩]) .ret))))))))
def ro55 : List AOp := [(.mv (.t 4))]
theorem fun55 : Fun Try.prog 55 48 ac55 ro55 := ⟨Try.f55, _, Try.func55, by kernel_rfl, rfl, rfl, by kernel_rfl, by kernel_rfl, by decide⟩
def ac64 : AC := (.seq (.reg [⟨(some 4), none, (.mv (.c (.int .u64 0)))⟩, ⟨(some 5), none, (.mv (.c (.int .u64 0)))⟩]) (.seq (.cond (.c (.bool false)) (.seq (.reg [⟨(some 11), none, (.mv (.t 0))⟩, ⟨(some 12), none, (.cv .u32 (.t 11))⟩, ⟨(some 13), none, (.mv (.t 1))⟩, ⟨(some 14), none, (.cv .u32 (.t 13))⟩, ⟨(some 15), none, (.call 74 [(.t 12), (.t 14)])⟩, ⟨(some 10), none, (.mv (.t 15))⟩, ⟨(some 16), none, (.ext (.t 10) 0)⟩, ⟨(some 17), none, (.ext (.t 10) 1)⟩, ⟨(some 6), none, (.mv (.t 16))⟩, ⟨(some 7), none, (.mv (.t 17))⟩]) (.seq (.reg [⟨(some 18), none, (.mv (.t 6))⟩, ⟨(some 19), none, (.cv .u64 (.t 18))⟩, ⟨(some 20), none, (.mv (.t 7))⟩, ⟨(some 21), none, (.cv .u64 (.t 20))⟩, ⟨(some 4), none, (.mv (.t 19))⟩, ⟨(some 5), none, (.mv (.t 21))⟩]) .ret)) .skip) (.seq (.reg [⟨(some 23), none, (.mv (.t 0))⟩, ⟨(some 24), none, (.mv (.t 1))⟩, ⟨(some 25), none, (.call 75 [(.t 23), (.t 24)])⟩, ⟨(some 22), none, (.mv (.t 25))⟩, ⟨(some 26), none, (.ext (.t 22) 0)⟩, ⟨(some 27), none, (.ext (.t 22) 1)⟩, ⟨(some 8), none, (.mv (.t 26))⟩, ⟨(some 9), none, (.mv (.t 27))⟩]) (.seq (.reg [⟨(some 28), none, (.mv (.t 8))⟩, ⟨(some 29), none, (.mv (.t 9))⟩, ⟨(some 4), none, (.mv (.t 28))⟩, ⟨(some 5), none, (.mv (.t 29))⟩]) .ret))))
def ro64 : List AOp := [(.mv (.t 4)), (.mv (.t 5))]
theorem fun64 : Fun Try.prog 64 30 ac64 ro64 := ⟨Try.f64, _, Try.func64, by kernel_rfl, rfl, rfl, by kernel_rfl, by kernel_rfl, by decide⟩
def ac75 : AC := (.seq (.reg [⟨(some 4), none, (.mv (.c (.int .u64 0)))⟩, ⟨(some 5), none, (.mv (.c (.int .u64 0)))⟩]) (.seq (.reg [⟨(some 14), none, (.mv (.t 0))⟩, ⟨(some 15), none, (.bin .and (.t 14) (.c (.int .u64 4294967295)))⟩, ⟨(some 6), none, (.mv (.t 15))⟩]) (.seq (.reg [⟨(some 16), none, (.mv (.t 0))⟩, ⟨(some 17), none, (.bin .shr (.t 16) (.c (.int .u64 32)))⟩, ⟨(some 7), none, (.mv (.t 17))⟩]) (.seq (.reg [⟨(some 18), none, (.mv (.t 1))⟩, ⟨(some 19), none, (.bin .and (.t 18) (.c (.int .u64 4294967295)))⟩, ⟨(some 8), none, (.mv (.t 19))⟩]) (.seq (.reg [⟨(some 20), none, (.mv (.t 1))⟩, ⟨(some 21), none, (.bin .shr (.t 20) (.c (.int .u64 32)))⟩, ⟨(some 9), none, (.mv (.t 21))⟩]) (.seq (.reg [⟨(some 22), none, (.mv (.t 6))⟩, ⟨(some 23), none, (.mv (.t 8))⟩, ⟨(some 24), none, (.bin .mul (.t 22) (.t 23))⟩, ⟨(some 10), none, (.mv (.t 24))⟩]) (.seq (.reg [⟨(some 25), none, (.mv (.t 7))⟩, ⟨(some 26), none, (.mv (.t 8))⟩, ⟨(some 27), none, (.bin .mul (.t 25) (.t 26))⟩, ⟨(some 28), none, (.mv (.t 10))⟩, ⟨(some 29), none, (.bin .shr (.t 28) (.c (.int .u64 32)))⟩, ⟨(some 30), none, (.bin .add (.t 27) (.t 29))⟩, ⟨(some 11), none, (.mv (.t 30))⟩]) (.seq (.reg [⟨(some 31), none, (.mv (.t 11))⟩, ⟨(some 32), none, (.bin .and (.t 31) (.c (.int .u64 4294967295)))⟩, ⟨(some 12), none, (.mv (.t 32))⟩]) (.seq (.reg [⟨(some 33), none, (.mv (.t 11))⟩, ⟨(some 34), none, (.bin .shr (.t 33) (.c (.int .u64 32)))⟩, ⟨(some 13), none, (.mv (.t 34))⟩]) (.seq (.reg [⟨(some 35), none, (.mv (.t 12))⟩, ⟨(some 36), none, (.mv (.t 6))⟩, ⟨(some 37), none, (.mv (.t 9))⟩, ⟨(some 38), none, (.bin .mul (.t 36) (.t 37))⟩, ⟨(some 39), none, (.bin .add (.t 35) (.t 38))⟩, ⟨(some 12), none, (.mv (.t 39))⟩]) (.seq (.reg [⟨(some 40), none, (.mv (.t 7))⟩, ⟨(some 41), none, (.mv (.t 9))⟩, ⟨(some 42), none, (.bin .mul (.t 40) (.t 41))⟩, ⟨(some 43), none, (.mv (.t 13))⟩, ⟨(some 44), none, (.bin .add (.t 42) (.t 43))⟩, ⟨(some 45), none, (.mv (.t 12))⟩, ⟨(some 46), none, (.bin .shr (.t 45) (.c (.int .u64 32)))⟩, ⟨(some 47), none, (.bin .add (.t 44) (.t 46))⟩, ⟨(some 4), none, (.mv (.t 47))⟩]) (.seq (.reg [⟨(some 48), none, (.mv (.t 0))⟩, ⟨(some 49), none, (.mv (.t 1))⟩, ⟨(some 50), none, (.bin .mul (.t 48) (.t 49))⟩, ⟨(some 5), none, (.mv (.t 50))⟩]) .ret))))))))))))
def ro75 : List AOp := [(.mv (.t 4)), (.mv (.t 5))]
theorem fun75 : Fun Try.prog 75 51 ac75 ro75 := ⟨Try.f75, _, Try.func75, by kernel_rfl, rfl, rfl, by kernel_rfl, by kernel_rfl, by decide⟩

section
variable {T : Nat → AV} {H : Nat → Option Ab.Rows} {nr : Nat} {x y : AX}
theorem u64_in {n : Nat} (h : n ≤ 9223372036854775807) : IntKind.u64.wrap (n : Int) = (n : Int) := by rw [IntKind.wrap_u64]; omega
theorem o_andu {a b : Nat} (h1 : gT T x = .int .u64 (a : Int)) (h2 : gT T y = .int .u64 (b : Int)) (ha : a ≤ 9223372036854775807) (hb : b ≤ 9223372036854775807) : Ab.ev (gT T) H nr (.bin .and x y) = some (.int .u64 ((a &&& b : Nat) : Int), [], 0) := by
  have e : (BitVec.ofInt (IntKind.bits .u64) (a : Int) &&& BitVec.ofInt (IntKind.bits .u64) (b : Int)).toNat = a &&& b := by
    show (BitVec.ofInt 64 (a : Int) &&& BitVec.ofInt 64 (b : Int)).toNat = _
    rw [BitVec.toNat_and, ofI a ha, ofI b hb]
  have := Nat.and_le_left (n := a) (m := b)
  simp only [Ab.ev, h1, h2, binI, if_true, Option.bind_some, pureR, e]
  rw [u64_in (by omega)]
theorem o_mulu {a b : Nat} (h1 : gT T x = .int .u64 (a : Int)) (h2 : gT T y = .int .u64 (b : Int)) (hm : a * b ≤ 9223372036854775807) : Ab.ev (gT T) H nr (.bin .mul x y) = some (.int .u64 ((a * b : Nat) : Int), [], 0) := by
  simp only [Ab.ev, h1, h2, binI, if_true, Option.bind_some, pureR]
  rw [← Int.natCast_mul, u64_in hm]
theorem o_addu {a b : Nat} (h1 : gT T x = .int .u64 (a : Int)) (h2 : gT T y = .int .u64 (b : Int)) (hm : a + b ≤ 9223372036854775807) : Ab.ev (gT T) H nr (.bin .add x y) = some (.int .u64 ((a + b : Nat) : Int), [], 0) := by
  simp only [Ab.ev, h1, h2, binI, if_true, Option.bind_some, pureR]
  rw [← Int.natCast_add, u64_in hm]
theorem o_shru {k : IntKind} {m n : Nat} (h1 : gT T x = .int .u64 (m : Int)) (h2 : gT T y = .int k (n : Int)) (hn : n ≤ 62) : Ab.ev (gT T) H nr (.bin .shr x y) = some (.int .u64 ((m >>> n : Nat) : Int), [], 0) := by
  have hm : min ((n : Int)).toNat (IntKind.bits .u64) = n := by show min n 64 = n; omega
  have e : Int.fdiv (m : Int) (2 ^ n) = ((m >>> n : Nat) : Int) := by
    rw [Int.fdiv_eq_ediv_of_nonneg _ (Int.le_of_lt (Int.pow_pos (by decide))), Nat.shiftRight_eq_div_pow]
    rw [show ((2 : Int) ^ n) = ((2 ^ n : Nat) : Int) from (Int.natCast_pow 2 n).symm]
    exact (Int.natCast_ediv _ _).symm
  simp only [Ab.ev, h1, h2, shI, Option.bind_some, pureR, hm, e]
  rw [if_neg (by omega)]
  rfl
theorem o_cpy {sz r off len : Nat} {rows src : Ab.Rows} (h1 : gT T x = .sl r sz off len) (h2 : H r = some rows) (h3 : rowsOf H sz (gT T y) = some src) (h4 : off + len ≤ rows.length) :
    Ab.ev (gT T) H nr (.cpy sz x y) = some (.int .i64 ((src.take len).length : Int), [(r, some (rows.take off ++ src.take len ++ rows.drop (off + (src.take len).length)))], 0) := by
  simp only [Ab.ev, h1, h2, h3]; rw [if_pos ⟨trivial, h4⟩]
theorem rows_part {sz r off len : Nat} {rows : Ab.Rows} (h1 : gT T y = .sl r sz off len) (h2 : H r = some rows) : rowsOf H sz (gT T y) = some ((rows.drop off).take len) := by
  simp only [rowsOf, h1, h2, if_true, Option.map_some]
end
attribute [local irreducible] ev
theorem con75 (a b : Nat) (ha : a ≤ 1000) (hb : b ≤ 1000) : Con Try.prog 75 true [.int .u64 (a : Int), .int .u64 (b : Int)] (.tup [.int .u64 0, .int .u64 ((a * b : Nat) : Int)]) [] := by
  refine con_of_wp mixed fun75 (by simp) [] plain_nil ?_
  unfold ac75 ro75
  simp only [zipT]
  have hab : a * b ≤ 1000 * 1000 := Nat.mul_le_mul ha hb
  have m32 : ∀ q : Nat, q ≤ 1000000 → q &&& 4294967295 = q := fun q hq => by
    have := Nat.and_two_pow_sub_one_eq_mod q 32
    rw [show 2 ^ 32 - 1 = 4294967295 from rfl] at this
    rw [this]; omega
  have s32 : ∀ q : Nat, q ≤ 1000000 → q >>> 32 = 0 := fun q hq => by rw [Nat.shiftRight_eq_div_pow]; omega
  have a1 := m32 a (by omega)
  have a2 := s32 a (by omega)
  have b1 := m32 b (by omega)
  have b2 := s32 b (by omega)
  have c2 := s32 (a * b) (by omega)
  repeat (first | (refine wG_pure (o_andu (b := 4294967295) rfl rfl (by omega) (by decide)) ?_; try simp only [a1, b1, Nat.zero_and]) | (refine wG_pure (o_shru (n := 32) rfl rfl (by decide)) ?_; try simp only [a2, b2, c2, Nat.zero_shiftRight]) | (refine wG_pure (o_mulu rfl rfl (by omega)) ?_; try simp only [Nat.zero_mul, Nat.mul_zero]) | (refine wG_pure (o_addu rfl rfl (by omega)) ?_; try simp only [Nat.zero_add, Nat.add_zero]) | (first
    | refine wC_a rfl ?_
    | refine q_s rfl ?_
    | refine q_b rfl ?_
    | refine wG_nil ?_
    | refine wG_g rfl ?_
    | refine wG_pure (o_len_vwm rfl) ?_
    | refine wG_pure (o_not_d rfl) ?_
    | refine wG_p rfl (by first | exact rfl | omega) ?_
    | refine wG_pure (o_str2 rfl rfl rfl) ?_
    | refine wG_pure (e_istr rfl rfl (by omega)) ?_
    | refine wG_pure (e_istr0 rfl rfl (by omega)) ?_
    | refine wG_pure (o_not rfl) ?_
    | refine wG_pure (e_ia_vw0 rfl rfl (by omega) rfl) ?_
    | refine wG_pure (e_ia_vwp rfl rfl (by omega) rfl) ?_
    | refine wG_pure (e_ia_vwm rfl rfl (by omega) (by omega) rfl) ?_
    | refine wG_pure (e_ia_vwi rfl rfl (by omega) rfl) ?_
    | refine wG_pure (e_ia_vwn rfl rfl (by omega) (by omega) rfl) ?_
    | refine wG_n rfl rfl ?_
    | refine wG_u rfl rfl ?_
    | refine wG_new (o_mks rfl rfl (by omega) (by decide)) ?_))
  exact ret_pl (.inr rfl) (retVs_2 (retV_mv rfl) (retV_mv rfl)) rfl rfl (by simp)
theorem con64 (a b : Nat) (ha : a ≤ 1000) (hb : b ≤ 1000) : Con Try.prog 64 true [.int .u64 (a : Int), .int .u64 (b : Int)] (.tup [.int .u64 0, .int .u64 ((a * b : Nat) : Int)]) [] := by
  refine con_of_wp mixed fun64 (by simp) [] plain_nil ?_
  unfold ac64 ro64
  simp only [zipT]
  repeat (first | refine wG_call (con75 a b ha hb) rfl rfl ?_ | (first
    | refine wC_a rfl ?_
    | refine q_s rfl ?_
    | refine q_b rfl ?_
    | refine wG_nil ?_
    | refine wG_g rfl ?_
    | refine wG_pure (o_len_vwm rfl) ?_
    | refine wG_pure (o_not_d rfl) ?_
    | refine wG_p rfl (by first | exact rfl | omega) ?_
    | refine wG_pure (o_str2 rfl rfl rfl) ?_
    | refine wG_pure (e_istr rfl rfl (by omega)) ?_
    | refine wG_pure (e_istr0 rfl rfl (by omega)) ?_
    | refine wG_pure (o_not rfl) ?_
    | refine wG_pure (e_ia_vw0 rfl rfl (by omega) rfl) ?_
    | refine wG_pure (e_ia_vwp rfl rfl (by omega) rfl) ?_
    | refine wG_pure (e_ia_vwm rfl rfl (by omega) (by omega) rfl) ?_
    | refine wG_pure (e_ia_vwi rfl rfl (by omega) rfl) ?_
    | refine wG_pure (e_ia_vwn rfl rfl (by omega) (by omega) rfl) ?_
    | refine wG_n rfl rfl ?_
    | refine wG_u rfl rfl ?_
    | refine wG_new (o_mks rfl rfl (by omega) (by decide)) ?_))
  exact ret_pl (.inr rfl) (retVs_2 (retV_mv rfl) (retV_mv rfl)) rfl rfl (by simp)
def repR (v : Iv) (n k : Nat) : Ab.Rows := List.replicate k (vRow v) ++ List.replicate (n - k) [.int .i64 0, .int .i64 0]
theorem repR_len {v : Iv} {n k : Nat} (h : k ≤ n) : (repR v n k).length = n := by simp [repR]; omega
theorem repR_plain (v : Iv) (n k : Nat) : ∀ row ∈ repR v n k, ∀ x ∈ row, AV.plain x = true := by
  intro row hr x hx
  rcases List.mem_append.1 hr with hr | hr
  · rw [(List.mem_replicate.1 hr).2] at hx; exact vRow_plain v x hx
  · rw [(List.mem_replicate.1 hr).2] at hx; simp at hx; subst hx; rfl
theorem repR_up {v : Iv} {n k c : Nat} (h1 : k + c ≤ n) (h2 : c ≤ k) : (repR v n k).take (0 + k) ++ ((List.drop (0 + 0) (repR v n k)).take (k - 0)).take c ++ (repR v n k).drop (0 + k + c) = repR v n (k + c) := by
  have e1 : (repR v n k).take (0 + k) = List.replicate k (vRow v) := by simp [repR]
  have e2 : ((List.drop (0 + 0) (repR v n k)).take (k - 0)).take c = List.replicate c (vRow v) := by
    simp [repR, List.take_take, Nat.min_eq_left h2]
    try omega
  have e3 : (repR v n k).drop (0 + k + c) = List.replicate (n - (k + c)) [.int .i64 0, .int .i64 0] := by
    rw [repR, List.drop_append, List.drop_eq_nil_of_le (by simp)]
    simp
    try omega
  rw [e1, e2, e3, repR, List.replicate_append_replicate]
theorem con55 (v : Iv) (n : Nat) (hn : n ≤ 10) : Con Try.prog 55 true [.vw true ([v].map vRow), .int .i64 (n : Int)] (.sl 0 2 0 n) [(List.replicate n v).map vRow] := by
  refine con_of_wp mixed fun55 (by simp) [0] (plain_map vRow_plain _) ?_
  unfold ac55 ro55
  simp only [zipT]
  have cM := con64 1 n (by decide) (by omega)
  rw [Nat.one_mul] at cM
  repeat' (first | refine wG_pure (o_cvu (n := 1) rfl (by decide)) ?_ | refine wG_pure (o_cvu rfl (by omega)) ?_ | refine wG_call cM rfl rfl ?_ | refine wG_new (o_mksZ (n := n) rfl rfl rfl (by omega) (by decide)) ?_ | (first
    | refine wC_a rfl ?_
    | refine q_s rfl ?_
    | refine q_b rfl ?_
    | refine wG_nil ?_
    | refine wG_g rfl ?_
    | refine wG_pure (o_len_vwm rfl) ?_
    | refine wG_pure (o_not_d rfl) ?_
    | refine wG_p rfl (by first | exact rfl | omega) ?_
    | refine wG_pure (o_str2 rfl rfl rfl) ?_
    | refine wG_pure (e_istr rfl rfl (by omega)) ?_
    | refine wG_pure (e_istr0 rfl rfl (by omega)) ?_
    | refine wG_pure (o_not rfl) ?_
    | refine wG_pure (e_ia_vw0 rfl rfl (by omega) rfl) ?_
    | refine wG_pure (e_ia_vwp rfl rfl (by omega) rfl) ?_
    | refine wG_pure (e_ia_vwm rfl rfl (by omega) (by omega) rfl) ?_
    | refine wG_pure (e_ia_vwi rfl rfl (by omega) rfl) ?_
    | refine wG_pure (e_ia_vwn rfl rfl (by omega) (by omega) rfl) ?_
    | refine wG_n rfl rfl ?_
    | refine wG_u rfl rfl ?_
    | refine wG_new (o_mks rfl rfl (by omega) (by decide)) ?_) | (refine wG_gd rfl (fun hgt => ?_) (fun hgf => ?_) <;> (first | simp only [eq_true hgt, decide_true] | simp only [eq_false hgf, decide_false])) | refine wC_cond_d rfl (fun hg => ?_) (fun hg => ?_))
  any_goals (exfalso; omega)
  refine wG_eff (o_cpy rfl rfl (rows_vw rfl (okRows_map (fun _ => rfl) [v])) (by simp)) ?_
  have hk0 : (List.take n (List.map vRow [v])).length ≤ n ∧ (0 < n → 0 < (List.take n (List.map vRow [v])).length) := by cases n <;> simp
  have hr0 : List.take 0 (List.replicate n [AV.int .i64 0, .int .i64 0]) ++ List.take n (List.map vRow [v]) ++ List.drop (0 + (List.take n (List.map vRow [v])).length) (List.replicate n [AV.int .i64 0, .int .i64 0]) = repR v n (List.take n (List.map vRow [v])).length := by
    cases n with
    | zero => rfl
    | succ n => simp [repR]
  repeat (first
    | refine wC_a rfl ?_
    | refine q_s rfl ?_
    | refine q_b rfl ?_
    | refine wG_nil ?_
    | refine wG_g rfl ?_
    | refine wG_pure (o_len_vwm rfl) ?_
    | refine wG_pure (o_not_d rfl) ?_
    | refine wG_p rfl (by first | exact rfl | omega) ?_
    | refine wG_pure (o_str2 rfl rfl rfl) ?_
    | refine wG_pure (e_istr rfl rfl (by omega)) ?_
    | refine wG_pure (e_istr0 rfl rfl (by omega)) ?_
    | refine wG_pure (o_not rfl) ?_
    | refine wG_pure (e_ia_vw0 rfl rfl (by omega) rfl) ?_
    | refine wG_pure (e_ia_vwp rfl rfl (by omega) rfl) ?_
    | refine wG_pure (e_ia_vwm rfl rfl (by omega) (by omega) rfl) ?_
    | refine wG_pure (e_ia_vwi rfl rfl (by omega) rfl) ?_
    | refine wG_pure (e_ia_vwn rfl rfl (by omega) (by omega) rfl) ?_
    | refine wG_n rfl rfl ?_
    | refine wG_u rfl rfl ?_
    | refine wG_new (o_mks rfl rfl (by omega) (by decide)) ?_)
  refine wC_loop Nat (fun k => ⟨[(7, .sl 0 2 0 n), (8, .int .i64 (k : Int))], [(0, some (repR v n k))], 1⟩) (fun k => k ≤ n ∧ (0 < n → 0 < k)) (fun k => n - k) (List.take n (List.map vRow [v])).length hk0 ?_ (fun _ _ => Nat.zero_le _) ?_
  · exact ⟨⟨⟨rfl, rfl⟩, ⟨rfl, rfl⟩, trivial⟩, ⟨congrArg some hr0, Nat.zero_lt_one, rows_ltr _ _ (repR_plain v n _)⟩, trivial⟩
  rintro k ⟨hk, hk1⟩
  have hl := repR_len (v := v) hk
  repeat (first
    | refine wC_a rfl ?_
    | refine q_s rfl ?_
    | refine q_b rfl ?_
    | refine wG_nil ?_
    | refine wG_g rfl ?_
    | refine wG_pure (o_len_vwm rfl) ?_
    | refine wG_pure (o_not_d rfl) ?_
    | refine wG_p rfl (by first | exact rfl | omega) ?_
    | refine wG_pure (o_str2 rfl rfl rfl) ?_
    | refine wG_pure (e_istr rfl rfl (by omega)) ?_
    | refine wG_pure (e_istr0 rfl rfl (by omega)) ?_
    | refine wG_pure (o_not rfl) ?_
    | refine wG_pure (e_ia_vw0 rfl rfl (by omega) rfl) ?_
    | refine wG_pure (e_ia_vwp rfl rfl (by omega) rfl) ?_
    | refine wG_pure (e_ia_vwm rfl rfl (by omega) (by omega) rfl) ?_
    | refine wG_pure (e_ia_vwi rfl rfl (by omega) rfl) ?_
    | refine wG_pure (e_ia_vwn rfl rfl (by omega) (by omega) rfl) ?_
    | refine wG_n rfl rfl ?_
    | refine wG_u rfl rfl ?_
    | refine wG_new (o_mks rfl rfl (by omega) (by decide)) ?_)
  refine wC_cond_d rfl (fun h2 => ?_) (fun h2 => ?_)
  · have hk2 : k < n := by omega
    have hk3 := hk1 (by omega)
    have hcl : (List.take (n - k) (List.take (k - 0) (List.drop (0 + 0) (repR v n k)))).length = min (n - k) k := by simp [hl]; omega
    have hct : List.take (n - k) (List.take (k - 0) (List.drop (0 + 0) (repR v n k))) = List.take (min (n - k) k) (List.take (k - 0) (List.drop (0 + 0) (repR v n k))) := by
      rw [List.take_take, List.take_take]
      congr 1
      omega
    have hup := repR_up (v := v) (n := n) (k := k) (c := min (n - k) k) (by omega) (Nat.min_le_right _ _)
    rw [← hct] at hup
    repeat (first | refine wE_v (o_slc_sl rfl rfl (bd_i rfl) bd_n (by omega) (by omega)) rfl ?_ | refine wE_v (o_slc_sl rfl rfl bd_n (bd_i rfl) (by omega) (by omega)) rfl ?_ | (refine wE_some (o_cpy rfl rfl (rows_part rfl rfl) (by omega)) rfl ?_; simp only [hcl]) | (first
    | refine wC_a rfl ?_
    | refine q_s rfl ?_
    | refine q_b rfl ?_
    | refine wG_nil ?_
    | refine wG_g rfl ?_
    | refine wG_pure (o_len_vwm rfl) ?_
    | refine wG_pure (o_not_d rfl) ?_
    | refine wG_p rfl (by first | exact rfl | omega) ?_
    | refine wG_pure (o_str2 rfl rfl rfl) ?_
    | refine wG_pure (e_istr rfl rfl (by omega)) ?_
    | refine wG_pure (e_istr0 rfl rfl (by omega)) ?_
    | refine wG_pure (o_not rfl) ?_
    | refine wG_pure (e_ia_vw0 rfl rfl (by omega) rfl) ?_
    | refine wG_pure (e_ia_vwp rfl rfl (by omega) rfl) ?_
    | refine wG_pure (e_ia_vwm rfl rfl (by omega) (by omega) rfl) ?_
    | refine wG_pure (e_ia_vwi rfl rfl (by omega) rfl) ?_
    | refine wG_pure (e_ia_vwn rfl rfl (by omega) (by omega) rfl) ?_
    | refine wG_n rfl rfl ?_
    | refine wG_u rfl rfl ?_
    | refine wG_new (o_mks rfl rfl (by omega) (by decide)) ?_) | (first
    | refine wE_nil (by kernel_rfl) ?_
    | refine wE_gy rfl ?_
    | refine wE_gn rfl rfl rfl ?_
    | refine wE_gu rfl rfl ?_
    | refine wE_gnn rfl rfl rfl ?_
    | refine wE_v (o_len_vwm rfl) rfl ?_
    | refine wE_v (o_not_d rfl) rfl ?_
    | refine wE_p rfl (by first | exact rfl | omega) rfl ?_
    | refine wE_v (o_str2 rfl rfl rfl) rfl ?_
    | refine wE_v (e_istr rfl rfl (by omega)) rfl ?_
    | refine wE_v (e_istr0 rfl rfl (by omega)) rfl ?_
    | refine wE_v (o_not rfl) rfl ?_
    | refine wE_v (e_ia_vw0 rfl rfl (by omega) rfl) rfl ?_
    | refine wE_v (e_ia_vwp rfl rfl (by omega) rfl) rfl ?_
    | refine wE_v (e_ia_vwm rfl rfl (by omega) (by omega) rfl) rfl ?_
    | refine wE_v (e_ia_vwi rfl rfl (by omega) rfl) rfl ?_
    | refine wE_v (e_ia_vwn rfl rfl (by omega) (by omega) rfl) rfl ?_
    | refine wE_n rfl rfl rfl ?_
    | refine wE_u rfl rfl rfl ?_
    | refine wE_new (o_mks rfl rfl (by omega) (by decide)) rfl ?_))
    refine ⟨k + min (n - k) k, ⟨by omega, fun _ => by omega⟩, by omega, ⟨⟨rfl, rfl⟩, ⟨rfl, rfl⟩, trivial⟩, ⟨congrArg some hup, Nat.zero_lt_one, rows_ltr _ _ (repR_plain v n _)⟩, trivial⟩
  · have hk3 : k = n := by omega
    subst hk3
    repeat (first
    | refine wC_a rfl ?_
    | refine q_s rfl ?_
    | refine q_b rfl ?_
    | refine wG_nil ?_
    | refine wG_g rfl ?_
    | refine wG_pure (o_len_vwm rfl) ?_
    | refine wG_pure (o_not_d rfl) ?_
    | refine wG_p rfl (by first | exact rfl | omega) ?_
    | refine wG_pure (o_str2 rfl rfl rfl) ?_
    | refine wG_pure (e_istr rfl rfl (by omega)) ?_
    | refine wG_pure (e_istr0 rfl rfl (by omega)) ?_
    | refine wG_pure (o_not rfl) ?_
    | refine wG_pure (e_ia_vw0 rfl rfl (by omega) rfl) ?_
    | refine wG_pure (e_ia_vwp rfl rfl (by omega) rfl) ?_
    | refine wG_pure (e_ia_vwm rfl rfl (by omega) (by omega) rfl) ?_
    | refine wG_pure (e_ia_vwi rfl rfl (by omega) rfl) ?_
    | refine wG_pure (e_ia_vwn rfl rfl (by omega) (by omega) rfl) ?_
    | refine wG_n rfl rfl ?_
    | refine wG_u rfl rfl ?_
    | refine wG_new (o_mks rfl rfl (by omega) (by decide)) ?_)
    refine ret_sl (.inr rfl) (retV_mv rfl) ?_
    have : repR v k k = (List.replicate k v).map vRow := by simp [repR]
    rw [← this]
    rfl
end Go.Proofs.Yteoonedddgiacaa.Rec
