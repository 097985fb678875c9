/- Distributions: divisors, sums, and what a valid distribution is, on both sides. -/
import Derived.Test.YtkkcplcgafndgaaIntA
import Derived.Test.YtkkcplcgafndgaaAb1
namespace Go.Proofs.Ytkkcplcgafndgaa.Dst
open Go Go.Proofs.Ytkkcplcgafndgaa.Ab Go.Proofs.Ytkkcplcgafndgaa.Il
attribute [local irreducible] wpO wpC wpDr wpQ wpG wpE stepA seqQ blkQ Ret ev
set_option maxRecDepth 10000
set_option maxHeartbeats 4000000
set_option linter.unusedSimpArgs false
set_option linter.unusedVariables false

def ac52 : AC := (.seq (.reg [⟨(some 4), none, (.mv (.c (.int .i64 0)))⟩]) (.seq (.blk 0 (.loop (.seq (.seq (.reg [⟨(some 6), none, (.mv (.t 1))⟩, ⟨(some 7), none, (.bin .neq (.t 6) (.c (.int .i64 0)))⟩]) (.cond (.t 7) .skip (.exit 0))) (.blk 1 (.seq (.reg [⟨(some 8), none, (.mv (.t 0))⟩, ⟨(some 9), none, (.mv (.t 1))⟩, ⟨(some 10), none, (.bin .rem (.t 8) (.t 9))⟩, ⟨(some 5), none, (.mv (.t 10))⟩]) (.seq (.reg [⟨(some 11), none, (.mv (.t 1))⟩, ⟨(some 0), none, (.mv (.t 11))⟩]) (.reg [⟨(some 12), none, (.mv (.t 5))⟩, ⟨(some 1), none, (.mv (.t 12))⟩]))))))) (.seq (.reg [⟨(some 13), none, (.mv (.t 0))⟩, ⟨(some 4), none, (.mv (.t 13))⟩]) .ret)))
def ro52 : List AOp := [(.mv (.t 4))]
theorem fun52 : Fun Try.prog 52 14 ac52 ro52 := ⟨Try.f52, _, Try.func52, by kernel_rfl, rfl, rfl, by kernel_rfl, by kernel_rfl, by decide⟩
def ac53 : AC := (.seq (.reg [⟨(some 1), none, (.box 2 true (.t 0))⟩, ⟨(some 2), none, (.mv (.c (.bool false)))⟩]) (.seq (.reg [⟨(some 6), none, (.fa 1 (.t 1))⟩, ⟨(some 7), none, (.ld false 1 (.t 6))⟩, ⟨(some 8), none, (.len (.t 7))⟩, ⟨(some 3), none, (.mv (.t 8))⟩]) (.seq (.seq (.reg [⟨(some 9), none, (.mv (.t 3))⟩, ⟨(some 10), none, (.call 27 [(.t 9), (.c (.int .i64 1)), (.c (.int .i64 60))])⟩, ⟨(some 11), none, (.un .not (.t 10))⟩, ⟨(some 12), none, (.mv (.t 11))⟩, ⟨(some 13), (some (12, false)), (.fa 0 (.t 1))⟩, ⟨(some 14), (some (12, false)), (.ld false 1 (.t 13))⟩, ⟨(some 15), (some (12, false)), (.mv (.t 3))⟩, ⟨(some 16), (some (12, false)), (.bin .sub (.c (.int .i64 2100)) (.t 15))⟩, ⟨(some 17), (some (12, false)), (.bin .add (.t 16) (.c (.int .i64 1)))⟩, ⟨(some 18), (some (12, false)), (.call 27 [(.t 14), (.c (.int .i64 (-20000))), (.t 17)])⟩, ⟨(some 19), (some (12, false)), (.un .not (.t 18))⟩, ⟨(some 20), none, (.pick (.t 12) (.c (.bool true)) (.t 19))⟩, ⟨(some 21), none, (.mv (.t 20))⟩, ⟨(some 22), (some (21, false)), (.fa 1 (.t 1))⟩, ⟨(some 23), (some (21, false)), (.ld false 1 (.t 22))⟩, ⟨(some 24), (some (21, false)), (.ia 1 (.t 23) (.c (.int .i64 0)))⟩, ⟨(some 25), (some (21, false)), (.ld false 1 (.t 24))⟩, ⟨(some 26), (some (21, false)), (.bin .leq (.t 25) (.c (.int .i64 0)))⟩, ⟨(some 27), none, (.pick (.t 21) (.c (.bool true)) (.t 26))⟩, ⟨(some 28), none, (.mv (.t 27))⟩, ⟨(some 29), (some (28, false)), (.fa 1 (.t 1))⟩, ⟨(some 30), (some (28, false)), (.ld false 1 (.t 29))⟩, ⟨(some 31), (some (28, false)), (.mv (.t 3))⟩, ⟨(some 32), (some (28, false)), (.bin .sub (.t 31) (.c (.int .i64 1)))⟩, ⟨(some 33), (some (28, false)), (.ia 1 (.t 30) (.t 32))⟩, ⟨(some 34), (some (28, false)), (.ld false 1 (.t 33))⟩, ⟨(some 35), (some (28, false)), (.bin .leq (.t 34) (.c (.int .i64 0)))⟩, ⟨(some 36), none, (.pick (.t 28) (.c (.bool true)) (.t 35))⟩]) (.cond (.t 36) (.seq (.reg [⟨(some 2), none, (.mv (.c (.bool false)))⟩]) .ret) .skip)) (.seq (.reg [⟨(some 4), none, (.mv (.c (.int .i64 0)))⟩]) (.seq (.seq (.reg [⟨(some 5), none, (.mv (.c (.int .i64 0)))⟩]) (.blk 0 (.loop (.seq (.seq (.reg [⟨(some 37), none, (.mv (.t 5))⟩, ⟨(some 38), none, (.mv (.t 3))⟩, ⟨(some 39), none, (.bin .lss (.t 37) (.t 38))⟩]) (.cond (.t 39) .skip (.exit 0))) (.seq (.blk 1 (.seq (.seq (.reg [⟨(some 42), none, (.fa 1 (.t 1))⟩, ⟨(some 43), none, (.ld false 1 (.t 42))⟩, ⟨(some 44), none, (.mv (.t 5))⟩, ⟨(some 45), none, (.ia 1 (.t 43) (.t 44))⟩, ⟨(some 46), none, (.ld false 1 (.t 45))⟩, ⟨(some 47), none, (.call 27 [(.t 46), (.c (.int .i64 0)), (.c (.int .i64 1000000))])⟩, ⟨(some 48), none, (.un .not (.t 47))⟩]) (.cond (.t 48) (.seq (.reg [⟨(some 2), none, (.mv (.c (.bool false)))⟩]) .ret) .skip)) (.reg [⟨(some 49), none, (.mv (.t 4))⟩, ⟨(some 50), none, (.fa 1 (.t 1))⟩, ⟨(some 51), none, (.ld false 1 (.t 50))⟩, ⟨(some 52), none, (.mv (.t 5))⟩, ⟨(some 53), none, (.ia 1 (.t 51) (.t 52))⟩, ⟨(some 54), none, (.ld false 1 (.t 53))⟩, ⟨(some 55), none, (.call 52 [(.t 49), (.t 54)])⟩, ⟨(some 4), none, (.mv (.t 55))⟩]))) (.reg [⟨(some 40), none, (.mv (.t 5))⟩, ⟨(some 41), none, (.bin .add (.t 40) (.c (.int .i64 1)))⟩, ⟨(some 5), none, (.mv (.t 41))⟩])))))) (.seq (.reg [⟨(some 56), none, (.mv (.t 4))⟩, ⟨(some 57), none, (.bin .eql (.t 56) (.c (.int .i64 1)))⟩, ⟨(some 2), none, (.mv (.t 57))⟩]) .ret))))))
def ro53 : List AOp := [(.mv (.t 2))]
theorem fun53 : Fun Try.prog 53 58 ac53 ro53 := ⟨Try.f53, _, Try.func53, by kernel_rfl, rfl, rfl, by kernel_rfl, by kernel_rfl, by decide⟩
def ac55 : AC := (.seq (.reg [⟨(some 2), none, (.mv (.c (.int .i64 0)))⟩]) (.seq (.reg [⟨(some 3), none, (.mv (.c (.int .i64 0)))⟩]) (.seq (.seq (.reg [⟨(some 6), none, (.mv (.t 0))⟩, ⟨(some 7), none, (.len (.t 6))⟩, ⟨(some 8), none, (.mv (.c (.int .i64 0)))⟩]) (.blk 0 (.loop (.seq (.reg [⟨(some 9), none, (.bin .lss (.t 8) (.t 7))⟩]) (.seq (.cond (.t 9) .skip (.exit 0)) (.seq (.blk 1 (.seq (.reg [⟨(some 10), none, (.ia 1 (.t 6) (.t 8))⟩, ⟨(some 11), none, (.ld false 1 (.t 10))⟩, ⟨(some 5), none, (.mv (.t 11))⟩]) (.reg [⟨(some 12), none, (.mv (.t 3))⟩, ⟨(some 13), none, (.mv (.t 5))⟩, ⟨(some 14), none, (.call 63 [(.t 12), (.t 13)])⟩, ⟨(some 3), none, (.mv (.t 14))⟩]))) (.reg [⟨(some 15), none, (.bin .add (.t 8) (.c (.int .i64 1)))⟩, ⟨(some 8), none, (.mv (.t 15))⟩]))))))) (.seq (.reg [⟨(some 16), none, (.mv (.t 3))⟩, ⟨(some 2), none, (.mv (.t 16))⟩]) .ret))))
def ro55 : List AOp := [(.mv (.t 2))]
theorem fun55 : Fun Try.prog 55 17 ac55 ro55 := ⟨Try.f55, _, Try.func55, by kernel_rfl, rfl, rfl, by kernel_rfl, by kernel_rfl, by decide⟩
def ac56 : AC := (.seq (.reg [⟨(some 1), none, (.box 2 true (.t 0))⟩, ⟨(some 2), none, (.mv (.c (.bool false)))⟩]) (.seq (.reg [⟨(some 4), none, (.fa 1 (.t 1))⟩, ⟨(some 5), none, (.ld false 1 (.t 4))⟩, ⟨(some 6), none, (.len (.t 5))⟩, ⟨(some 3), none, (.mv (.t 6))⟩]) (.seq (.seq (.reg [⟨(some 7), none, (.mv (.t 3))⟩, ⟨(some 8), none, (.bin .lss (.t 7) (.c (.int .i64 1)))⟩, ⟨(some 9), none, (.mv (.t 8))⟩, ⟨(some 10), (some (9, false)), (.mv (.t 3))⟩, ⟨(some 11), (some (9, false)), (.bin .gtr (.t 10) (.c (.int .i64 60)))⟩, ⟨(some 12), none, (.pick (.t 9) (.c (.bool true)) (.t 11))⟩, ⟨(some 13), none, (.mv (.t 12))⟩, ⟨(some 14), (some (13, false)), (.fa 0 (.t 1))⟩, ⟨(some 15), (some (13, false)), (.ld false 1 (.t 14))⟩, ⟨(some 16), (some (13, false)), (.call 29 [(.t 15)])⟩, ⟨(some 17), (some (13, false)), (.un .not (.t 16))⟩, ⟨(some 18), none, (.pick (.t 13) (.c (.bool true)) (.t 17))⟩, ⟨(some 19), none, (.mv (.t 18))⟩, ⟨(some 20), (some (19, false)), (.ld true 2 (.t 1))⟩, ⟨(some 21), (some (19, false)), (.call 64 [(.t 20)])⟩, ⟨(some 22), (some (19, false)), (.call 29 [(.t 21)])⟩, ⟨(some 23), (some (19, false)), (.un .not (.t 22))⟩, ⟨(some 24), none, (.pick (.t 19) (.c (.bool true)) (.t 23))⟩]) (.cond (.t 24) (.seq (.reg [⟨(some 2), none, (.mv (.c (.bool false)))⟩]) .ret) .skip)) (.seq (.seq (.reg [⟨(some 25), none, (.fa 1 (.t 1))⟩, ⟨(some 26), none, (.ld false 1 (.t 25))⟩, ⟨(some 27), none, (.call 30 [(.t 26), (.c (.fn 65 []))])⟩]) (.cond (.t 27) (.seq (.reg [⟨(some 2), none, (.mv (.c (.bool false)))⟩]) .ret) .skip)) (.seq (.reg [⟨(some 28), none, (.fa 1 (.t 1))⟩, ⟨(some 29), none, (.ld false 1 (.t 28))⟩, ⟨(some 30), none, (.ia 1 (.t 29) (.c (.int .i64 0)))⟩, ⟨(some 31), none, (.ld false 1 (.t 30))⟩, ⟨(some 32), none, (.bin .gtr (.t 31) (.c (.int .i64 0)))⟩, ⟨(some 33), none, (.mv (.t 32))⟩, ⟨(some 34), (some (33, true)), (.fa 1 (.t 1))⟩, ⟨(some 35), (some (33, true)), (.ld false 1 (.t 34))⟩, ⟨(some 36), (some (33, true)), (.mv (.t 3))⟩, ⟨(some 37), (some (33, true)), (.bin .sub (.t 36) (.c (.int .i64 1)))⟩, ⟨(some 38), (some (33, true)), (.ia 1 (.t 35) (.t 37))⟩, ⟨(some 39), (some (33, true)), (.ld false 1 (.t 38))⟩, ⟨(some 40), (some (33, true)), (.bin .gtr (.t 39) (.c (.int .i64 0)))⟩, ⟨(some 41), none, (.pick (.t 33) (.t 40) (.c (.bool false)))⟩, ⟨(some 42), none, (.mv (.t 41))⟩, ⟨(some 43), (some (42, true)), (.fa 1 (.t 1))⟩, ⟨(some 44), (some (42, true)), (.ld false 1 (.t 43))⟩, ⟨(some 45), (some (42, true)), (.call 55 [(.t 44)])⟩, ⟨(some 46), (some (42, true)), (.bin .eql (.t 45) (.c (.int .i64 1)))⟩, ⟨(some 47), none, (.pick (.t 42) (.t 46) (.c (.bool false)))⟩, ⟨(some 2), none, (.mv (.t 47))⟩]) .ret)))))
def ro56 : List AOp := [(.mv (.t 2))]
theorem fun56 : Fun Try.prog 56 48 ac56 ro56 := ⟨Try.f56, _, Try.func56, by kernel_rfl, rfl, rfl, by kernel_rfl, by kernel_rfl, by decide⟩
def ac63 : AC := (.seq (.reg [⟨(some 4), none, (.mv (.c (.int .i64 0)))⟩]) (.seq (.blk 0 (.loop (.seq (.seq (.reg [⟨(some 5), none, (.mv (.t 1))⟩, ⟨(some 6), none, (.bin .neq (.t 5) (.c (.int .i64 0)))⟩]) (.cond (.t 6) .skip (.exit 0))) (.blk 1 (.dreg [⟨(some 7), none, (.mv (.t 1))⟩, ⟨(some 8), none, (.mv (.t 0))⟩, ⟨(some 9), none, (.mv (.t 1))⟩, ⟨(some 10), none, (.bin .rem (.t 8) (.t 9))⟩, ⟨(some 0), none, (.mv (.t 7))⟩, ⟨(some 1), none, (.mv (.t 10))⟩] [[], [], [], [1, 2], [0, 1], [0, 1, 2, 3, 4]]))))) (.seq (.reg [⟨(some 11), none, (.mv (.t 0))⟩, ⟨(some 4), none, (.mv (.t 11))⟩]) .ret)))
def ro63 : List AOp := [(.mv (.t 4))]
theorem fun63 : Fun Try.prog 63 12 ac63 ro63 := ⟨Try.f63, _, Try.func63, by kernel_rfl, rfl, rfl, by kernel_rfl, by kernel_rfl, by decide⟩
def ac64 : AC := (.seq (.reg [⟨(some 1), none, (.box 2 true (.t 0))⟩, ⟨(some 2), none, (.mv (.c (.int .i64 0)))⟩]) (.seq (.reg [⟨(some 3), none, (.fa 0 (.t 1))⟩, ⟨(some 4), none, (.ld false 1 (.t 3))⟩, ⟨(some 5), none, (.fa 1 (.t 1))⟩, ⟨(some 6), none, (.ld false 1 (.t 5))⟩, ⟨(some 7), none, (.len (.t 6))⟩, ⟨(some 8), none, (.bin .add (.t 4) (.t 7))⟩, ⟨(some 9), none, (.bin .sub (.t 8) (.c (.int .i64 1)))⟩, ⟨(some 2), none, (.mv (.t 9))⟩]) .ret))
def ro64 : List AOp := [(.mv (.t 2))]
theorem fun64 : Fun Try.prog 64 10 ac64 ro64 := ⟨Try.f64, _, Try.func64, by kernel_rfl, rfl, rfl, by kernel_rfl, by kernel_rfl, by decide⟩
def ac65 : AC := (.seq (.reg [⟨(some 2), none, (.mv (.c (.bool false)))⟩]) (.seq (.reg [⟨(some 3), none, (.mv (.t 0))⟩, ⟨(some 4), none, (.call 32 [(.t 3), (.c (.int .i64 0)), (.c (.int .i64 1000000))])⟩, ⟨(some 5), none, (.un .not (.t 4))⟩, ⟨(some 2), none, (.mv (.t 5))⟩]) .ret))
def ro65 : List AOp := [(.mv (.t 2))]
theorem fun65 : Fun Try.prog 65 6 ac65 ro65 := ⟨Try.f65, _, Try.func65, by kernel_rfl, rfl, rfl, by kernel_rfl, by kernel_rfl, by decide⟩

structure Ds where
  f : Int
  ws : List Int
  deriving Inhabited
def dRow (nn : Bool) (d : Ds) : List AV := [.int .i64 d.f, .vw nn (d.ws.map iRow)]

theorem gcd_step {a b : Int} (ha : 0 ≤ a) (hb : 0 ≤ b) : Int.gcd b (a.tmod b) = Int.gcd a b := by
  obtain ⟨m, rfl⟩ := Int.eq_ofNat_of_zero_le ha
  obtain ⟨n, rfl⟩ := Int.eq_ofNat_of_zero_le hb
  rw [← Int.ofNat_tmod]
  show Nat.gcd n (m % n) = Nat.gcd m n
  rw [Nat.gcd_comm m n, Nat.gcd_rec n m, Nat.gcd_comm]
theorem con52 {a b : Int} (ha : 0 ≤ a) (hb : 0 ≤ b) : Con Try.prog 52 true [.int .i64 a, .int .i64 b] (.int .i64 (Int.gcd a b : Int)) [] := by
  refine con_of_wp mixed fun52 (by simp) [] plain_nil ?_
  unfold ac52 ro52
  simp only [zipT]
  repeat (first
    | refine wC_a rfl ?_
    | refine q_s rfl ?_
    | refine q_b rfl ?_
    | refine wG_nil ?_
    | refine wG_g rfl ?_
    | refine wG_pure (o_len_vwm rfl) ?_
    | refine wG_pure (o_not_d rfl) ?_
    | refine wG_p rfl (by first | exact rfl | omega) ?_
    | refine wG_pure (o_not rfl) ?_
    | refine wG_pure (e_ia_vw0 rfl rfl (by omega) rfl) ?_
    | refine wG_pure (e_ia_vwp rfl rfl (by omega) rfl) ?_
    | refine wG_pure (e_ia_vwm rfl rfl (by omega) (by omega) rfl) ?_
    | refine wG_pure (e_ia_vwi rfl rfl (by omega) rfl) ?_
    | refine wG_pure (e_ia_vwn rfl rfl (by omega) (by omega) rfl) ?_
    | refine wG_n rfl rfl ?_
    | refine wG_u rfl rfl ?_
    | refine wG_new (o_mks rfl rfl (by omega) (by decide)) ?_)
  refine wC_loop (Int × Int) (fun x => ⟨[(0, .int .i64 x.1), (1, .int .i64 x.2)], [], 0⟩) (fun x => 0 ≤ x.1 ∧ 0 ≤ x.2 ∧ Int.gcd x.1 x.2 = Int.gcd a b) (fun x => x.2.toNat) (a, b) ⟨ha, hb, rfl⟩ ?_ (fun _ _ => Nat.le_refl _) ?_
  · simp [LeP, leT, leH, lk, AV.ltr]
  rintro ⟨x, y⟩ ⟨h1, h2, h3⟩
  simp only at h1 h2 h3
  repeat (first
    | refine wC_a rfl ?_
    | refine q_s rfl ?_
    | refine q_b rfl ?_
    | refine wG_nil ?_
    | refine wG_g rfl ?_
    | refine wG_pure (o_len_vwm rfl) ?_
    | refine wG_pure (o_not_d rfl) ?_
    | refine wG_p rfl (by first | exact rfl | omega) ?_
    | refine wG_pure (o_not rfl) ?_
    | refine wG_pure (e_ia_vw0 rfl rfl (by omega) rfl) ?_
    | refine wG_pure (e_ia_vwp rfl rfl (by omega) rfl) ?_
    | refine wG_pure (e_ia_vwm rfl rfl (by omega) (by omega) rfl) ?_
    | refine wG_pure (e_ia_vwi rfl rfl (by omega) rfl) ?_
    | refine wG_pure (e_ia_vwn rfl rfl (by omega) (by omega) rfl) ?_
    | refine wG_n rfl rfl ?_
    | refine wG_u rfl rfl ?_
    | refine wG_new (o_mks rfl rfl (by omega) (by decide)) ?_)
  refine wC_cond_d rfl (fun h4 => ?_) (fun h4 => ?_)
  · have hm0 : 0 ≤ x.tmod y := Int.tmod_nonneg _ h1
    have hm1 : x.tmod y < y := by
      have := Int.tmod_lt_of_pos x (show 0 < y by omega)
      exact this
    repeat (first | refine wG_pure (o_rem rfl rfl h4) ?_ | (first
    | refine wC_a rfl ?_
    | refine q_s rfl ?_
    | refine q_b rfl ?_
    | refine wG_nil ?_
    | refine wG_g rfl ?_
    | refine wG_pure (o_len_vwm rfl) ?_
    | refine wG_pure (o_not_d rfl) ?_
    | refine wG_p rfl (by first | exact rfl | omega) ?_
    | refine wG_pure (o_not rfl) ?_
    | refine wG_pure (e_ia_vw0 rfl rfl (by omega) rfl) ?_
    | refine wG_pure (e_ia_vwp rfl rfl (by omega) rfl) ?_
    | refine wG_pure (e_ia_vwm rfl rfl (by omega) (by omega) rfl) ?_
    | refine wG_pure (e_ia_vwi rfl rfl (by omega) rfl) ?_
    | refine wG_pure (e_ia_vwn rfl rfl (by omega) (by omega) rfl) ?_
    | refine wG_n rfl rfl ?_
    | refine wG_u rfl rfl ?_
    | refine wG_new (o_mks rfl rfl (by omega) (by decide)) ?_))
    exact ⟨(y, x.tmod y), ⟨h2, hm0, by rw [← h3]; exact gcd_step h1 h2⟩, by show (x.tmod y).toNat < y.toNat; omega, by simp [LeP, leT, leH, lk, AV.ltr]⟩
  · have hy : y = 0 := Decidable.not_not.1 h4
    subst hy
    repeat (first
    | refine wC_a rfl ?_
    | refine q_s rfl ?_
    | refine q_b rfl ?_
    | refine wG_nil ?_
    | refine wG_g rfl ?_
    | refine wG_pure (o_len_vwm rfl) ?_
    | refine wG_pure (o_not_d rfl) ?_
    | refine wG_p rfl (by first | exact rfl | omega) ?_
    | refine wG_pure (o_not rfl) ?_
    | refine wG_pure (e_ia_vw0 rfl rfl (by omega) rfl) ?_
    | refine wG_pure (e_ia_vwp rfl rfl (by omega) rfl) ?_
    | refine wG_pure (e_ia_vwm rfl rfl (by omega) (by omega) rfl) ?_
    | refine wG_pure (e_ia_vwi rfl rfl (by omega) rfl) ?_
    | refine wG_pure (e_ia_vwn rfl rfl (by omega) (by omega) rfl) ?_
    | refine wG_n rfl rfl ?_
    | refine wG_u rfl rfl ?_
    | refine wG_new (o_mks rfl rfl (by omega) (by decide)) ?_)
    refine ret_intE (.inr rfl) ⟨_, retV_mv rfl, ?_⟩
    rw [← h3, Int.gcd_zero_right]
    omega
theorem con63 {a b : Int} (ha : 0 ≤ a) (hb : 0 ≤ b) : Con Try.prog 63 true [.int .i64 a, .int .i64 b] (.int .i64 (Int.gcd a b : Int)) [] := by
  refine con_of_wp mixed fun63 (by simp) [] plain_nil ?_
  unfold ac63 ro63
  simp only [zipT]
  repeat (first
    | refine wC_a rfl ?_
    | refine q_s rfl ?_
    | refine q_b rfl ?_
    | refine wG_nil ?_
    | refine wG_g rfl ?_
    | refine wG_pure (o_len_vwm rfl) ?_
    | refine wG_pure (o_not_d rfl) ?_
    | refine wG_p rfl (by first | exact rfl | omega) ?_
    | refine wG_pure (o_not rfl) ?_
    | refine wG_pure (e_ia_vw0 rfl rfl (by omega) rfl) ?_
    | refine wG_pure (e_ia_vwp rfl rfl (by omega) rfl) ?_
    | refine wG_pure (e_ia_vwm rfl rfl (by omega) (by omega) rfl) ?_
    | refine wG_pure (e_ia_vwi rfl rfl (by omega) rfl) ?_
    | refine wG_pure (e_ia_vwn rfl rfl (by omega) (by omega) rfl) ?_
    | refine wG_n rfl rfl ?_
    | refine wG_u rfl rfl ?_
    | refine wG_new (o_mks rfl rfl (by omega) (by decide)) ?_)
  refine wC_loop (Int × Int) (fun x => ⟨[(0, .int .i64 x.1), (1, .int .i64 x.2)], [], 0⟩) (fun x => 0 ≤ x.1 ∧ 0 ≤ x.2 ∧ Int.gcd x.1 x.2 = Int.gcd a b) (fun x => x.2.toNat) (a, b) ⟨ha, hb, rfl⟩ ?_ (fun _ _ => Nat.le_refl _) ?_
  · simp [LeP, leT, leH, lk, AV.ltr]
  rintro ⟨x, y⟩ ⟨h1, h2, h3⟩
  simp only at h1 h2 h3
  repeat (first
    | refine wC_a rfl ?_
    | refine q_s rfl ?_
    | refine q_b rfl ?_
    | refine wG_nil ?_
    | refine wG_g rfl ?_
    | refine wG_pure (o_len_vwm rfl) ?_
    | refine wG_pure (o_not_d rfl) ?_
    | refine wG_p rfl (by first | exact rfl | omega) ?_
    | refine wG_pure (o_not rfl) ?_
    | refine wG_pure (e_ia_vw0 rfl rfl (by omega) rfl) ?_
    | refine wG_pure (e_ia_vwp rfl rfl (by omega) rfl) ?_
    | refine wG_pure (e_ia_vwm rfl rfl (by omega) (by omega) rfl) ?_
    | refine wG_pure (e_ia_vwi rfl rfl (by omega) rfl) ?_
    | refine wG_pure (e_ia_vwn rfl rfl (by omega) (by omega) rfl) ?_
    | refine wG_n rfl rfl ?_
    | refine wG_u rfl rfl ?_
    | refine wG_new (o_mks rfl rfl (by omega) (by decide)) ?_)
  refine wC_cond_d rfl (fun h4 => ?_) (fun h4 => ?_)
  · have hm0 : 0 ≤ x.tmod y := Int.tmod_nonneg _ h1
    have hm1 : x.tmod y < y := by
      have := Int.tmod_lt_of_pos x (show 0 < y by omega)
      exact this
    repeat (first | refine wG_pure (o_rem rfl rfl h4) ?_ | (first
    | refine wC_a rfl ?_
    | refine q_s rfl ?_
    | refine q_b rfl ?_
    | refine wG_nil ?_
    | refine wG_g rfl ?_
    | refine wG_pure (o_len_vwm rfl) ?_
    | refine wG_pure (o_not_d rfl) ?_
    | refine wG_p rfl (by first | exact rfl | omega) ?_
    | refine wG_pure (o_not rfl) ?_
    | refine wG_pure (e_ia_vw0 rfl rfl (by omega) rfl) ?_
    | refine wG_pure (e_ia_vwp rfl rfl (by omega) rfl) ?_
    | refine wG_pure (e_ia_vwm rfl rfl (by omega) (by omega) rfl) ?_
    | refine wG_pure (e_ia_vwi rfl rfl (by omega) rfl) ?_
    | refine wG_pure (e_ia_vwn rfl rfl (by omega) (by omega) rfl) ?_
    | refine wG_n rfl rfl ?_
    | refine wG_u rfl rfl ?_
    | refine wG_new (o_mks rfl rfl (by omega) (by decide)) ?_))
    exact ⟨(y, x.tmod y), ⟨h2, hm0, by rw [← h3]; exact gcd_step h1 h2⟩, by show (x.tmod y).toNat < y.toNat; omega, by simp [LeP, leT, leH, lk, AV.ltr]⟩
  · have hy : y = 0 := Decidable.not_not.1 h4
    subst hy
    repeat (first
    | refine wC_a rfl ?_
    | refine q_s rfl ?_
    | refine q_b rfl ?_
    | refine wG_nil ?_
    | refine wG_g rfl ?_
    | refine wG_pure (o_len_vwm rfl) ?_
    | refine wG_pure (o_not_d rfl) ?_
    | refine wG_p rfl (by first | exact rfl | omega) ?_
    | refine wG_pure (o_not rfl) ?_
    | refine wG_pure (e_ia_vw0 rfl rfl (by omega) rfl) ?_
    | refine wG_pure (e_ia_vwp rfl rfl (by omega) rfl) ?_
    | refine wG_pure (e_ia_vwm rfl rfl (by omega) (by omega) rfl) ?_
    | refine wG_pure (e_ia_vwi rfl rfl (by omega) rfl) ?_
    | refine wG_pure (e_ia_vwn rfl rfl (by omega) (by omega) rfl) ?_
    | refine wG_n rfl rfl ?_
    | refine wG_u rfl rfl ?_
    | refine wG_new (o_mks rfl rfl (by omega) (by decide)) ?_)
    refine ret_intE (.inr rfl) ⟨_, retV_mv rfl, ?_⟩
    rw [← h3, Int.gcd_zero_right]
    omega

/-- The greatest common divisor of the first elements. -/
def gd (ws : List Int) : Nat → Nat
  | 0 => 0
  | i + 1 => Int.gcd (gd ws i) (ws.getD i default)
def bnd (ws : List Int) (B : Int) : Prop := ∀ j, j < ws.length → 0 ≤ ws.getD j default ∧ ws.getD j default ≤ B
theorem con55 (nn : Bool) (ws : List Int) (hlen : ws.length ≤ 1048576) {B : Int} (hb : bnd ws B) : Con Try.prog 55 true [.vw nn (ws.map iRow)] (.int .i64 (gd ws ws.length : Int)) [] := by
  refine con_of_wp mixed fun55 (by simp) [] plain_nil ?_
  unfold ac55 ro55
  simp only [zipT]
  repeat (first
    | refine wC_a rfl ?_
    | refine q_s rfl ?_
    | refine q_b rfl ?_
    | refine wG_nil ?_
    | refine wG_g rfl ?_
    | refine wG_pure (o_len_vwm rfl) ?_
    | refine wG_pure (o_not_d rfl) ?_
    | refine wG_p rfl (by first | exact rfl | omega) ?_
    | refine wG_pure (o_not rfl) ?_
    | refine wG_pure (e_ia_vw0 rfl rfl (by omega) rfl) ?_
    | refine wG_pure (e_ia_vwp rfl rfl (by omega) rfl) ?_
    | refine wG_pure (e_ia_vwm rfl rfl (by omega) (by omega) rfl) ?_
    | refine wG_pure (e_ia_vwi rfl rfl (by omega) rfl) ?_
    | refine wG_pure (e_ia_vwn rfl rfl (by omega) (by omega) rfl) ?_
    | refine wG_n rfl rfl ?_
    | refine wG_u rfl rfl ?_
    | refine wG_new (o_mks rfl rfl (by omega) (by decide)) ?_)
  refine wC_loop Nat (fun i => ⟨[(6, .vw nn (ws.map iRow)), (7, .int .i64 (ws.length : Int)), (3, .int .i64 (gd ws i : Int)), (8, .int .i64 (i : Int))], [], 0⟩) (fun i => i ≤ ws.length) (fun i => ws.length - i) 0 (Nat.zero_le _) ?_ (fun _ _ => Nat.le_refl _) ?_
  · simp [LeP, leT, leH, lk, AV.ltr, gd]
  intro i hi
  repeat (first
    | refine wC_a rfl ?_
    | refine q_s rfl ?_
    | refine q_b rfl ?_
    | refine wG_nil ?_
    | refine wG_g rfl ?_
    | refine wG_pure (o_len_vwm rfl) ?_
    | refine wG_pure (o_not_d rfl) ?_
    | refine wG_p rfl (by first | exact rfl | omega) ?_
    | refine wG_pure (o_not rfl) ?_
    | refine wG_pure (e_ia_vw0 rfl rfl (by omega) rfl) ?_
    | refine wG_pure (e_ia_vwp rfl rfl (by omega) rfl) ?_
    | refine wG_pure (e_ia_vwm rfl rfl (by omega) (by omega) rfl) ?_
    | refine wG_pure (e_ia_vwi rfl rfl (by omega) rfl) ?_
    | refine wG_pure (e_ia_vwn rfl rfl (by omega) (by omega) rfl) ?_
    | refine wG_n rfl rfl ?_
    | refine wG_u rfl rfl ?_
    | refine wG_new (o_mks rfl rfl (by omega) (by decide)) ?_)
  refine wC_cond_d rfl (fun h2 => ?_) (fun h2 => ?_)
  · have hi2 : i < ws.length := by omega
    have hw := (hb i hi2).1
    repeat (first | refine wG_call (con63 (Int.natCast_nonneg _) hw) rfl rfl ?_ | (first
    | refine wC_a rfl ?_
    | refine q_s rfl ?_
    | refine q_b rfl ?_
    | refine wG_nil ?_
    | refine wG_g rfl ?_
    | refine wG_pure (o_len_vwm rfl) ?_
    | refine wG_pure (o_not_d rfl) ?_
    | refine wG_p rfl (by first | exact rfl | omega) ?_
    | refine wG_pure (o_not rfl) ?_
    | refine wG_pure (e_ia_vw0 rfl rfl (by omega) rfl) ?_
    | refine wG_pure (e_ia_vwp rfl rfl (by omega) rfl) ?_
    | refine wG_pure (e_ia_vwm rfl rfl (by omega) (by omega) rfl) ?_
    | refine wG_pure (e_ia_vwi rfl rfl (by omega) rfl) ?_
    | refine wG_pure (e_ia_vwn rfl rfl (by omega) (by omega) rfl) ?_
    | refine wG_n rfl rfl ?_
    | refine wG_u rfl rfl ?_
    | refine wG_new (o_mks rfl rfl (by omega) (by decide)) ?_))
    exact ⟨i + 1, by omega, by omega, by simp [LeP, leT, leH, lk, AV.ltr, gd]⟩
  · have hi3 : i = ws.length := by omega
    subst hi3
    repeat (first
    | refine wC_a rfl ?_
    | refine q_s rfl ?_
    | refine q_b rfl ?_
    | refine wG_nil ?_
    | refine wG_g rfl ?_
    | refine wG_pure (o_len_vwm rfl) ?_
    | refine wG_pure (o_not_d rfl) ?_
    | refine wG_p rfl (by first | exact rfl | omega) ?_
    | refine wG_pure (o_not rfl) ?_
    | refine wG_pure (e_ia_vw0 rfl rfl (by omega) rfl) ?_
    | refine wG_pure (e_ia_vwp rfl rfl (by omega) rfl) ?_
    | refine wG_pure (e_ia_vwm rfl rfl (by omega) (by omega) rfl) ?_
    | refine wG_pure (e_ia_vwi rfl rfl (by omega) rfl) ?_
    | refine wG_pure (e_ia_vwn rfl rfl (by omega) (by omega) rfl) ?_
    | refine wG_n rfl rfl ?_
    | refine wG_u rfl rfl ?_
    | refine wG_new (o_mks rfl rfl (by omega) (by decide)) ?_)
    exact ret_intE (.inr rfl) ⟨_, retV_mv rfl, rfl⟩

/-! ### Valid distributions -/
def okW (w : Int) : Prop := 0 ≤ w ∧ w ≤ 1000000
instance (w : Int) : Decidable (okW w) := by unfold okW; infer_instance
def GoodD (d : Ds) : Prop :=
  (1 ≤ d.ws.length ∧ d.ws.length ≤ 60) ∧ (-20000 ≤ d.f ∧ d.f + d.ws.length - 1 ≤ 2100) ∧ (0 < d.ws.getD 0 default ∧ 0 < d.ws.getD (d.ws.length - 1) default) ∧ (∀ j, j < d.ws.length → okW (d.ws.getD j default)) ∧ gd d.ws d.ws.length = 1

open Classical in
theorem con53 (nn : Bool) (d : Ds) (hlen : d.ws.length ≤ 1048576) : Con Try.prog 53 true [.agg (dRow nn d)] (.bool (decide (GoodD d))) [] := by
  obtain ⟨f, ws⟩ := d
  simp only at hlen
  refine con_of_wp mixed fun53 (by simp) [] plain_nil ?_
  unfold ac53 ro53 dRow
  simp only [zipT]
  repeat' (first | refine wG_call (con27 _ _ _) rfl rfl ?_ | (first
    | refine wC_a rfl ?_
    | refine q_s rfl ?_
    | refine q_b rfl ?_
    | refine wG_nil ?_
    | refine wG_g rfl ?_
    | refine wG_pure (o_len_vwm rfl) ?_
    | refine wG_pure (o_not_d rfl) ?_
    | refine wG_p rfl (by first | exact rfl | omega) ?_
    | refine wG_pure (o_not rfl) ?_
    | refine wG_pure (e_ia_vw0 rfl rfl (by omega) rfl) ?_
    | refine wG_pure (e_ia_vwp rfl rfl (by omega) rfl) ?_
    | refine wG_pure (e_ia_vwm rfl rfl (by omega) (by omega) rfl) ?_
    | refine wG_pure (e_ia_vwi rfl rfl (by omega) rfl) ?_
    | refine wG_pure (e_ia_vwn rfl rfl (by omega) (by omega) rfl) ?_
    | refine wG_n rfl rfl ?_
    | refine wG_u rfl rfl ?_
    | refine wG_new (o_mks rfl rfl (by omega) (by decide)) ?_) | (refine wG_gd rfl (fun hgt => ?_) (fun hgf => ?_) <;> (first | simp only [eq_true hgt, decide_true] | simp only [eq_false hgf, decide_false])) | refine wC_cond_d rfl (fun hg => ?_) (fun hg => ?_))
  any_goals (refine ret_boolE (.inr rfl) ⟨_, retV_mv rfl, Eq.symm (decide_eq_false fun hG => ?_)⟩
             obtain ⟨⟨a1, a2⟩, ⟨b1, b2⟩, ⟨c1, c2⟩, _⟩ := hG
             simp only at *
             omega)
  refine wC_loop Nat (fun i => ⟨[(1, .pt 0 0 0), (3, .int .i64 (ws.length : Int)), (4, .int .i64 (gd ws i : Int)), (5, .int .i64 (i : Int))], [(0, some [[.int .i64 f, .vw nn (ws.map iRow)]])], 1⟩) (fun i => i ≤ ws.length ∧ ∀ j, j < i → okW (ws.getD j default)) (fun i => ws.length - i) 0 ⟨Nat.zero_le _, fun j hj => absurd hj (Nat.not_lt_zero _)⟩ ?_ (fun _ _ => Nat.zero_le _) ?_
  · simp [LeP, leT, leH, lk, AV.ltr, gd, Ab.hg, upd]
  rintro i ⟨hi, hok⟩
  repeat (first
    | refine wC_a rfl ?_
    | refine q_s rfl ?_
    | refine q_b rfl ?_
    | refine wG_nil ?_
    | refine wG_g rfl ?_
    | refine wG_pure (o_len_vwm rfl) ?_
    | refine wG_pure (o_not_d rfl) ?_
    | refine wG_p rfl (by first | exact rfl | omega) ?_
    | refine wG_pure (o_not rfl) ?_
    | refine wG_pure (e_ia_vw0 rfl rfl (by omega) rfl) ?_
    | refine wG_pure (e_ia_vwp rfl rfl (by omega) rfl) ?_
    | refine wG_pure (e_ia_vwm rfl rfl (by omega) (by omega) rfl) ?_
    | refine wG_pure (e_ia_vwi rfl rfl (by omega) rfl) ?_
    | refine wG_pure (e_ia_vwn rfl rfl (by omega) (by omega) rfl) ?_
    | refine wG_n rfl rfl ?_
    | refine wG_u rfl rfl ?_
    | refine wG_new (o_mks rfl rfl (by omega) (by decide)) ?_)
  refine wC_cond_d rfl (fun h2 => ?_) (fun h2 => ?_)
  · have hi2 : i < ws.length := by omega
    repeat (first | refine wG_call (con27 _ _ _) rfl rfl ?_ | (first
    | refine wC_a rfl ?_
    | refine q_s rfl ?_
    | refine q_b rfl ?_
    | refine wG_nil ?_
    | refine wG_g rfl ?_
    | refine wG_pure (o_len_vwm rfl) ?_
    | refine wG_pure (o_not_d rfl) ?_
    | refine wG_p rfl (by first | exact rfl | omega) ?_
    | refine wG_pure (o_not rfl) ?_
    | refine wG_pure (e_ia_vw0 rfl rfl (by omega) rfl) ?_
    | refine wG_pure (e_ia_vwp rfl rfl (by omega) rfl) ?_
    | refine wG_pure (e_ia_vwm rfl rfl (by omega) (by omega) rfl) ?_
    | refine wG_pure (e_ia_vwi rfl rfl (by omega) rfl) ?_
    | refine wG_pure (e_ia_vwn rfl rfl (by omega) (by omega) rfl) ?_
    | refine wG_n rfl rfl ?_
    | refine wG_u rfl rfl ?_
    | refine wG_new (o_mks rfl rfl (by omega) (by decide)) ?_))
    refine wC_cond_d rfl (fun h3 => ?_) (fun h3 => ?_)
    · repeat (first
    | refine wC_a rfl ?_
    | refine q_s rfl ?_
    | refine q_b rfl ?_
    | refine wG_nil ?_
    | refine wG_g rfl ?_
    | refine wG_pure (o_len_vwm rfl) ?_
    | refine wG_pure (o_not_d rfl) ?_
    | refine wG_p rfl (by first | exact rfl | omega) ?_
    | refine wG_pure (o_not rfl) ?_
    | refine wG_pure (e_ia_vw0 rfl rfl (by omega) rfl) ?_
    | refine wG_pure (e_ia_vwp rfl rfl (by omega) rfl) ?_
    | refine wG_pure (e_ia_vwm rfl rfl (by omega) (by omega) rfl) ?_
    | refine wG_pure (e_ia_vwi rfl rfl (by omega) rfl) ?_
    | refine wG_pure (e_ia_vwn rfl rfl (by omega) (by omega) rfl) ?_
    | refine wG_n rfl rfl ?_
    | refine wG_u rfl rfl ?_
    | refine wG_new (o_mks rfl rfl (by omega) (by decide)) ?_)
      refine ret_boolE (.inr rfl) ⟨_, retV_mv rfl, Eq.symm (decide_eq_false fun hG => ?_)⟩
      exact h3 (hG.2.2.2.1 i hi2)
    have hw := Decidable.not_not.1 h3
    repeat (first | refine wG_call (con52 (Int.natCast_nonneg _) hw.1) rfl rfl ?_ | (first
    | refine wC_a rfl ?_
    | refine q_s rfl ?_
    | refine q_b rfl ?_
    | refine wG_nil ?_
    | refine wG_g rfl ?_
    | refine wG_pure (o_len_vwm rfl) ?_
    | refine wG_pure (o_not_d rfl) ?_
    | refine wG_p rfl (by first | exact rfl | omega) ?_
    | refine wG_pure (o_not rfl) ?_
    | refine wG_pure (e_ia_vw0 rfl rfl (by omega) rfl) ?_
    | refine wG_pure (e_ia_vwp rfl rfl (by omega) rfl) ?_
    | refine wG_pure (e_ia_vwm rfl rfl (by omega) (by omega) rfl) ?_
    | refine wG_pure (e_ia_vwi rfl rfl (by omega) rfl) ?_
    | refine wG_pure (e_ia_vwn rfl rfl (by omega) (by omega) rfl) ?_
    | refine wG_n rfl rfl ?_
    | refine wG_u rfl rfl ?_
    | refine wG_new (o_mks rfl rfl (by omega) (by decide)) ?_))
    refine ⟨i + 1, ⟨by omega, fun j hj => ?_⟩, by omega, by simp [LeP, leT, leH, lk, AV.ltr, gd, Ab.hg, upd]⟩
    rcases Nat.lt_or_ge j i with hji | hji
    · exact hok j hji
    · obtain rfl : j = i := by omega
      exact hw
  · have hi3 : i = ws.length := by omega
    subst hi3
    repeat (first
    | refine wC_a rfl ?_
    | refine q_s rfl ?_
    | refine q_b rfl ?_
    | refine wG_nil ?_
    | refine wG_g rfl ?_
    | refine wG_pure (o_len_vwm rfl) ?_
    | refine wG_pure (o_not_d rfl) ?_
    | refine wG_p rfl (by first | exact rfl | omega) ?_
    | refine wG_pure (o_not rfl) ?_
    | refine wG_pure (e_ia_vw0 rfl rfl (by omega) rfl) ?_
    | refine wG_pure (e_ia_vwp rfl rfl (by omega) rfl) ?_
    | refine wG_pure (e_ia_vwm rfl rfl (by omega) (by omega) rfl) ?_
    | refine wG_pure (e_ia_vwi rfl rfl (by omega) rfl) ?_
    | refine wG_pure (e_ia_vwn rfl rfl (by omega) (by omega) rfl) ?_
    | refine wG_n rfl rfl ?_
    | refine wG_u rfl rfl ?_
    | refine wG_new (o_mks rfl rfl (by omega) (by decide)) ?_)
    refine ret_boolE (.inr rfl) ⟨_, retV_mv rfl, decide_eq_decide.2 ⟨fun h => ?_, fun h => ?_⟩⟩
    · exact ⟨by simp only; omega, by simp only; omega, by simp only; omega, hok, by simp only; omega⟩
    · have := h.2.2.2.2
      simp only at this
      omega
theorem con64 (nn : Bool) (d : Ds) (hlen : d.ws.length ≤ 1048576) (h1 : -100000 ≤ d.f) (h2 : d.f ≤ 100000) : Con Try.prog 64 true [.agg (dRow nn d)] (.int .i64 (d.f + d.ws.length - 1)) [] := by
  obtain ⟨f, ws⟩ := d
  simp only at hlen h1 h2
  refine con_of_wp mixed fun64 (by simp) [] plain_nil ?_
  unfold ac64 ro64 dRow
  simp only [zipT]
  repeat (first
    | refine wC_a rfl ?_
    | refine q_s rfl ?_
    | refine q_b rfl ?_
    | refine wG_nil ?_
    | refine wG_g rfl ?_
    | refine wG_pure (o_len_vwm rfl) ?_
    | refine wG_pure (o_not_d rfl) ?_
    | refine wG_p rfl (by first | exact rfl | omega) ?_
    | refine wG_pure (o_not rfl) ?_
    | refine wG_pure (e_ia_vw0 rfl rfl (by omega) rfl) ?_
    | refine wG_pure (e_ia_vwp rfl rfl (by omega) rfl) ?_
    | refine wG_pure (e_ia_vwm rfl rfl (by omega) (by omega) rfl) ?_
    | refine wG_pure (e_ia_vwi rfl rfl (by omega) rfl) ?_
    | refine wG_pure (e_ia_vwn rfl rfl (by omega) (by omega) rfl) ?_
    | refine wG_n rfl rfl ?_
    | refine wG_u rfl rfl ?_
    | refine wG_new (o_mks rfl rfl (by omega) (by decide)) ?_)
  exact ret_intE (.inr rfl) ⟨_, retV_mv rfl, rfl⟩
theorem con65 (w : Int) : Con Try.prog 65 true [.int .i64 w] (.bool (!decide (okW w))) [] := by
  refine con_of_wp mixed fun65 (by simp) [] plain_nil ?_
  unfold ac65 ro65
  simp only [zipT]
  repeat (first | refine wG_call (con32 _ _ _) rfl rfl ?_ | (first
    | refine wC_a rfl ?_
    | refine q_s rfl ?_
    | refine q_b rfl ?_
    | refine wG_nil ?_
    | refine wG_g rfl ?_
    | refine wG_pure (o_len_vwm rfl) ?_
    | refine wG_pure (o_not_d rfl) ?_
    | refine wG_p rfl (by first | exact rfl | omega) ?_
    | refine wG_pure (o_not rfl) ?_
    | refine wG_pure (e_ia_vw0 rfl rfl (by omega) rfl) ?_
    | refine wG_pure (e_ia_vwp rfl rfl (by omega) rfl) ?_
    | refine wG_pure (e_ia_vwm rfl rfl (by omega) (by omega) rfl) ?_
    | refine wG_pure (e_ia_vwi rfl rfl (by omega) rfl) ?_
    | refine wG_pure (e_ia_vwn rfl rfl (by omega) (by omega) rfl) ?_
    | refine wG_n rfl rfl ?_
    | refine wG_u rfl rfl ?_
    | refine wG_new (o_mks rfl rfl (by omega) (by decide)) ?_))
  refine ret_boolE (.inr rfl) ⟨_, retV_mv rfl, ?_⟩
  unfold okW
  by_cases h : 0 ≤ w ∧ w ≤ 1000000 <;> simp [h]
theorem any_okW (ws : List Int) : ws.any (fun w => !decide (okW w)) = decide (¬ ∀ j, j < ws.length → okW (ws.getD j default)) := by
  rw [Bool.eq_iff_iff, decide_eq_true_iff, List.any_eq_true]
  constructor
  · rintro ⟨x, hx, hp⟩ hall
    obtain ⟨j, hj, rfl⟩ := List.getElem_of_mem hx
    have := hall j hj
    simp [List.getD_eq_getElem?_getD, List.getElem?_eq_getElem hj] at this
    simp [this] at hp
  · intro h
    refine Classical.byContradiction fun hn => h fun j hj => ?_
    refine Classical.byContradiction fun hk => hn ⟨_, getD_mem' ws hj, by show (!decide (okW (ws.getD j default))) = true; rw [decide_eq_false hk]; rfl⟩
open Classical in
theorem con56 (nn : Bool) (d : Ds) (hlen : d.ws.length ≤ 1048576) : Con Try.prog 56 true [.agg (dRow nn d)] (.bool (decide (GoodD d))) [] := by
  obtain ⟨f, ws⟩ := d
  simp only at hlen
  refine con_of_wp mixed fun56 (by simp) [] plain_nil ?_
  unfold ac56 ro56 dRow
  simp only [zipT]
  have cany := con30 nn ws hlen (caps := []) (fun w => !decide (okW w)) con65 (fun _ _ => rfl) rfl
  rw [any_okW] at cany
  have clast := fun h1 h2 => con64 nn ⟨f, ws⟩ hlen h1 h2
  simp only at clast
  repeat' (first | refine wG_call (con29 _) rfl rfl ?_ | refine wG_call (clast (by omega) (by omega)) rfl rfl ?_ | refine wG_call cany rfl rfl ?_ | refine wG_call (con55 nn ws hlen (B := 1000000) (Decidable.not_not.1 ‹_›)) rfl rfl ?_ | (first
    | refine wC_a rfl ?_
    | refine q_s rfl ?_
    | refine q_b rfl ?_
    | refine wG_nil ?_
    | refine wG_g rfl ?_
    | refine wG_pure (o_len_vwm rfl) ?_
    | refine wG_pure (o_not_d rfl) ?_
    | refine wG_p rfl (by first | exact rfl | omega) ?_
    | refine wG_pure (o_not rfl) ?_
    | refine wG_pure (e_ia_vw0 rfl rfl (by omega) rfl) ?_
    | refine wG_pure (e_ia_vwp rfl rfl (by omega) rfl) ?_
    | refine wG_pure (e_ia_vwm rfl rfl (by omega) (by omega) rfl) ?_
    | refine wG_pure (e_ia_vwi rfl rfl (by omega) rfl) ?_
    | refine wG_pure (e_ia_vwn rfl rfl (by omega) (by omega) rfl) ?_
    | refine wG_n rfl rfl ?_
    | refine wG_u rfl rfl ?_
    | refine wG_new (o_mks rfl rfl (by omega) (by decide)) ?_) | (refine wG_gd rfl (fun hgt => ?_) (fun hgf => ?_) <;> (first | simp only [eq_true hgt, decide_true] | simp only [eq_false hgf, decide_false])) | refine wC_cond_d rfl (fun hg => ?_) (fun hg => ?_))
  any_goals (refine ret_boolE (.inr rfl) ⟨_, retV_mv rfl, Eq.symm (decide_eq_false fun hG => ?_)⟩
             obtain ⟨⟨a1, a2⟩, ⟨b1, b2⟩, ⟨c1, c2⟩, d1, e1⟩ := hG
             first | contradiction | (simp only at *; omega))
  refine ret_boolE (.inr rfl) ⟨_, retV_mv rfl, decide_eq_decide.2 ⟨fun h => ?_, fun h => ?_⟩⟩
  · exact ⟨by simp only; omega, by simp only; omega, by simp only; omega, Decidable.not_not.1 ‹_›, by simp only; omega⟩
  · have := h.2.2.2.2
    simp only at this
    omega
end Go.Proofs.Ytkkcplcgafndgaa.Dst
