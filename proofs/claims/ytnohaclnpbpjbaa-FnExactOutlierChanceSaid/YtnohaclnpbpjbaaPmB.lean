/- Valid models: both sides. -/
import Derived.Test.YtnohaclnpbpjbaaPmU
namespace Go.Proofs.Ytnohaclnpbpjbaa.Dst
open Go Go.Proofs.Ytnohaclnpbpjbaa.Ab Go.Proofs.Ytnohaclnpbpjbaa.Il
attribute [local irreducible] wpO wpC wpDr wpQ wpG wpE stepA seqQ blkQ Ret RetG ev
set_option maxRecDepth 10000
set_option maxHeartbeats 8000000
set_option linter.unusedSimpArgs false
set_option linter.unusedVariables false

def ac12 : AC := (.seq (.reg [⟨(some 1), none, (.box 4 true (.t 0))⟩, ⟨(some 2), none, (.mv (.c (.bool false)))⟩]) (.seq (.reg [⟨(some 3), none, (.ld true 4 (.t 1))⟩, ⟨(some 4), none, (.call 39 [(.t 3)])⟩, ⟨(some 2), none, (.mv (.t 4))⟩]) .ret))
def ro12 : List AOp := [(.mv (.t 2))]
theorem fun12 : Fun Try.prog 12 5 ac12 ro12 := ⟨Try.f12, _, Try.func12, by kernel_rfl, rfl, rfl, by kernel_rfl, by kernel_rfl, by decide⟩
def ac14 : AC := (.seq (.reg [⟨(some 1), none, (.box 4 true (.t 0))⟩, ⟨(some 2), none, (.mv (.c (.bool false)))⟩]) (.seq (.seq (.reg [⟨(some 7), none, (.fa 0 (.t 1))⟩, ⟨(some 8), none, (.ld false 1 (.t 7))⟩, ⟨(some 9), none, (.call 41 [(.t 8)])⟩, ⟨(some 10), none, (.un .not (.t 9))⟩, ⟨(some 11), none, (.mv (.t 10))⟩, ⟨(some 12), (some (11, false)), (.fa 1 (.t 1))⟩, ⟨(some 13), (some (11, false)), (.ld false 1 (.t 12))⟩, ⟨(some 14), (some (11, false)), (.call 42 [(.t 13), (.c (.int .i64 1)), (.c (.int .i64 20))])⟩, ⟨(some 15), (some (11, false)), (.un .not (.t 14))⟩, ⟨(some 16), none, (.pick (.t 11) (.c (.bool true)) (.t 15))⟩, ⟨(some 17), none, (.mv (.t 16))⟩, ⟨(some 18), (some (17, false)), (.fa 0 (.t 1))⟩, ⟨(some 19), (some (17, false)), (.ld false 1 (.t 18))⟩, ⟨(some 20), (some (17, false)), (.fa 1 (.t 1))⟩, ⟨(some 21), (some (17, false)), (.ld false 1 (.t 20))⟩, ⟨(some 22), (some (17, false)), (.bin .add (.t 19) (.t 21))⟩, ⟨(some 23), (some (17, false)), (.bin .sub (.t 22) (.c (.int .i64 1)))⟩, ⟨(some 24), (some (17, false)), (.call 41 [(.t 23)])⟩, ⟨(some 25), (some (17, false)), (.un .not (.t 24))⟩, ⟨(some 26), none, (.pick (.t 17) (.c (.bool true)) (.t 25))⟩, ⟨(some 27), none, (.mv (.t 26))⟩, ⟨(some 28), (some (27, false)), (.fa 2 (.t 1))⟩, ⟨(some 29), (some (27, false)), (.ld false 1 (.t 28))⟩, ⟨(some 30), (some (27, false)), (.call 42 [(.t 29), (.c (.int .i64 1)), (.c (.int .i64 2))])⟩, ⟨(some 31), (some (27, false)), (.un .not (.t 30))⟩, ⟨(some 32), none, (.pick (.t 27) (.c (.bool true)) (.t 31))⟩, ⟨(some 33), none, (.mv (.t 32))⟩, ⟨(some 34), (some (33, false)), (.fa 3 (.t 1))⟩, ⟨(some 35), (some (33, false)), (.ld false 1 (.t 34))⟩, ⟨(some 36), (some (33, false)), (.len (.t 35))⟩, ⟨(some 37), (some (33, false)), (.bin .gtr (.t 36) (.c (.int .i64 4)))⟩, ⟨(some 38), none, (.pick (.t 33) (.c (.bool true)) (.t 37))⟩]) (.cond (.t 38) (.seq (.reg [⟨(some 2), none, (.mv (.c (.bool false)))⟩]) .ret) .skip)) (.seq (.reg [⟨(some 3), none, (.mv (.c (.int .i64 1)))⟩]) (.seq (.seq (.reg [⟨(some 39), none, (.fa 3 (.t 1))⟩, ⟨(some 40), none, (.ld false 1 (.t 39))⟩, ⟨(some 41), none, (.len (.t 40))⟩, ⟨(some 42), none, (.mv (.c (.int .i64 0)))⟩]) (.blk 0 (.loop (.seq (.reg [⟨(some 43), none, (.bin .lss (.t 42) (.t 41))⟩]) (.seq (.cond (.t 43) .skip (.exit 0)) (.seq (.blk 1 (.seq (.reg [⟨(some 44), none, (.ia 4 (.t 40) (.t 42))⟩, ⟨(some 45), none, (.ld true 4 (.t 44))⟩, ⟨(some 5), none, (.alloc [(.int .i64 0), (.int .i64 0), .nilS, (.int .i64 0)])⟩, ⟨none, none, (.st 4 (.t 5) (.t 45))⟩]) (.seq (.seq (.reg [⟨(some 46), none, (.fa 0 (.t 5))⟩, ⟨(some 47), none, (.ld false 1 (.t 46))⟩, ⟨(some 48), none, (.fa 2 (.t 1))⟩, ⟨(some 49), none, (.ld false 1 (.t 48))⟩, ⟨(some 50), none, (.bin .sub (.t 49) (.c (.int .i64 1)))⟩, ⟨(some 51), none, (.call 42 [(.t 47), (.c (.int .i64 0)), (.t 50)])⟩, ⟨(some 52), none, (.un .not (.t 51))⟩, ⟨(some 53), none, (.mv (.t 52))⟩, ⟨(some 54), (some (53, false)), (.fa 1 (.t 5))⟩, ⟨(some 55), (some (53, false)), (.ld true 2 (.t 54))⟩, ⟨(some 56), (some (53, false)), (.call 43 [(.t 55)])⟩, ⟨(some 57), (some (53, false)), (.un .not (.t 56))⟩, ⟨(some 58), none, (.pick (.t 53) (.c (.bool true)) (.t 57))⟩, ⟨(some 59), none, (.mv (.t 58))⟩, ⟨(some 60), (some (59, false)), (.fa 3 (.t 5))⟩, ⟨(some 61), (some (59, false)), (.ld false 1 (.t 60))⟩, ⟨(some 62), (some (59, false)), (.call 42 [(.t 61), (.c (.int .i64 0)), (.c (.int .i64 100))])⟩, ⟨(some 63), (some (59, false)), (.un .not (.t 62))⟩, ⟨(some 64), none, (.pick (.t 59) (.c (.bool true)) (.t 63))⟩]) (.cond (.t 64) (.seq (.reg [⟨(some 2), none, (.mv (.c (.bool false)))⟩]) .ret) .skip)) (.seq (.dreg [⟨(some 65), none, (.fa 1 (.t 1))⟩, ⟨(some 66), none, (.ld false 1 (.t 65))⟩, ⟨(some 67), none, (.bin .mul (.c (.int .i64 100)) (.t 66))⟩, ⟨(some 68), none, (.fa 1 (.t 5))⟩, ⟨(some 69), none, (.ld true 2 (.t 68))⟩, ⟨(some 70), none, (.call 44 [(.t 69)])⟩, ⟨(some 71), none, (.bin .mul (.t 67) (.t 70))⟩, ⟨(some 6), none, (.mv (.t 71))⟩] [[], [0], [0, 1], [], [3], [3, 4], [0, 1, 2, 3, 4, 5], [0, 1, 2, 3, 4, 5, 6]]) (.seq (.seq (.reg [⟨(some 72), none, (.mv (.t 3))⟩, ⟨(some 73), none, (.mv (.t 6))⟩, ⟨(some 74), none, (.bin .quo (.c (.int .i64 1000000000000000)) (.t 73))⟩, ⟨(some 75), none, (.bin .gtr (.t 72) (.t 74))⟩]) (.cond (.t 75) (.seq (.reg [⟨(some 2), none, (.mv (.c (.bool false)))⟩]) .ret) .skip)) (.reg [⟨(some 76), none, (.mv (.t 3))⟩, ⟨(some 77), none, (.mv (.t 6))⟩, ⟨(some 78), none, (.bin .mul (.t 76) (.t 77))⟩, ⟨(some 3), none, (.mv (.t 78))⟩])))))) (.reg [⟨(some 79), none, (.bin .add (.t 42) (.c (.int .i64 1)))⟩, ⟨(some 42), none, (.mv (.t 79))⟩]))))))) (.seq (.reg [⟨(some 2), none, (.mv (.c (.bool true)))⟩]) .ret)))))
def ro14 : List AOp := [(.mv (.t 2))]
theorem fun14 : Fun Try.prog 14 80 ac14 ro14 := ⟨Try.f14, _, Try.func14, by kernel_rfl, rfl, rfl, by kernel_rfl, by kernel_rfl, by decide⟩
def ac39 : AC := (.seq (.reg [⟨(some 1), none, (.box 4 true (.t 0))⟩, ⟨(some 2), none, (.mv (.c (.bool false)))⟩]) (.seq (.seq (.reg [⟨(some 7), none, (.fa 1 (.t 1))⟩, ⟨(some 8), none, (.ld false 1 (.t 7))⟩, ⟨(some 9), none, (.call 47 [(.t 8), (.c (.int .i64 1)), (.c (.int .i64 20))])⟩, ⟨(some 10), none, (.un .not (.t 9))⟩, ⟨(some 11), none, (.mv (.t 10))⟩, ⟨(some 12), (some (11, false)), (.fa 0 (.t 1))⟩, ⟨(some 13), (some (11, false)), (.ld false 1 (.t 12))⟩, ⟨(some 14), (some (11, false)), (.fa 1 (.t 1))⟩, ⟨(some 15), (some (11, false)), (.ld false 1 (.t 14))⟩, ⟨(some 16), (some (11, false)), (.bin .sub (.c (.int .i64 2100)) (.t 15))⟩, ⟨(some 17), (some (11, false)), (.bin .add (.t 16) (.c (.int .i64 1)))⟩, ⟨(some 18), (some (11, false)), (.call 47 [(.t 13), (.c (.int .i64 (-20000))), (.t 17)])⟩, ⟨(some 19), (some (11, false)), (.un .not (.t 18))⟩, ⟨(some 20), none, (.pick (.t 11) (.c (.bool true)) (.t 19))⟩, ⟨(some 21), none, (.mv (.t 20))⟩, ⟨(some 22), (some (21, false)), (.fa 2 (.t 1))⟩, ⟨(some 23), (some (21, false)), (.ld false 1 (.t 22))⟩, ⟨(some 24), (some (21, false)), (.call 47 [(.t 23), (.c (.int .i64 1)), (.c (.int .i64 2))])⟩, ⟨(some 25), (some (21, false)), (.un .not (.t 24))⟩, ⟨(some 26), none, (.pick (.t 21) (.c (.bool true)) (.t 25))⟩, ⟨(some 27), none, (.mv (.t 26))⟩, ⟨(some 28), (some (27, false)), (.fa 3 (.t 1))⟩, ⟨(some 29), (some (27, false)), (.ld false 1 (.t 28))⟩, ⟨(some 30), (some (27, false)), (.len (.t 29))⟩, ⟨(some 31), (some (27, false)), (.bin .gtr (.t 30) (.c (.int .i64 4)))⟩, ⟨(some 32), none, (.pick (.t 27) (.c (.bool true)) (.t 31))⟩]) (.cond (.t 32) (.seq (.reg [⟨(some 2), none, (.mv (.c (.bool false)))⟩]) .ret) .skip)) (.seq (.reg [⟨(some 3), none, (.mv (.c (.int .i64 1)))⟩]) (.seq (.seq (.reg [⟨(some 4), none, (.mv (.c (.int .i64 0)))⟩]) (.blk 0 (.loop (.seq (.seq (.reg [⟨(some 33), none, (.mv (.t 4))⟩, ⟨(some 34), none, (.fa 3 (.t 1))⟩, ⟨(some 35), none, (.ld false 1 (.t 34))⟩, ⟨(some 36), none, (.len (.t 35))⟩, ⟨(some 37), none, (.bin .lss (.t 33) (.t 36))⟩]) (.cond (.t 37) .skip (.exit 0))) (.seq (.blk 1 (.seq (.reg [⟨(some 40), none, (.fa 3 (.t 1))⟩, ⟨(some 41), none, (.ld false 1 (.t 40))⟩, ⟨(some 42), none, (.mv (.t 4))⟩, ⟨(some 43), none, (.ia 4 (.t 41) (.t 42))⟩, ⟨(some 44), none, (.ld true 4 (.t 43))⟩, ⟨(some 5), none, (.alloc [(.int .i64 0), (.int .i64 0), .nilS, (.int .i64 0)])⟩, ⟨none, none, (.st 4 (.t 5) (.t 44))⟩]) (.seq (.seq (.reg [⟨(some 45), none, (.fa 0 (.t 5))⟩, ⟨(some 46), none, (.ld false 1 (.t 45))⟩, ⟨(some 47), none, (.fa 2 (.t 1))⟩, ⟨(some 48), none, (.ld false 1 (.t 47))⟩, ⟨(some 49), none, (.bin .sub (.t 48) (.c (.int .i64 1)))⟩, ⟨(some 50), none, (.call 47 [(.t 46), (.c (.int .i64 0)), (.t 49)])⟩, ⟨(some 51), none, (.un .not (.t 50))⟩, ⟨(some 52), none, (.mv (.t 51))⟩, ⟨(some 53), (some (52, false)), (.fa 1 (.t 5))⟩, ⟨(some 54), (some (52, false)), (.ld true 2 (.t 53))⟩, ⟨(some 55), (some (52, false)), (.call 48 [(.t 54)])⟩, ⟨(some 56), (some (52, false)), (.un .not (.t 55))⟩, ⟨(some 57), none, (.pick (.t 52) (.c (.bool true)) (.t 56))⟩, ⟨(some 58), none, (.mv (.t 57))⟩, ⟨(some 59), (some (58, false)), (.fa 3 (.t 5))⟩, ⟨(some 60), (some (58, false)), (.ld false 1 (.t 59))⟩, ⟨(some 61), (some (58, false)), (.call 47 [(.t 60), (.c (.int .i64 0)), (.c (.int .i64 100))])⟩, ⟨(some 62), (some (58, false)), (.un .not (.t 61))⟩, ⟨(some 63), none, (.pick (.t 58) (.c (.bool true)) (.t 62))⟩]) (.cond (.t 63) (.seq (.reg [⟨(some 2), none, (.mv (.c (.bool false)))⟩]) .ret) .skip)) (.seq (.dreg [⟨(some 64), none, (.fa 1 (.t 1))⟩, ⟨(some 65), none, (.ld false 1 (.t 64))⟩, ⟨(some 66), none, (.bin .mul (.c (.int .i64 100)) (.t 65))⟩, ⟨(some 67), none, (.fa 1 (.t 5))⟩, ⟨(some 68), none, (.fa 1 (.t 67))⟩, ⟨(some 69), none, (.ld false 1 (.t 68))⟩, ⟨(some 70), none, (.call 49 [(.t 69)])⟩, ⟨(some 71), none, (.bin .mul (.t 66) (.t 70))⟩, ⟨(some 6), none, (.mv (.t 71))⟩] [[], [0], [0, 1], [], [3], [3, 4], [3, 4, 5], [0, 1, 2, 3, 4, 5, 6], [0, 1, 2, 3, 4, 5, 6, 7]]) (.seq (.seq (.reg [⟨(some 72), none, (.mv (.t 3))⟩, ⟨(some 73), none, (.mv (.t 6))⟩, ⟨(some 74), none, (.bin .quo (.c (.int .i64 1000000000000000)) (.t 73))⟩, ⟨(some 75), none, (.bin .gtr (.t 72) (.t 74))⟩]) (.cond (.t 75) (.seq (.reg [⟨(some 2), none, (.mv (.c (.bool false)))⟩]) .ret) .skip)) (.reg [⟨(some 76), none, (.mv (.t 3))⟩, ⟨(some 77), none, (.mv (.t 6))⟩, ⟨(some 78), none, (.bin .mul (.t 76) (.t 77))⟩, ⟨(some 3), none, (.mv (.t 78))⟩])))))) (.reg [⟨(some 38), none, (.mv (.t 4))⟩, ⟨(some 39), none, (.bin .add (.t 38) (.c (.int .i64 1)))⟩, ⟨(some 4), none, (.mv (.t 39))⟩])))))) (.seq (.reg [⟨(some 2), none, (.mv (.c (.bool true)))⟩]) .ret)))))
def ro39 : List AOp := [(.mv (.t 2))]
theorem fun39 : Fun Try.prog 39 79 ac39 ro39 := ⟨Try.f39, _, Try.func39, by kernel_rfl, rfl, rfl, by kernel_rfl, by kernel_rfl, by decide⟩

theorem mdR_ltr1 {c : Bool} {m : Md} {xs : List Ev} (n : Nat) : ∀ row ∈ [mdR c m xs], ∀ x ∈ row, AV.ltr n x = true := fun row hr x hx => by
  simp at hr; subst hr
  simp [mdR] at hx
  rcases hx with rfl | rfl | rfl | rfl <;> rfl
theorem lt_upE {m : Md} {xs : List Ev} {i : Nat} (h : ∀ j, j < i → okE m xs j) (h2 : okE m xs i) : ∀ j, j < i + 1 → okE m xs j := fun j hj => by
  rcases Nat.lt_or_ge j i with g | g
  · exact h j g
  · obtain rfl : j = i := by omega
    exact h2
open Classical in
theorem con39 (c : Bool) (m : Md) (xs : List Ev) (h3 : xs.length ≤ 1048576) (hL : LenE xs 1048576) : Con Try.prog 39 true [.agg (mdR c m xs)] (.bool (decide (GoodM m xs))) [] := by
  refine con_of_wp mixed fun39 (by simp) [] plain_nil ?_
  unfold ac39 ro39
  simp only [zipT]
  have c1 := con47 m.y 1 20
  by_cases hy : 1 ≤ m.y ∧ m.y ≤ 20
  case neg =>
    rw [decide_eq_false hy] at c1
    repeat (first | refine wG_call c1 rfl rfl ?_ | (first
    | refine wC_a rfl ?_
    | refine q_s rfl ?_
    | refine q_b rfl ?_
    | refine wG_nil ?_
    | refine wG_g rfl ?_
    | refine wG_pure (o_len_vwm rfl) ?_
    | refine wG_pure (o_not_d rfl) ?_
    | refine wG_p rfl (by first | exact rfl | omega) ?_
    | refine wG_pure (o_str2 rfl rfl rfl) ?_
    | refine wG_pure (e_istr rfl rfl (by omega)) ?_
    | refine wG_pure (e_istr0 rfl rfl (by omega)) ?_
    | refine wG_pure (o_not rfl) ?_
    | refine wG_pure (e_ia_vw0 rfl rfl (by omega) rfl) ?_
    | refine wG_pure (e_ia_vwp rfl rfl (by omega) rfl) ?_
    | refine wG_pure (e_ia_vwm rfl rfl (by omega) (by omega) rfl) ?_
    | refine wG_pure (e_ia_vwi rfl rfl (by omega) rfl) ?_
    | refine wG_pure (e_ia_vwn rfl rfl (by omega) (by omega) rfl) ?_
    | refine wG_n rfl rfl ?_
    | refine wG_u rfl rfl ?_
    | refine wG_new (o_mks rfl rfl (by omega) (by decide)) ?_))
    exact ret_boolE (.inr rfl) ⟨_, retV_mv rfl, (decide_eq_false fun h => hy h.1).symm⟩
  rw [decide_eq_true hy] at c1
  have c2 := con47 m.f (-20000) (2100 - m.y + 1)
  by_cases hf : -20000 ≤ m.f ∧ m.f ≤ 2100 - m.y + 1
  case neg =>
    rw [decide_eq_false hf] at c2
    repeat (first | refine wG_call c1 rfl rfl ?_ | refine wG_call c2 rfl rfl ?_ | (first
    | refine wC_a rfl ?_
    | refine q_s rfl ?_
    | refine q_b rfl ?_
    | refine wG_nil ?_
    | refine wG_g rfl ?_
    | refine wG_pure (o_len_vwm rfl) ?_
    | refine wG_pure (o_not_d rfl) ?_
    | refine wG_p rfl (by first | exact rfl | omega) ?_
    | refine wG_pure (o_str2 rfl rfl rfl) ?_
    | refine wG_pure (e_istr rfl rfl (by omega)) ?_
    | refine wG_pure (e_istr0 rfl rfl (by omega)) ?_
    | refine wG_pure (o_not rfl) ?_
    | refine wG_pure (e_ia_vw0 rfl rfl (by omega) rfl) ?_
    | refine wG_pure (e_ia_vwp rfl rfl (by omega) rfl) ?_
    | refine wG_pure (e_ia_vwm rfl rfl (by omega) (by omega) rfl) ?_
    | refine wG_pure (e_ia_vwi rfl rfl (by omega) rfl) ?_
    | refine wG_pure (e_ia_vwn rfl rfl (by omega) (by omega) rfl) ?_
    | refine wG_n rfl rfl ?_
    | refine wG_u rfl rfl ?_
    | refine wG_new (o_mks rfl rfl (by omega) (by decide)) ?_))
    exact ret_boolE (.inr rfl) ⟨_, retV_mv rfl, (decide_eq_false fun h => hf (by have := h.2.1; omega)).symm⟩
  rw [decide_eq_true hf] at c2
  have c3 := con47 m.p 1 2
  by_cases hp : 1 ≤ m.p ∧ m.p ≤ 2
  case neg =>
    rw [decide_eq_false hp] at c3
    repeat (first | refine wG_call c1 rfl rfl ?_ | refine wG_call c2 rfl rfl ?_ | refine wG_call c3 rfl rfl ?_ | (first
    | refine wC_a rfl ?_
    | refine q_s rfl ?_
    | refine q_b rfl ?_
    | refine wG_nil ?_
    | refine wG_g rfl ?_
    | refine wG_pure (o_len_vwm rfl) ?_
    | refine wG_pure (o_not_d rfl) ?_
    | refine wG_p rfl (by first | exact rfl | omega) ?_
    | refine wG_pure (o_str2 rfl rfl rfl) ?_
    | refine wG_pure (e_istr rfl rfl (by omega)) ?_
    | refine wG_pure (e_istr0 rfl rfl (by omega)) ?_
    | refine wG_pure (o_not rfl) ?_
    | refine wG_pure (e_ia_vw0 rfl rfl (by omega) rfl) ?_
    | refine wG_pure (e_ia_vwp rfl rfl (by omega) rfl) ?_
    | refine wG_pure (e_ia_vwm rfl rfl (by omega) (by omega) rfl) ?_
    | refine wG_pure (e_ia_vwi rfl rfl (by omega) rfl) ?_
    | refine wG_pure (e_ia_vwn rfl rfl (by omega) (by omega) rfl) ?_
    | refine wG_n rfl rfl ?_
    | refine wG_u rfl rfl ?_
    | refine wG_new (o_mks rfl rfl (by omega) (by decide)) ?_))
    exact ret_boolE (.inr rfl) ⟨_, retV_mv rfl, (decide_eq_false fun h => hp h.2.2.1).symm⟩
  rw [decide_eq_true hp] at c3
  by_cases hn : (xs.length : Int) > 4
  · have d0 : decide ((xs.length : Int) > 4) = true := decide_eq_true hn
    repeat (first | refine wG_call c1 rfl rfl ?_ | refine wG_call c2 rfl rfl ?_ | refine wG_call c3 rfl rfl ?_ | (first
    | refine wC_a rfl ?_
    | refine q_s rfl ?_
    | refine q_b rfl ?_
    | refine wG_nil ?_
    | refine wG_g rfl ?_
    | refine wG_pure (o_len_vwm rfl) ?_
    | refine wG_pure (o_not_d rfl) ?_
    | refine wG_p rfl (by first | exact rfl | omega) ?_
    | refine wG_pure (o_str2 rfl rfl rfl) ?_
    | refine wG_pure (e_istr rfl rfl (by omega)) ?_
    | refine wG_pure (e_istr0 rfl rfl (by omega)) ?_
    | refine wG_pure (o_not rfl) ?_
    | refine wG_pure (e_ia_vw0 rfl rfl (by omega) rfl) ?_
    | refine wG_pure (e_ia_vwp rfl rfl (by omega) rfl) ?_
    | refine wG_pure (e_ia_vwm rfl rfl (by omega) (by omega) rfl) ?_
    | refine wG_pure (e_ia_vwi rfl rfl (by omega) rfl) ?_
    | refine wG_pure (e_ia_vwn rfl rfl (by omega) (by omega) rfl) ?_
    | refine wG_n rfl rfl ?_
    | refine wG_u rfl rfl ?_
    | refine wG_new (o_mks rfl rfl (by omega) (by decide)) ?_))
    simp only [d0]
    repeat (first
    | refine wC_a rfl ?_
    | refine q_s rfl ?_
    | refine q_b rfl ?_
    | refine wG_nil ?_
    | refine wG_g rfl ?_
    | refine wG_pure (o_len_vwm rfl) ?_
    | refine wG_pure (o_not_d rfl) ?_
    | refine wG_p rfl (by first | exact rfl | omega) ?_
    | refine wG_pure (o_str2 rfl rfl rfl) ?_
    | refine wG_pure (e_istr rfl rfl (by omega)) ?_
    | refine wG_pure (e_istr0 rfl rfl (by omega)) ?_
    | refine wG_pure (o_not rfl) ?_
    | refine wG_pure (e_ia_vw0 rfl rfl (by omega) rfl) ?_
    | refine wG_pure (e_ia_vwp rfl rfl (by omega) rfl) ?_
    | refine wG_pure (e_ia_vwm rfl rfl (by omega) (by omega) rfl) ?_
    | refine wG_pure (e_ia_vwi rfl rfl (by omega) rfl) ?_
    | refine wG_pure (e_ia_vwn rfl rfl (by omega) (by omega) rfl) ?_
    | refine wG_n rfl rfl ?_
    | refine wG_u rfl rfl ?_
    | refine wG_new (o_mks rfl rfl (by omega) (by decide)) ?_)
    exact ret_boolE (.inr rfl) ⟨_, retV_mv rfl, (decide_eq_false fun h => by have := h.2.2.2.1; omega).symm⟩
  have d0 : decide ((xs.length : Int) > 4) = false := decide_eq_false hn
  repeat (first | refine wG_call c1 rfl rfl ?_ | refine wG_call c2 rfl rfl ?_ | refine wG_call c3 rfl rfl ?_ | (first
    | refine wC_a rfl ?_
    | refine q_s rfl ?_
    | refine q_b rfl ?_
    | refine wG_nil ?_
    | refine wG_g rfl ?_
    | refine wG_pure (o_len_vwm rfl) ?_
    | refine wG_pure (o_not_d rfl) ?_
    | refine wG_p rfl (by first | exact rfl | omega) ?_
    | refine wG_pure (o_str2 rfl rfl rfl) ?_
    | refine wG_pure (e_istr rfl rfl (by omega)) ?_
    | refine wG_pure (e_istr0 rfl rfl (by omega)) ?_
    | refine wG_pure (o_not rfl) ?_
    | refine wG_pure (e_ia_vw0 rfl rfl (by omega) rfl) ?_
    | refine wG_pure (e_ia_vwp rfl rfl (by omega) rfl) ?_
    | refine wG_pure (e_ia_vwm rfl rfl (by omega) (by omega) rfl) ?_
    | refine wG_pure (e_ia_vwi rfl rfl (by omega) rfl) ?_
    | refine wG_pure (e_ia_vwn rfl rfl (by omega) (by omega) rfl) ?_
    | refine wG_n rfl rfl ?_
    | refine wG_u rfl rfl ?_
    | refine wG_new (o_mks rfl rfl (by omega) (by decide)) ?_))
  simp only [d0]
  repeat (first
    | refine wC_a rfl ?_
    | refine q_s rfl ?_
    | refine q_b rfl ?_
    | refine wG_nil ?_
    | refine wG_g rfl ?_
    | refine wG_pure (o_len_vwm rfl) ?_
    | refine wG_pure (o_not_d rfl) ?_
    | refine wG_p rfl (by first | exact rfl | omega) ?_
    | refine wG_pure (o_str2 rfl rfl rfl) ?_
    | refine wG_pure (e_istr rfl rfl (by omega)) ?_
    | refine wG_pure (e_istr0 rfl rfl (by omega)) ?_
    | refine wG_pure (o_not rfl) ?_
    | refine wG_pure (e_ia_vw0 rfl rfl (by omega) rfl) ?_
    | refine wG_pure (e_ia_vwp rfl rfl (by omega) rfl) ?_
    | refine wG_pure (e_ia_vwm rfl rfl (by omega) (by omega) rfl) ?_
    | refine wG_pure (e_ia_vwi rfl rfl (by omega) rfl) ?_
    | refine wG_pure (e_ia_vwn rfl rfl (by omega) (by omega) rfl) ?_
    | refine wG_n rfl rfl ?_
    | refine wG_u rfl rfl ?_
    | refine wG_new (o_mks rfl rfl (by omega) (by decide)) ?_)
  refine wC_loop Nat (fun i => ⟨[(1, .pt 0 0 0), (3, .int .i64 (prE m.y xs i)), (4, .int .i64 (i : Int))], [(0, some [mdR c m xs])], 1⟩) (fun i => i ≤ xs.length ∧ ∀ j, j < i → okE m xs j) (fun i => xs.length - i) 0 ⟨Nat.zero_le _, fun j hj => absurd hj (Nat.not_lt_zero _)⟩ ?_ (fun _ _ => Nat.zero_le _) ?_
  · exact ⟨⟨⟨rfl, rfl⟩, ⟨rfl, rfl⟩, ⟨rfl, rfl⟩, trivial⟩, ⟨rfl, by show 0 < 1; decide, mdR_ltr1 _⟩, trivial⟩
  rintro i ⟨hi, hok⟩
  obtain ⟨w1, w2⟩ := prE_b hy i hok
  repeat (first
    | refine wC_a rfl ?_
    | refine q_s rfl ?_
    | refine q_b rfl ?_
    | refine wG_nil ?_
    | refine wG_g rfl ?_
    | refine wG_pure (o_len_vwm rfl) ?_
    | refine wG_pure (o_not_d rfl) ?_
    | refine wG_p rfl (by first | exact rfl | omega) ?_
    | refine wG_pure (o_str2 rfl rfl rfl) ?_
    | refine wG_pure (e_istr rfl rfl (by omega)) ?_
    | refine wG_pure (e_istr0 rfl rfl (by omega)) ?_
    | refine wG_pure (o_not rfl) ?_
    | refine wG_pure (e_ia_vw0 rfl rfl (by omega) rfl) ?_
    | refine wG_pure (e_ia_vwp rfl rfl (by omega) rfl) ?_
    | refine wG_pure (e_ia_vwm rfl rfl (by omega) (by omega) rfl) ?_
    | refine wG_pure (e_ia_vwi rfl rfl (by omega) rfl) ?_
    | refine wG_pure (e_ia_vwn rfl rfl (by omega) (by omega) rfl) ?_
    | refine wG_n rfl rfl ?_
    | refine wG_u rfl rfl ?_
    | refine wG_new (o_mks rfl rfl (by omega) (by decide)) ?_)
  refine wC_cond_d rfl (fun h5 => ?_) (fun h5 => ?_)
  · have hi2 : i < xs.length := by omega
    have e1 := con47 (xs.getD i default).p 0 (m.p - 1)
    by_cases g1 : 0 ≤ (xs.getD i default).p ∧ (xs.getD i default).p ≤ m.p - 1
    case neg =>
      rw [decide_eq_false g1] at e1
      repeat (first | refine wG_call e1 rfl rfl ?_ | (first
    | refine wC_a rfl ?_
    | refine q_s rfl ?_
    | refine q_b rfl ?_
    | refine wG_nil ?_
    | refine wG_g rfl ?_
    | refine wG_pure (o_len_vwm rfl) ?_
    | refine wG_pure (o_not_d rfl) ?_
    | refine wG_p rfl (by first | exact rfl | omega) ?_
    | refine wG_pure (o_str2 rfl rfl rfl) ?_
    | refine wG_pure (e_istr rfl rfl (by omega)) ?_
    | refine wG_pure (e_istr0 rfl rfl (by omega)) ?_
    | refine wG_pure (o_not rfl) ?_
    | refine wG_pure (e_ia_vw0 rfl rfl (by omega) rfl) ?_
    | refine wG_pure (e_ia_vwp rfl rfl (by omega) rfl) ?_
    | refine wG_pure (e_ia_vwm rfl rfl (by omega) (by omega) rfl) ?_
    | refine wG_pure (e_ia_vwi rfl rfl (by omega) rfl) ?_
    | refine wG_pure (e_ia_vwn rfl rfl (by omega) (by omega) rfl) ?_
    | refine wG_n rfl rfl ?_
    | refine wG_u rfl rfl ?_
    | refine wG_new (o_mks rfl rfl (by omega) (by decide)) ?_))
      exact ret_boolE (.inr rfl) ⟨_, retV_mv rfl, (decide_eq_false fun h => g1 (h.2.2.2.2 i hi2).1).symm⟩
    rw [decide_eq_true g1] at e1
    have e2 := con48 (xs.getD i default).b (xs.getD i default).d (hL i hi2)
    by_cases g2 : GoodD (xs.getD i default).d
    case neg =>
      rw [decide_eq_false g2] at e2
      repeat (first | refine wG_call e1 rfl rfl ?_ | refine wG_call e2 rfl rfl ?_ | (first
    | refine wC_a rfl ?_
    | refine q_s rfl ?_
    | refine q_b rfl ?_
    | refine wG_nil ?_
    | refine wG_g rfl ?_
    | refine wG_pure (o_len_vwm rfl) ?_
    | refine wG_pure (o_not_d rfl) ?_
    | refine wG_p rfl (by first | exact rfl | omega) ?_
    | refine wG_pure (o_str2 rfl rfl rfl) ?_
    | refine wG_pure (e_istr rfl rfl (by omega)) ?_
    | refine wG_pure (e_istr0 rfl rfl (by omega)) ?_
    | refine wG_pure (o_not rfl) ?_
    | refine wG_pure (e_ia_vw0 rfl rfl (by omega) rfl) ?_
    | refine wG_pure (e_ia_vwp rfl rfl (by omega) rfl) ?_
    | refine wG_pure (e_ia_vwm rfl rfl (by omega) (by omega) rfl) ?_
    | refine wG_pure (e_ia_vwi rfl rfl (by omega) rfl) ?_
    | refine wG_pure (e_ia_vwn rfl rfl (by omega) (by omega) rfl) ?_
    | refine wG_n rfl rfl ?_
    | refine wG_u rfl rfl ?_
    | refine wG_new (o_mks rfl rfl (by omega) (by decide)) ?_))
      exact ret_boolE (.inr rfl) ⟨_, retV_mv rfl, (decide_eq_false fun h => g2 (h.2.2.2.2 i hi2).2.1).symm⟩
    rw [decide_eq_true g2] at e2
    have e3 := con47 (xs.getD i default).o 0 100
    by_cases g3 : 0 ≤ (xs.getD i default).o ∧ (xs.getD i default).o ≤ 100
    case neg =>
      rw [decide_eq_false g3] at e3
      repeat (first | refine wG_call e1 rfl rfl ?_ | refine wG_call e2 rfl rfl ?_ | refine wG_call e3 rfl rfl ?_ | (first
    | refine wC_a rfl ?_
    | refine q_s rfl ?_
    | refine q_b rfl ?_
    | refine wG_nil ?_
    | refine wG_g rfl ?_
    | refine wG_pure (o_len_vwm rfl) ?_
    | refine wG_pure (o_not_d rfl) ?_
    | refine wG_p rfl (by first | exact rfl | omega) ?_
    | refine wG_pure (o_str2 rfl rfl rfl) ?_
    | refine wG_pure (e_istr rfl rfl (by omega)) ?_
    | refine wG_pure (e_istr0 rfl rfl (by omega)) ?_
    | refine wG_pure (o_not rfl) ?_
    | refine wG_pure (e_ia_vw0 rfl rfl (by omega) rfl) ?_
    | refine wG_pure (e_ia_vwp rfl rfl (by omega) rfl) ?_
    | refine wG_pure (e_ia_vwm rfl rfl (by omega) (by omega) rfl) ?_
    | refine wG_pure (e_ia_vwi rfl rfl (by omega) rfl) ?_
    | refine wG_pure (e_ia_vwn rfl rfl (by omega) (by omega) rfl) ?_
    | refine wG_n rfl rfl ?_
    | refine wG_u rfl rfl ?_
    | refine wG_new (o_mks rfl rfl (by omega) (by decide)) ?_))
      exact ret_boolE (.inr rfl) ⟨_, retV_mv rfl, (decide_eq_false fun h => g3 (h.2.2.2.2 i hi2).2.2.1).symm⟩
    rw [decide_eq_true g3] at e3
    have e4 := con49 (xs.getD i default).b (xs.getD i default).d.ws (hL i hi2) g2.bnd (by decide) (by have := g2.1; omega)
    rw [show sm (xs.getD i default).d.ws (xs.getD i default).d.ws.length = total (xs.getD i default).d from rfl] at e4
    have hfb := fac_b (x := xs.getD i default) hy g2
    have hfe : 100 * m.y * total (xs.getD i default).d = fac m.y (xs.getD i default) := rfl
    have hdv : (1000000000000000 : Int).tdiv (fac m.y (xs.getD i default)) ≤ 1000000000000000 ∧ 0 ≤ (1000000000000000 : Int).tdiv (fac m.y (xs.getD i default)) := by
      rw [Int.tdiv_eq_ediv_of_nonneg (by omega)]
      exact ⟨Int.ediv_le_self _ (by omega), Int.ediv_nonneg (by omega) (by omega)⟩
    rw [← hfe] at hfb hdv
    repeat (first | refine wG_call e1 rfl rfl ?_ | refine wG_call e2 rfl rfl ?_ | refine wG_call e3 rfl rfl ?_ | refine wC_dregE ?_ | refine wE_call e4 rfl rfl rfl ?_ | (first
    | refine wC_a rfl ?_
    | refine q_s rfl ?_
    | refine q_b rfl ?_
    | refine wG_nil ?_
    | refine wG_g rfl ?_
    | refine wG_pure (o_len_vwm rfl) ?_
    | refine wG_pure (o_not_d rfl) ?_
    | refine wG_p rfl (by first | exact rfl | omega) ?_
    | refine wG_pure (o_str2 rfl rfl rfl) ?_
    | refine wG_pure (e_istr rfl rfl (by omega)) ?_
    | refine wG_pure (e_istr0 rfl rfl (by omega)) ?_
    | refine wG_pure (o_not rfl) ?_
    | refine wG_pure (e_ia_vw0 rfl rfl (by omega) rfl) ?_
    | refine wG_pure (e_ia_vwp rfl rfl (by omega) rfl) ?_
    | refine wG_pure (e_ia_vwm rfl rfl (by omega) (by omega) rfl) ?_
    | refine wG_pure (e_ia_vwi rfl rfl (by omega) rfl) ?_
    | refine wG_pure (e_ia_vwn rfl rfl (by omega) (by omega) rfl) ?_
    | refine wG_n rfl rfl ?_
    | refine wG_u rfl rfl ?_
    | refine wG_new (o_mks rfl rfl (by omega) (by decide)) ?_) | (first
    | refine wE_nil (by kernel_rfl) ?_
    | refine wE_gy rfl ?_
    | refine wE_gn rfl rfl rfl ?_
    | refine wE_gu rfl rfl ?_
    | refine wE_gnn rfl rfl rfl ?_
    | refine wE_v (o_len_vwm rfl) rfl ?_
    | refine wE_v (o_not_d rfl) rfl ?_
    | refine wE_p rfl (by first | exact rfl | omega) rfl ?_
    | refine wE_v (o_str2 rfl rfl rfl) rfl ?_
    | refine wE_v (e_istr rfl rfl (by omega)) rfl ?_
    | refine wE_v (e_istr0 rfl rfl (by omega)) rfl ?_
    | refine wE_v (o_not rfl) rfl ?_
    | refine wE_v (e_ia_vw0 rfl rfl (by omega) rfl) rfl ?_
    | refine wE_v (e_ia_vwp rfl rfl (by omega) rfl) rfl ?_
    | refine wE_v (e_ia_vwm rfl rfl (by omega) (by omega) rfl) rfl ?_
    | refine wE_v (e_ia_vwi rfl rfl (by omega) rfl) rfl ?_
    | refine wE_v (e_ia_vwn rfl rfl (by omega) (by omega) rfl) rfl ?_
    | refine wE_n rfl rfl rfl ?_
    | refine wE_u rfl rfl rfl ?_
    | refine wE_new (o_mks rfl rfl (by omega) (by decide)) rfl ?_))
    rw [hfe]
    rw [hfe] at hfb hdv
    by_cases g4 : prE m.y xs i > (1000000000000000 : Int).tdiv (fac m.y (xs.getD i default))
    · simp only [decide_eq_true g4]
      repeat (first
    | refine wC_a rfl ?_
    | refine q_s rfl ?_
    | refine q_b rfl ?_
    | refine wG_nil ?_
    | refine wG_g rfl ?_
    | refine wG_pure (o_len_vwm rfl) ?_
    | refine wG_pure (o_not_d rfl) ?_
    | refine wG_p rfl (by first | exact rfl | omega) ?_
    | refine wG_pure (o_str2 rfl rfl rfl) ?_
    | refine wG_pure (e_istr rfl rfl (by omega)) ?_
    | refine wG_pure (e_istr0 rfl rfl (by omega)) ?_
    | refine wG_pure (o_not rfl) ?_
    | refine wG_pure (e_ia_vw0 rfl rfl (by omega) rfl) ?_
    | refine wG_pure (e_ia_vwp rfl rfl (by omega) rfl) ?_
    | refine wG_pure (e_ia_vwm rfl rfl (by omega) (by omega) rfl) ?_
    | refine wG_pure (e_ia_vwi rfl rfl (by omega) rfl) ?_
    | refine wG_pure (e_ia_vwn rfl rfl (by omega) (by omega) rfl) ?_
    | refine wG_n rfl rfl ?_
    | refine wG_u rfl rfl ?_
    | refine wG_new (o_mks rfl rfl (by omega) (by decide)) ?_)
      exact ret_boolE (.inr rfl) ⟨_, retV_mv rfl, (decide_eq_false fun h => (h.2.2.2.2 i hi2).2.2.2 g4).symm⟩
    · simp only [decide_eq_false g4]
      have hw := le_tdiv (by omega) (by omega) g4
      have hw0 : 0 ≤ prE m.y xs i * fac m.y (xs.getD i default) := Int.mul_nonneg (by omega) (by omega)
      repeat (first
    | refine wC_a rfl ?_
    | refine q_s rfl ?_
    | refine q_b rfl ?_
    | refine wG_nil ?_
    | refine wG_g rfl ?_
    | refine wG_pure (o_len_vwm rfl) ?_
    | refine wG_pure (o_not_d rfl) ?_
    | refine wG_p rfl (by first | exact rfl | omega) ?_
    | refine wG_pure (o_str2 rfl rfl rfl) ?_
    | refine wG_pure (e_istr rfl rfl (by omega)) ?_
    | refine wG_pure (e_istr0 rfl rfl (by omega)) ?_
    | refine wG_pure (o_not rfl) ?_
    | refine wG_pure (e_ia_vw0 rfl rfl (by omega) rfl) ?_
    | refine wG_pure (e_ia_vwp rfl rfl (by omega) rfl) ?_
    | refine wG_pure (e_ia_vwm rfl rfl (by omega) (by omega) rfl) ?_
    | refine wG_pure (e_ia_vwi rfl rfl (by omega) rfl) ?_
    | refine wG_pure (e_ia_vwn rfl rfl (by omega) (by omega) rfl) ?_
    | refine wG_n rfl rfl ?_
    | refine wG_u rfl rfl ?_
    | refine wG_new (o_mks rfl rfl (by omega) (by decide)) ?_)
      exact ⟨i + 1, ⟨hi2, lt_upE hok ⟨g1, g2, g3, g4⟩⟩, by omega, ⟨⟨rfl, rfl⟩, ⟨rfl, rfl⟩, ⟨rfl, rfl⟩, trivial⟩, ⟨rfl, by show 0 < 1; decide, mdR_ltr1 _⟩, trivial⟩
  · have hi3 : i = xs.length := by omega
    subst hi3
    repeat (first
    | refine wC_a rfl ?_
    | refine q_s rfl ?_
    | refine q_b rfl ?_
    | refine wG_nil ?_
    | refine wG_g rfl ?_
    | refine wG_pure (o_len_vwm rfl) ?_
    | refine wG_pure (o_not_d rfl) ?_
    | refine wG_p rfl (by first | exact rfl | omega) ?_
    | refine wG_pure (o_str2 rfl rfl rfl) ?_
    | refine wG_pure (e_istr rfl rfl (by omega)) ?_
    | refine wG_pure (e_istr0 rfl rfl (by omega)) ?_
    | refine wG_pure (o_not rfl) ?_
    | refine wG_pure (e_ia_vw0 rfl rfl (by omega) rfl) ?_
    | refine wG_pure (e_ia_vwp rfl rfl (by omega) rfl) ?_
    | refine wG_pure (e_ia_vwm rfl rfl (by omega) (by omega) rfl) ?_
    | refine wG_pure (e_ia_vwi rfl rfl (by omega) rfl) ?_
    | refine wG_pure (e_ia_vwn rfl rfl (by omega) (by omega) rfl) ?_
    | refine wG_n rfl rfl ?_
    | refine wG_u rfl rfl ?_
    | refine wG_new (o_mks rfl rfl (by omega) (by decide)) ?_)
    exact ret_boolE (.inr rfl) ⟨_, retV_mv rfl, (decide_eq_true ⟨hy, by omega, hp, by omega, hok⟩).symm⟩
open Classical in
theorem con12 (c : Bool) (m : Md) (xs : List Ev) (h3 : xs.length ≤ 1048576) (hL : LenE xs 1048576) : Con Try.prog 12 true [.agg (mdR c m xs)] (.bool (decide (GoodM m xs))) [] := by
  refine con_of_wp mixed fun12 (by simp) [] plain_nil ?_
  unfold ac12 ro12
  simp only [zipT]
  have c1 := con39 c m xs h3 hL
  repeat (first | refine wG_call c1 rfl rfl ?_ | (first
    | refine wC_a rfl ?_
    | refine q_s rfl ?_
    | refine q_b rfl ?_
    | refine wG_nil ?_
    | refine wG_g rfl ?_
    | refine wG_pure (o_len_vwm rfl) ?_
    | refine wG_pure (o_not_d rfl) ?_
    | refine wG_p rfl (by first | exact rfl | omega) ?_
    | refine wG_pure (o_str2 rfl rfl rfl) ?_
    | refine wG_pure (e_istr rfl rfl (by omega)) ?_
    | refine wG_pure (e_istr0 rfl rfl (by omega)) ?_
    | refine wG_pure (o_not rfl) ?_
    | refine wG_pure (e_ia_vw0 rfl rfl (by omega) rfl) ?_
    | refine wG_pure (e_ia_vwp rfl rfl (by omega) rfl) ?_
    | refine wG_pure (e_ia_vwm rfl rfl (by omega) (by omega) rfl) ?_
    | refine wG_pure (e_ia_vwi rfl rfl (by omega) rfl) ?_
    | refine wG_pure (e_ia_vwn rfl rfl (by omega) (by omega) rfl) ?_
    | refine wG_n rfl rfl ?_
    | refine wG_u rfl rfl ?_
    | refine wG_new (o_mks rfl rfl (by omega) (by decide)) ?_))
  exact ret_boolE (.inr rfl) ⟨_, retV_mv rfl, rfl⟩
open Classical in
theorem con14 (c : Bool) (m : Md) (xs : List Ev) (h3 : xs.length ≤ 1048576) (hL : LenE xs 1048576) : Con Try.prog 14 true [.agg (mdR c m xs)] (.bool (decide (GoodM m xs))) [] := by
  refine con_of_wp mixed fun14 (by simp) [] plain_nil ?_
  unfold ac14 ro14
  simp only [zipT]
  have c0 := con41 m.f
  by_cases hf0 : -20000 ≤ m.f ∧ m.f ≤ 2100
  case neg =>
    rw [decide_eq_false hf0] at c0
    repeat (first | refine wG_call c0 rfl rfl ?_ | (first
    | refine wC_a rfl ?_
    | refine q_s rfl ?_
    | refine q_b rfl ?_
    | refine wG_nil ?_
    | refine wG_g rfl ?_
    | refine wG_pure (o_len_vwm rfl) ?_
    | refine wG_pure (o_not_d rfl) ?_
    | refine wG_p rfl (by first | exact rfl | omega) ?_
    | refine wG_pure (o_str2 rfl rfl rfl) ?_
    | refine wG_pure (e_istr rfl rfl (by omega)) ?_
    | refine wG_pure (e_istr0 rfl rfl (by omega)) ?_
    | refine wG_pure (o_not rfl) ?_
    | refine wG_pure (e_ia_vw0 rfl rfl (by omega) rfl) ?_
    | refine wG_pure (e_ia_vwp rfl rfl (by omega) rfl) ?_
    | refine wG_pure (e_ia_vwm rfl rfl (by omega) (by omega) rfl) ?_
    | refine wG_pure (e_ia_vwi rfl rfl (by omega) rfl) ?_
    | refine wG_pure (e_ia_vwn rfl rfl (by omega) (by omega) rfl) ?_
    | refine wG_n rfl rfl ?_
    | refine wG_u rfl rfl ?_
    | refine wG_new (o_mks rfl rfl (by omega) (by decide)) ?_))
    exact ret_boolE (.inr rfl) ⟨_, retV_mv rfl, (decide_eq_false fun h => hf0 (by have := h.2.1; have := h.1; omega)).symm⟩
  rw [decide_eq_true hf0] at c0
  have c1 := con42 m.y 1 20
  by_cases hy : 1 ≤ m.y ∧ m.y ≤ 20
  case neg =>
    rw [decide_eq_false hy] at c1
    repeat (first | refine wG_call c0 rfl rfl ?_ | refine wG_call c1 rfl rfl ?_ | (first
    | refine wC_a rfl ?_
    | refine q_s rfl ?_
    | refine q_b rfl ?_
    | refine wG_nil ?_
    | refine wG_g rfl ?_
    | refine wG_pure (o_len_vwm rfl) ?_
    | refine wG_pure (o_not_d rfl) ?_
    | refine wG_p rfl (by first | exact rfl | omega) ?_
    | refine wG_pure (o_str2 rfl rfl rfl) ?_
    | refine wG_pure (e_istr rfl rfl (by omega)) ?_
    | refine wG_pure (e_istr0 rfl rfl (by omega)) ?_
    | refine wG_pure (o_not rfl) ?_
    | refine wG_pure (e_ia_vw0 rfl rfl (by omega) rfl) ?_
    | refine wG_pure (e_ia_vwp rfl rfl (by omega) rfl) ?_
    | refine wG_pure (e_ia_vwm rfl rfl (by omega) (by omega) rfl) ?_
    | refine wG_pure (e_ia_vwi rfl rfl (by omega) rfl) ?_
    | refine wG_pure (e_ia_vwn rfl rfl (by omega) (by omega) rfl) ?_
    | refine wG_n rfl rfl ?_
    | refine wG_u rfl rfl ?_
    | refine wG_new (o_mks rfl rfl (by omega) (by decide)) ?_))
    exact ret_boolE (.inr rfl) ⟨_, retV_mv rfl, (decide_eq_false fun h => hy h.1).symm⟩
  rw [decide_eq_true hy] at c1
  have c2 := con41 (m.f + m.y - 1)
  by_cases hf : -20000 ≤ m.f + m.y - 1 ∧ m.f + m.y - 1 ≤ 2100
  case neg =>
    rw [decide_eq_false hf] at c2
    repeat (first | refine wG_call c0 rfl rfl ?_ | refine wG_call c1 rfl rfl ?_ | refine wG_call c2 rfl rfl ?_ | (first
    | refine wC_a rfl ?_
    | refine q_s rfl ?_
    | refine q_b rfl ?_
    | refine wG_nil ?_
    | refine wG_g rfl ?_
    | refine wG_pure (o_len_vwm rfl) ?_
    | refine wG_pure (o_not_d rfl) ?_
    | refine wG_p rfl (by first | exact rfl | omega) ?_
    | refine wG_pure (o_str2 rfl rfl rfl) ?_
    | refine wG_pure (e_istr rfl rfl (by omega)) ?_
    | refine wG_pure (e_istr0 rfl rfl (by omega)) ?_
    | refine wG_pure (o_not rfl) ?_
    | refine wG_pure (e_ia_vw0 rfl rfl (by omega) rfl) ?_
    | refine wG_pure (e_ia_vwp rfl rfl (by omega) rfl) ?_
    | refine wG_pure (e_ia_vwm rfl rfl (by omega) (by omega) rfl) ?_
    | refine wG_pure (e_ia_vwi rfl rfl (by omega) rfl) ?_
    | refine wG_pure (e_ia_vwn rfl rfl (by omega) (by omega) rfl) ?_
    | refine wG_n rfl rfl ?_
    | refine wG_u rfl rfl ?_
    | refine wG_new (o_mks rfl rfl (by omega) (by decide)) ?_))
    exact ret_boolE (.inr rfl) ⟨_, retV_mv rfl, (decide_eq_false fun h => hf (by have := h.2.1; omega)).symm⟩
  rw [decide_eq_true hf] at c2
  have c3 := con42 m.p 1 2
  by_cases hp : 1 ≤ m.p ∧ m.p ≤ 2
  case neg =>
    rw [decide_eq_false hp] at c3
    repeat (first | refine wG_call c0 rfl rfl ?_ | refine wG_call c1 rfl rfl ?_ | refine wG_call c2 rfl rfl ?_ | refine wG_call c3 rfl rfl ?_ | (first
    | refine wC_a rfl ?_
    | refine q_s rfl ?_
    | refine q_b rfl ?_
    | refine wG_nil ?_
    | refine wG_g rfl ?_
    | refine wG_pure (o_len_vwm rfl) ?_
    | refine wG_pure (o_not_d rfl) ?_
    | refine wG_p rfl (by first | exact rfl | omega) ?_
    | refine wG_pure (o_str2 rfl rfl rfl) ?_
    | refine wG_pure (e_istr rfl rfl (by omega)) ?_
    | refine wG_pure (e_istr0 rfl rfl (by omega)) ?_
    | refine wG_pure (o_not rfl) ?_
    | refine wG_pure (e_ia_vw0 rfl rfl (by omega) rfl) ?_
    | refine wG_pure (e_ia_vwp rfl rfl (by omega) rfl) ?_
    | refine wG_pure (e_ia_vwm rfl rfl (by omega) (by omega) rfl) ?_
    | refine wG_pure (e_ia_vwi rfl rfl (by omega) rfl) ?_
    | refine wG_pure (e_ia_vwn rfl rfl (by omega) (by omega) rfl) ?_
    | refine wG_n rfl rfl ?_
    | refine wG_u rfl rfl ?_
    | refine wG_new (o_mks rfl rfl (by omega) (by decide)) ?_))
    exact ret_boolE (.inr rfl) ⟨_, retV_mv rfl, (decide_eq_false fun h => hp h.2.2.1).symm⟩
  rw [decide_eq_true hp] at c3
  by_cases hn : (xs.length : Int) > 4
  · have d0 : decide ((xs.length : Int) > 4) = true := decide_eq_true hn
    repeat (first | refine wG_call c0 rfl rfl ?_ | refine wG_call c1 rfl rfl ?_ | refine wG_call c2 rfl rfl ?_ | refine wG_call c3 rfl rfl ?_ | (first
    | refine wC_a rfl ?_
    | refine q_s rfl ?_
    | refine q_b rfl ?_
    | refine wG_nil ?_
    | refine wG_g rfl ?_
    | refine wG_pure (o_len_vwm rfl) ?_
    | refine wG_pure (o_not_d rfl) ?_
    | refine wG_p rfl (by first | exact rfl | omega) ?_
    | refine wG_pure (o_str2 rfl rfl rfl) ?_
    | refine wG_pure (e_istr rfl rfl (by omega)) ?_
    | refine wG_pure (e_istr0 rfl rfl (by omega)) ?_
    | refine wG_pure (o_not rfl) ?_
    | refine wG_pure (e_ia_vw0 rfl rfl (by omega) rfl) ?_
    | refine wG_pure (e_ia_vwp rfl rfl (by omega) rfl) ?_
    | refine wG_pure (e_ia_vwm rfl rfl (by omega) (by omega) rfl) ?_
    | refine wG_pure (e_ia_vwi rfl rfl (by omega) rfl) ?_
    | refine wG_pure (e_ia_vwn rfl rfl (by omega) (by omega) rfl) ?_
    | refine wG_n rfl rfl ?_
    | refine wG_u rfl rfl ?_
    | refine wG_new (o_mks rfl rfl (by omega) (by decide)) ?_))
    simp only [d0]
    repeat (first
    | refine wC_a rfl ?_
    | refine q_s rfl ?_
    | refine q_b rfl ?_
    | refine wG_nil ?_
    | refine wG_g rfl ?_
    | refine wG_pure (o_len_vwm rfl) ?_
    | refine wG_pure (o_not_d rfl) ?_
    | refine wG_p rfl (by first | exact rfl | omega) ?_
    | refine wG_pure (o_str2 rfl rfl rfl) ?_
    | refine wG_pure (e_istr rfl rfl (by omega)) ?_
    | refine wG_pure (e_istr0 rfl rfl (by omega)) ?_
    | refine wG_pure (o_not rfl) ?_
    | refine wG_pure (e_ia_vw0 rfl rfl (by omega) rfl) ?_
    | refine wG_pure (e_ia_vwp rfl rfl (by omega) rfl) ?_
    | refine wG_pure (e_ia_vwm rfl rfl (by omega) (by omega) rfl) ?_
    | refine wG_pure (e_ia_vwi rfl rfl (by omega) rfl) ?_
    | refine wG_pure (e_ia_vwn rfl rfl (by omega) (by omega) rfl) ?_
    | refine wG_n rfl rfl ?_
    | refine wG_u rfl rfl ?_
    | refine wG_new (o_mks rfl rfl (by omega) (by decide)) ?_)
    exact ret_boolE (.inr rfl) ⟨_, retV_mv rfl, (decide_eq_false fun h => by have := h.2.2.2.1; omega).symm⟩
  have d0 : decide ((xs.length : Int) > 4) = false := decide_eq_false hn
  repeat (first | refine wG_call c0 rfl rfl ?_ | refine wG_call c1 rfl rfl ?_ | refine wG_call c2 rfl rfl ?_ | refine wG_call c3 rfl rfl ?_ | (first
    | refine wC_a rfl ?_
    | refine q_s rfl ?_
    | refine q_b rfl ?_
    | refine wG_nil ?_
    | refine wG_g rfl ?_
    | refine wG_pure (o_len_vwm rfl) ?_
    | refine wG_pure (o_not_d rfl) ?_
    | refine wG_p rfl (by first | exact rfl | omega) ?_
    | refine wG_pure (o_str2 rfl rfl rfl) ?_
    | refine wG_pure (e_istr rfl rfl (by omega)) ?_
    | refine wG_pure (e_istr0 rfl rfl (by omega)) ?_
    | refine wG_pure (o_not rfl) ?_
    | refine wG_pure (e_ia_vw0 rfl rfl (by omega) rfl) ?_
    | refine wG_pure (e_ia_vwp rfl rfl (by omega) rfl) ?_
    | refine wG_pure (e_ia_vwm rfl rfl (by omega) (by omega) rfl) ?_
    | refine wG_pure (e_ia_vwi rfl rfl (by omega) rfl) ?_
    | refine wG_pure (e_ia_vwn rfl rfl (by omega) (by omega) rfl) ?_
    | refine wG_n rfl rfl ?_
    | refine wG_u rfl rfl ?_
    | refine wG_new (o_mks rfl rfl (by omega) (by decide)) ?_))
  simp only [d0]
  repeat (first
    | refine wC_a rfl ?_
    | refine q_s rfl ?_
    | refine q_b rfl ?_
    | refine wG_nil ?_
    | refine wG_g rfl ?_
    | refine wG_pure (o_len_vwm rfl) ?_
    | refine wG_pure (o_not_d rfl) ?_
    | refine wG_p rfl (by first | exact rfl | omega) ?_
    | refine wG_pure (o_str2 rfl rfl rfl) ?_
    | refine wG_pure (e_istr rfl rfl (by omega)) ?_
    | refine wG_pure (e_istr0 rfl rfl (by omega)) ?_
    | refine wG_pure (o_not rfl) ?_
    | refine wG_pure (e_ia_vw0 rfl rfl (by omega) rfl) ?_
    | refine wG_pure (e_ia_vwp rfl rfl (by omega) rfl) ?_
    | refine wG_pure (e_ia_vwm rfl rfl (by omega) (by omega) rfl) ?_
    | refine wG_pure (e_ia_vwi rfl rfl (by omega) rfl) ?_
    | refine wG_pure (e_ia_vwn rfl rfl (by omega) (by omega) rfl) ?_
    | refine wG_n rfl rfl ?_
    | refine wG_u rfl rfl ?_
    | refine wG_new (o_mks rfl rfl (by omega) (by decide)) ?_)
  refine wC_loop Nat (fun i => ⟨[(1, .pt 0 0 0), (3, .int .i64 (prE m.y xs i)), (40, .vw c (xs.map nE)), (41, .int .i64 (xs.length : Int)), (42, .int .i64 (i : Int))], [(0, some [mdR c m xs])], 1⟩) (fun i => i ≤ xs.length ∧ ∀ j, j < i → okE m xs j) (fun i => xs.length - i) 0 ⟨Nat.zero_le _, fun j hj => absurd hj (Nat.not_lt_zero _)⟩ ?_ (fun _ _ => Nat.zero_le _) ?_
  · exact ⟨⟨⟨rfl, rfl⟩, ⟨rfl, rfl⟩, ⟨rfl, rfl⟩, ⟨rfl, rfl⟩, ⟨rfl, rfl⟩, trivial⟩, ⟨rfl, by show 0 < 1; decide, mdR_ltr1 _⟩, trivial⟩
  rintro i ⟨hi, hok⟩
  obtain ⟨w1, w2⟩ := prE_b hy i hok
  repeat (first
    | refine wC_a rfl ?_
    | refine q_s rfl ?_
    | refine q_b rfl ?_
    | refine wG_nil ?_
    | refine wG_g rfl ?_
    | refine wG_pure (o_len_vwm rfl) ?_
    | refine wG_pure (o_not_d rfl) ?_
    | refine wG_p rfl (by first | exact rfl | omega) ?_
    | refine wG_pure (o_str2 rfl rfl rfl) ?_
    | refine wG_pure (e_istr rfl rfl (by omega)) ?_
    | refine wG_pure (e_istr0 rfl rfl (by omega)) ?_
    | refine wG_pure (o_not rfl) ?_
    | refine wG_pure (e_ia_vw0 rfl rfl (by omega) rfl) ?_
    | refine wG_pure (e_ia_vwp rfl rfl (by omega) rfl) ?_
    | refine wG_pure (e_ia_vwm rfl rfl (by omega) (by omega) rfl) ?_
    | refine wG_pure (e_ia_vwi rfl rfl (by omega) rfl) ?_
    | refine wG_pure (e_ia_vwn rfl rfl (by omega) (by omega) rfl) ?_
    | refine wG_n rfl rfl ?_
    | refine wG_u rfl rfl ?_
    | refine wG_new (o_mks rfl rfl (by omega) (by decide)) ?_)
  refine wC_cond_d rfl (fun h5 => ?_) (fun h5 => ?_)
  · have hi2 : i < xs.length := by omega
    have e1 := con42 (xs.getD i default).p 0 (m.p - 1)
    by_cases g1 : 0 ≤ (xs.getD i default).p ∧ (xs.getD i default).p ≤ m.p - 1
    case neg =>
      rw [decide_eq_false g1] at e1
      repeat (first | refine wG_call e1 rfl rfl ?_ | (first
    | refine wC_a rfl ?_
    | refine q_s rfl ?_
    | refine q_b rfl ?_
    | refine wG_nil ?_
    | refine wG_g rfl ?_
    | refine wG_pure (o_len_vwm rfl) ?_
    | refine wG_pure (o_not_d rfl) ?_
    | refine wG_p rfl (by first | exact rfl | omega) ?_
    | refine wG_pure (o_str2 rfl rfl rfl) ?_
    | refine wG_pure (e_istr rfl rfl (by omega)) ?_
    | refine wG_pure (e_istr0 rfl rfl (by omega)) ?_
    | refine wG_pure (o_not rfl) ?_
    | refine wG_pure (e_ia_vw0 rfl rfl (by omega) rfl) ?_
    | refine wG_pure (e_ia_vwp rfl rfl (by omega) rfl) ?_
    | refine wG_pure (e_ia_vwm rfl rfl (by omega) (by omega) rfl) ?_
    | refine wG_pure (e_ia_vwi rfl rfl (by omega) rfl) ?_
    | refine wG_pure (e_ia_vwn rfl rfl (by omega) (by omega) rfl) ?_
    | refine wG_n rfl rfl ?_
    | refine wG_u rfl rfl ?_
    | refine wG_new (o_mks rfl rfl (by omega) (by decide)) ?_))
      exact ret_boolE (.inr rfl) ⟨_, retV_mv rfl, (decide_eq_false fun h => g1 (h.2.2.2.2 i hi2).1).symm⟩
    rw [decide_eq_true g1] at e1
    have e2 := con43 (xs.getD i default).b (xs.getD i default).d (hL i hi2)
    by_cases g2 : GoodD (xs.getD i default).d
    case neg =>
      rw [decide_eq_false g2] at e2
      repeat (first | refine wG_call e1 rfl rfl ?_ | refine wG_call e2 rfl rfl ?_ | (first
    | refine wC_a rfl ?_
    | refine q_s rfl ?_
    | refine q_b rfl ?_
    | refine wG_nil ?_
    | refine wG_g rfl ?_
    | refine wG_pure (o_len_vwm rfl) ?_
    | refine wG_pure (o_not_d rfl) ?_
    | refine wG_p rfl (by first | exact rfl | omega) ?_
    | refine wG_pure (o_str2 rfl rfl rfl) ?_
    | refine wG_pure (e_istr rfl rfl (by omega)) ?_
    | refine wG_pure (e_istr0 rfl rfl (by omega)) ?_
    | refine wG_pure (o_not rfl) ?_
    | refine wG_pure (e_ia_vw0 rfl rfl (by omega) rfl) ?_
    | refine wG_pure (e_ia_vwp rfl rfl (by omega) rfl) ?_
    | refine wG_pure (e_ia_vwm rfl rfl (by omega) (by omega) rfl) ?_
    | refine wG_pure (e_ia_vwi rfl rfl (by omega) rfl) ?_
    | refine wG_pure (e_ia_vwn rfl rfl (by omega) (by omega) rfl) ?_
    | refine wG_n rfl rfl ?_
    | refine wG_u rfl rfl ?_
    | refine wG_new (o_mks rfl rfl (by omega) (by decide)) ?_))
      exact ret_boolE (.inr rfl) ⟨_, retV_mv rfl, (decide_eq_false fun h => g2 (h.2.2.2.2 i hi2).2.1).symm⟩
    rw [decide_eq_true g2] at e2
    have e3 := con42 (xs.getD i default).o 0 100
    by_cases g3 : 0 ≤ (xs.getD i default).o ∧ (xs.getD i default).o ≤ 100
    case neg =>
      rw [decide_eq_false g3] at e3
      repeat (first | refine wG_call e1 rfl rfl ?_ | refine wG_call e2 rfl rfl ?_ | refine wG_call e3 rfl rfl ?_ | (first
    | refine wC_a rfl ?_
    | refine q_s rfl ?_
    | refine q_b rfl ?_
    | refine wG_nil ?_
    | refine wG_g rfl ?_
    | refine wG_pure (o_len_vwm rfl) ?_
    | refine wG_pure (o_not_d rfl) ?_
    | refine wG_p rfl (by first | exact rfl | omega) ?_
    | refine wG_pure (o_str2 rfl rfl rfl) ?_
    | refine wG_pure (e_istr rfl rfl (by omega)) ?_
    | refine wG_pure (e_istr0 rfl rfl (by omega)) ?_
    | refine wG_pure (o_not rfl) ?_
    | refine wG_pure (e_ia_vw0 rfl rfl (by omega) rfl) ?_
    | refine wG_pure (e_ia_vwp rfl rfl (by omega) rfl) ?_
    | refine wG_pure (e_ia_vwm rfl rfl (by omega) (by omega) rfl) ?_
    | refine wG_pure (e_ia_vwi rfl rfl (by omega) rfl) ?_
    | refine wG_pure (e_ia_vwn rfl rfl (by omega) (by omega) rfl) ?_
    | refine wG_n rfl rfl ?_
    | refine wG_u rfl rfl ?_
    | refine wG_new (o_mks rfl rfl (by omega) (by decide)) ?_))
      exact ret_boolE (.inr rfl) ⟨_, retV_mv rfl, (decide_eq_false fun h => g3 (h.2.2.2.2 i hi2).2.2.1).symm⟩
    rw [decide_eq_true g3] at e3
    have e4 := con44 (xs.getD i default).b (xs.getD i default).d g2
    have hfb := fac_b (x := xs.getD i default) hy g2
    have hfe : 100 * m.y * total (xs.getD i default).d = fac m.y (xs.getD i default) := rfl
    have hdv : (1000000000000000 : Int).tdiv (fac m.y (xs.getD i default)) ≤ 1000000000000000 ∧ 0 ≤ (1000000000000000 : Int).tdiv (fac m.y (xs.getD i default)) := by
      rw [Int.tdiv_eq_ediv_of_nonneg (by omega)]
      exact ⟨Int.ediv_le_self _ (by omega), Int.ediv_nonneg (by omega) (by omega)⟩
    rw [← hfe] at hfb hdv
    repeat (first | refine wG_call e1 rfl rfl ?_ | refine wG_call e2 rfl rfl ?_ | refine wG_call e3 rfl rfl ?_ | refine wC_dregE ?_ | refine wE_call e4 rfl rfl rfl ?_ | (first
    | refine wC_a rfl ?_
    | refine q_s rfl ?_
    | refine q_b rfl ?_
    | refine wG_nil ?_
    | refine wG_g rfl ?_
    | refine wG_pure (o_len_vwm rfl) ?_
    | refine wG_pure (o_not_d rfl) ?_
    | refine wG_p rfl (by first | exact rfl | omega) ?_
    | refine wG_pure (o_str2 rfl rfl rfl) ?_
    | refine wG_pure (e_istr rfl rfl (by omega)) ?_
    | refine wG_pure (e_istr0 rfl rfl (by omega)) ?_
    | refine wG_pure (o_not rfl) ?_
    | refine wG_pure (e_ia_vw0 rfl rfl (by omega) rfl) ?_
    | refine wG_pure (e_ia_vwp rfl rfl (by omega) rfl) ?_
    | refine wG_pure (e_ia_vwm rfl rfl (by omega) (by omega) rfl) ?_
    | refine wG_pure (e_ia_vwi rfl rfl (by omega) rfl) ?_
    | refine wG_pure (e_ia_vwn rfl rfl (by omega) (by omega) rfl) ?_
    | refine wG_n rfl rfl ?_
    | refine wG_u rfl rfl ?_
    | refine wG_new (o_mks rfl rfl (by omega) (by decide)) ?_) | (first
    | refine wE_nil (by kernel_rfl) ?_
    | refine wE_gy rfl ?_
    | refine wE_gn rfl rfl rfl ?_
    | refine wE_gu rfl rfl ?_
    | refine wE_gnn rfl rfl rfl ?_
    | refine wE_v (o_len_vwm rfl) rfl ?_
    | refine wE_v (o_not_d rfl) rfl ?_
    | refine wE_p rfl (by first | exact rfl | omega) rfl ?_
    | refine wE_v (o_str2 rfl rfl rfl) rfl ?_
    | refine wE_v (e_istr rfl rfl (by omega)) rfl ?_
    | refine wE_v (e_istr0 rfl rfl (by omega)) rfl ?_
    | refine wE_v (o_not rfl) rfl ?_
    | refine wE_v (e_ia_vw0 rfl rfl (by omega) rfl) rfl ?_
    | refine wE_v (e_ia_vwp rfl rfl (by omega) rfl) rfl ?_
    | refine wE_v (e_ia_vwm rfl rfl (by omega) (by omega) rfl) rfl ?_
    | refine wE_v (e_ia_vwi rfl rfl (by omega) rfl) rfl ?_
    | refine wE_v (e_ia_vwn rfl rfl (by omega) (by omega) rfl) rfl ?_
    | refine wE_n rfl rfl rfl ?_
    | refine wE_u rfl rfl rfl ?_
    | refine wE_new (o_mks rfl rfl (by omega) (by decide)) rfl ?_))
    rw [hfe]
    rw [hfe] at hfb hdv
    by_cases g4 : prE m.y xs i > (1000000000000000 : Int).tdiv (fac m.y (xs.getD i default))
    · simp only [decide_eq_true g4]
      repeat (first
    | refine wC_a rfl ?_
    | refine q_s rfl ?_
    | refine q_b rfl ?_
    | refine wG_nil ?_
    | refine wG_g rfl ?_
    | refine wG_pure (o_len_vwm rfl) ?_
    | refine wG_pure (o_not_d rfl) ?_
    | refine wG_p rfl (by first | exact rfl | omega) ?_
    | refine wG_pure (o_str2 rfl rfl rfl) ?_
    | refine wG_pure (e_istr rfl rfl (by omega)) ?_
    | refine wG_pure (e_istr0 rfl rfl (by omega)) ?_
    | refine wG_pure (o_not rfl) ?_
    | refine wG_pure (e_ia_vw0 rfl rfl (by omega) rfl) ?_
    | refine wG_pure (e_ia_vwp rfl rfl (by omega) rfl) ?_
    | refine wG_pure (e_ia_vwm rfl rfl (by omega) (by omega) rfl) ?_
    | refine wG_pure (e_ia_vwi rfl rfl (by omega) rfl) ?_
    | refine wG_pure (e_ia_vwn rfl rfl (by omega) (by omega) rfl) ?_
    | refine wG_n rfl rfl ?_
    | refine wG_u rfl rfl ?_
    | refine wG_new (o_mks rfl rfl (by omega) (by decide)) ?_)
      exact ret_boolE (.inr rfl) ⟨_, retV_mv rfl, (decide_eq_false fun h => (h.2.2.2.2 i hi2).2.2.2 g4).symm⟩
    · simp only [decide_eq_false g4]
      have hw := le_tdiv (by omega) (by omega) g4
      have hw0 : 0 ≤ prE m.y xs i * fac m.y (xs.getD i default) := Int.mul_nonneg (by omega) (by omega)
      repeat (first
    | refine wC_a rfl ?_
    | refine q_s rfl ?_
    | refine q_b rfl ?_
    | refine wG_nil ?_
    | refine wG_g rfl ?_
    | refine wG_pure (o_len_vwm rfl) ?_
    | refine wG_pure (o_not_d rfl) ?_
    | refine wG_p rfl (by first | exact rfl | omega) ?_
    | refine wG_pure (o_str2 rfl rfl rfl) ?_
    | refine wG_pure (e_istr rfl rfl (by omega)) ?_
    | refine wG_pure (e_istr0 rfl rfl (by omega)) ?_
    | refine wG_pure (o_not rfl) ?_
    | refine wG_pure (e_ia_vw0 rfl rfl (by omega) rfl) ?_
    | refine wG_pure (e_ia_vwp rfl rfl (by omega) rfl) ?_
    | refine wG_pure (e_ia_vwm rfl rfl (by omega) (by omega) rfl) ?_
    | refine wG_pure (e_ia_vwi rfl rfl (by omega) rfl) ?_
    | refine wG_pure (e_ia_vwn rfl rfl (by omega) (by omega) rfl) ?_
    | refine wG_n rfl rfl ?_
    | refine wG_u rfl rfl ?_
    | refine wG_new (o_mks rfl rfl (by omega) (by decide)) ?_)
      exact ⟨i + 1, ⟨hi2, lt_upE hok ⟨g1, g2, g3, g4⟩⟩, by omega, ⟨⟨rfl, rfl⟩, ⟨rfl, rfl⟩, ⟨rfl, rfl⟩, ⟨rfl, rfl⟩, ⟨rfl, rfl⟩, trivial⟩, ⟨rfl, by show 0 < 1; decide, mdR_ltr1 _⟩, trivial⟩
  · have hi3 : i = xs.length := by omega
    subst hi3
    repeat (first
    | refine wC_a rfl ?_
    | refine q_s rfl ?_
    | refine q_b rfl ?_
    | refine wG_nil ?_
    | refine wG_g rfl ?_
    | refine wG_pure (o_len_vwm rfl) ?_
    | refine wG_pure (o_not_d rfl) ?_
    | refine wG_p rfl (by first | exact rfl | omega) ?_
    | refine wG_pure (o_str2 rfl rfl rfl) ?_
    | refine wG_pure (e_istr rfl rfl (by omega)) ?_
    | refine wG_pure (e_istr0 rfl rfl (by omega)) ?_
    | refine wG_pure (o_not rfl) ?_
    | refine wG_pure (e_ia_vw0 rfl rfl (by omega) rfl) ?_
    | refine wG_pure (e_ia_vwp rfl rfl (by omega) rfl) ?_
    | refine wG_pure (e_ia_vwm rfl rfl (by omega) (by omega) rfl) ?_
    | refine wG_pure (e_ia_vwi rfl rfl (by omega) rfl) ?_
    | refine wG_pure (e_ia_vwn rfl rfl (by omega) (by omega) rfl) ?_
    | refine wG_n rfl rfl ?_
    | refine wG_u rfl rfl ?_
    | refine wG_new (o_mks rfl rfl (by omega) (by decide)) ?_)
    exact ret_boolE (.inr rfl) ⟨_, retV_mv rfl, (decide_eq_true ⟨hy, by omega, hp, by omega, hok⟩).symm⟩
end Go.Proofs.Ytnohaclnpbpjbaa.Dst
