/- The shortest span: both sides, and the law. -/
import Derived.Test.YthbpcnkifgoimaaEvdM
namespace Go.Proofs.Ythbpcnkifgoimaa.Rec
open Go Go.Proofs.Ythbpcnkifgoimaa.Ab Go.Proofs.Ythbpcnkifgoimaa.Il
attribute [local irreducible] wpO wpC wpDr wpQ wpG wpE stepA seqQ blkQ Ret RetG ev
set_option maxRecDepth 10000
set_option maxHeartbeats 8000000
set_option linter.unusedSimpArgs false
set_option linter.unusedVariables false

def ac9 : AC := (.seq (.reg [⟨(some 2), none, (.box 2 true (.t 0))⟩, ⟨(some 4), none, (.mv (.c (.bool false)))⟩]) (.seq (.reg [⟨(some 5), none, (.mv (.c (.int .i64 1048576)))⟩]) (.seq (.reg [⟨(some 12), none, (.ld true 2 (.t 2))⟩, ⟨(some 13), none, (.mv (.t 5))⟩, ⟨(some 14), none, (.call 12 [(.t 12), (.t 13)])⟩, ⟨(some 5), none, (.mv (.t 14))⟩]) (.seq (.seq (.reg [⟨(some 15), none, (.mv (.t 5))⟩, ⟨(some 16), none, (.bin .lss (.t 15) (.c (.int .i64 0)))⟩]) (.cond (.t 16) (.seq (.reg [⟨(some 4), none, (.mv (.c (.bool true)))⟩]) .ret) .skip)) (.seq (.reg [⟨(some 17), none, (.mv (.t 1))⟩, ⟨(some 18), none, (.mv (.t 5))⟩, ⟨(some 19), none, (.call 13 [(.t 17), (.t 18)])⟩, ⟨(some 5), none, (.mv (.t 19))⟩]) (.seq (.seq (.reg [⟨(some 20), none, (.mv (.t 5))⟩, ⟨(some 21), none, (.bin .lss (.t 20) (.c (.int .i64 0)))⟩]) (.cond (.t 21) (.seq (.reg [⟨(some 4), none, (.mv (.c (.bool true)))⟩]) .ret) .skip)) (.seq (.reg [⟨(some 23), none, (.ld true 2 (.t 2))⟩, ⟨(some 24), none, (.call 15 [(.t 23)])⟩, ⟨(some 25), none, (.mv (.t 1))⟩, ⟨(some 26), none, (.call 16 [(.t 25)])⟩, ⟨(some 27), none, (.call 41 [(.t 24), (.t 26)])⟩, ⟨(some 22), none, (.mv (.t 27))⟩, ⟨(some 28), none, (.ext (.t 22) 0)⟩, ⟨(some 29), none, (.ext (.t 22) 1)⟩, ⟨(some 6), none, (.mv (.t 28))⟩, ⟨(some 7), none, (.mv (.t 29))⟩]) (.seq (.reg [⟨(some 30), none, (.ld true 2 (.t 2))⟩, ⟨(some 31), none, (.call 15 [(.t 30)])⟩, ⟨(some 8), none, (.alloc [.nilS, .nilS])⟩, ⟨none, none, (.st 2 (.t 8) (.t 31))⟩]) (.seq (.reg [⟨(some 32), none, (.mv (.t 1))⟩, ⟨(some 33), none, (.call 16 [(.t 32)])⟩, ⟨(some 9), none, (.mv (.t 33))⟩]) (.seq (.reg [⟨(some 35), none, (.ld true 2 (.t 8))⟩, ⟨(some 36), none, (.mv (.t 9))⟩, ⟨(some 37), none, (.call 42 [(.t 35), (.t 36)])⟩, ⟨(some 34), none, (.mv (.t 37))⟩, ⟨(some 38), none, (.ext (.t 34) 0)⟩, ⟨(some 39), none, (.ext (.t 34) 1)⟩, ⟨(some 10), none, (.mv (.t 38))⟩, ⟨(some 11), none, (.mv (.t 39))⟩]) (.seq (.seq (.reg [⟨(some 40), none, (.mv (.t 10))⟩, ⟨(some 41), none, (.mv (.t 6))⟩, ⟨(some 42), none, (.bin .neq (.t 40) (.t 41))⟩, ⟨(some 43), none, (.mv (.t 42))⟩, ⟨(some 44), (some (43, false)), (.mv (.t 11))⟩, ⟨(some 45), (some (43, false)), (.mv (.t 7))⟩, ⟨(some 46), (some (43, false)), (.bool2 true (.t 44) (.t 45))⟩, ⟨(some 47), none, (.pick (.t 43) (.c (.bool true)) (.t 46))⟩]) (.cond (.t 47) (.seq (.reg [⟨(some 4), none, (.mv (.c (.bool false)))⟩]) .ret) .skip)) (.seq (.seq (.dreg [⟨(some 48), none, (.ld true 2 (.t 8))⟩, ⟨(some 49), none, (.ld true 2 (.t 2))⟩, ⟨(some 50), none, (.call 15 [(.t 49)])⟩, ⟨(some 51), none, (.call 19 [(.t 48), (.t 50)])⟩, ⟨(some 52), none, (.un .not (.t 51))⟩] [[], [], [1], [0, 1, 2], [0, 1, 2, 3]]) (.cond (.t 52) (.seq (.reg [⟨(some 4), none, (.mv (.c (.bool false)))⟩]) .ret) .skip)) (.seq (.seq (.reg [⟨(some 53), none, (.mv (.t 9))⟩, ⟨(some 54), none, (.mv (.t 1))⟩, ⟨(some 55), none, (.call 16 [(.t 54)])⟩, ⟨(some 56), none, (.call 20 [(.t 53), (.t 55)])⟩, ⟨(some 57), none, (.un .not (.t 56))⟩]) (.cond (.t 57) (.seq (.reg [⟨(some 4), none, (.mv (.c (.bool false)))⟩]) .ret) .skip)) (.seq (.reg [⟨(some 4), none, (.mv (.c (.bool true)))⟩]) .ret))))))))))))))
def ro9 : List AOp := [(.mv (.t 4))]
theorem fun9 : Fun Try.prog 9 58 ac9 ro9 := ⟨Try.f9, _, Try.func9, by kernel_rfl, rfl, rfl, by kernel_rfl, by kernel_rfl, by decide⟩
def ac41 : AC := (.seq (.reg [⟨(some 2), none, (.box 2 true (.t 0))⟩, ⟨(some 4), none, (.mv (.c (.int .i64 0)))⟩, ⟨(some 5), none, (.mv (.c (.bool false)))⟩]) (.seq (.reg [⟨(some 12), none, (.ld true 2 (.t 2))⟩, ⟨(some 13), none, (.mv (.t 1))⟩, ⟨(some 14), none, (.call 36 [(.t 12), (.t 13)])⟩, ⟨(some 11), none, (.mv (.t 14))⟩, ⟨(some 15), none, (.ext (.t 11) 0)⟩, ⟨(some 16), none, (.ext (.t 11) 1)⟩, ⟨(some 6), none, (.mv (.t 15))⟩, ⟨(some 7), none, (.mv (.t 16))⟩]) (.seq (.seq (.reg [⟨(some 17), none, (.mv (.t 7))⟩, ⟨(some 18), none, (.un .not (.t 17))⟩]) (.cond (.t 18) (.seq (.reg [⟨(some 4), none, (.mv (.c (.int .i64 0)))⟩, ⟨(some 5), none, (.mv (.c (.bool false)))⟩]) .ret) .skip)) (.seq (.seq (.reg [⟨(some 19), none, (.mv (.t 6))⟩, ⟨(some 20), none, (.len (.t 19))⟩, ⟨(some 21), none, (.bin .eql (.t 20) (.c (.int .i64 0)))⟩]) (.cond (.t 21) (.seq (.reg [⟨(some 4), none, (.mv (.c (.int .i64 0)))⟩, ⟨(some 5), none, (.mv (.c (.bool true)))⟩]) .ret) .skip)) (.seq (.dreg [⟨(some 22), none, (.mv (.t 6))⟩, ⟨(some 23), none, (.ia 2 (.t 22) (.c (.int .i64 0)))⟩, ⟨(some 24), none, (.fa 0 (.t 23))⟩, ⟨(some 25), none, (.ld false 1 (.t 24))⟩, ⟨(some 26), none, (.mv (.t 6))⟩, ⟨(some 27), none, (.ia 2 (.t 26) (.c (.int .i64 0)))⟩, ⟨(some 28), none, (.fa 1 (.t 27))⟩, ⟨(some 29), none, (.ld false 1 (.t 28))⟩, ⟨(some 8), none, (.mv (.t 25))⟩, ⟨(some 9), none, (.mv (.t 29))⟩] [[], [0], [0, 1], [0, 1, 2], [], [4], [4, 5], [4, 5, 6], [0, 1, 2, 3], [0, 1, 2, 3, 4, 5, 6, 7, 8]]) (.seq (.seq (.reg [⟨(some 10), none, (.mv (.c (.int .i64 1)))⟩]) (.blk 0 (.loop (.seq (.seq (.reg [⟨(some 30), none, (.mv (.t 10))⟩, ⟨(some 31), none, (.mv (.t 6))⟩, ⟨(some 32), none, (.len (.t 31))⟩, ⟨(some 33), none, (.bin .lss (.t 30) (.t 32))⟩]) (.cond (.t 33) .skip (.exit 0))) (.seq (.blk 1 (.seq (.reg [⟨(some 36), none, (.mv (.t 8))⟩, ⟨(some 37), none, (.mv (.t 6))⟩, ⟨(some 38), none, (.mv (.t 10))⟩, ⟨(some 39), none, (.ia 2 (.t 37) (.t 38))⟩, ⟨(some 40), none, (.fa 0 (.t 39))⟩, ⟨(some 41), none, (.ld false 1 (.t 40))⟩, ⟨(some 42), none, (.call 62 [(.t 36), (.t 41)])⟩, ⟨(some 8), none, (.mv (.t 42))⟩]) (.reg [⟨(some 43), none, (.mv (.t 9))⟩, ⟨(some 44), none, (.mv (.t 6))⟩, ⟨(some 45), none, (.mv (.t 10))⟩, ⟨(some 46), none, (.ia 2 (.t 44) (.t 45))⟩, ⟨(some 47), none, (.fa 1 (.t 46))⟩, ⟨(some 48), none, (.ld false 1 (.t 47))⟩, ⟨(some 49), none, (.call 63 [(.t 43), (.t 48)])⟩, ⟨(some 9), none, (.mv (.t 49))⟩]))) (.reg [⟨(some 34), none, (.mv (.t 10))⟩, ⟨(some 35), none, (.bin .add (.t 34) (.c (.int .i64 1)))⟩, ⟨(some 10), none, (.mv (.t 35))⟩])))))) (.seq (.reg [⟨(some 50), none, (.mv (.t 8))⟩, ⟨(some 51), none, (.mv (.t 9))⟩, ⟨(some 52), none, (.bin .sub (.t 50) (.t 51))⟩, ⟨(some 53), none, (.call 62 [(.t 52), (.c (.int .i64 0))])⟩, ⟨(some 4), none, (.mv (.t 53))⟩, ⟨(some 5), none, (.mv (.c (.bool true)))⟩]) .ret)))))))
def ro41 : List AOp := [(.mv (.t 4)), (.mv (.t 5))]
theorem fun41 : Fun Try.prog 41 54 ac41 ro41 := ⟨Try.f41, _, Try.func41, by kernel_rfl, rfl, rfl, by kernel_rfl, by kernel_rfl, by decide⟩
def ac42 : AC := (.seq (.reg [⟨(some 2), none, (.box 2 true (.t 0))⟩, ⟨(some 4), none, (.mv (.c (.int .i64 0)))⟩, ⟨(some 5), none, (.mv (.c (.bool false)))⟩]) (.seq (.reg [⟨(some 11), none, (.ld true 2 (.t 2))⟩, ⟨(some 12), none, (.mv (.t 1))⟩, ⟨(some 13), none, (.call 44 [(.t 11), (.t 12)])⟩, ⟨(some 10), none, (.mv (.t 13))⟩, ⟨(some 14), none, (.ext (.t 10) 0)⟩, ⟨(some 15), none, (.ext (.t 10) 1)⟩, ⟨(some 6), none, (.mv (.t 14))⟩, ⟨(some 7), none, (.mv (.t 15))⟩]) (.seq (.reg [⟨(some 17), none, (.ld true 2 (.t 2))⟩, ⟨(some 18), none, (.mv (.t 1))⟩, ⟨(some 19), none, (.call 46 [(.t 17), (.t 18)])⟩, ⟨(some 16), none, (.mv (.t 19))⟩, ⟨(some 20), none, (.ext (.t 16) 0)⟩, ⟨(some 21), none, (.ext (.t 16) 1)⟩, ⟨(some 8), none, (.mv (.t 20))⟩, ⟨(some 9), none, (.mv (.t 21))⟩]) (.seq (.seq (.reg [⟨(some 22), none, (.mv (.t 7))⟩, ⟨(some 23), none, (.un .not (.t 22))⟩, ⟨(some 24), none, (.mv (.t 23))⟩, ⟨(some 25), (some (24, false)), (.mv (.t 9))⟩, ⟨(some 26), (some (24, false)), (.un .not (.t 25))⟩, ⟨(some 27), none, (.pick (.t 24) (.c (.bool true)) (.t 26))⟩]) (.cond (.t 27) (.seq (.reg [⟨(some 4), none, (.mv (.c (.int .i64 0)))⟩, ⟨(some 5), none, (.mv (.c (.bool false)))⟩]) .ret) .skip)) (.seq (.seq (.reg [⟨(some 28), none, (.mv (.t 6))⟩, ⟨(some 29), none, (.len (.t 28))⟩, ⟨(some 30), none, (.bin .eql (.t 29) (.c (.int .i64 0)))⟩]) (.cond (.t 30) (.seq (.reg [⟨(some 4), none, (.mv (.c (.int .i64 0)))⟩, ⟨(some 5), none, (.mv (.c (.bool true)))⟩]) .ret) .skip)) (.seq (.reg [⟨(some 31), none, (.mv (.t 6))⟩, ⟨(some 32), none, (.call 83 [(.t 31)])⟩, ⟨(some 33), none, (.mv (.t 8))⟩, ⟨(some 34), none, (.call 84 [(.t 33)])⟩, ⟨(some 35), none, (.bin .sub (.t 32) (.t 34))⟩, ⟨(some 36), none, (.mx (.c (.int .i64 0)) (.t 35))⟩, ⟨(some 4), none, (.mv (.t 36))⟩, ⟨(some 5), none, (.mv (.c (.bool true)))⟩]) .ret))))))
def ro42 : List AOp := [(.mv (.t 4)), (.mv (.t 5))]
theorem fun42 : Fun Try.prog 42 37 ac42 ro42 := ⟨Try.f42, _, Try.func42, by kernel_rfl, rfl, rfl, by kernel_rfl, by kernel_rfl, by decide⟩
def ac83 : AC := (.seq (.reg [⟨(some 2), none, (.mv (.c (.int .i64 0)))⟩]) (.seq (.seq (.reg [⟨(some 5), none, (.mv (.t 0))⟩, ⟨(some 6), none, (.len (.t 5))⟩, ⟨(some 7), none, (.bin .lss (.t 6) (.c (.int .i64 1)))⟩]) (.cond (.t 7) (.cond (.c .undef) .skip .skip) .skip)) (.seq (.reg [⟨(some 9), none, (.mv (.t 0))⟩, ⟨(some 10), none, (.ia 1 (.t 9) (.c (.int .i64 0)))⟩, ⟨(some 11), none, (.ld false 1 (.t 10))⟩, ⟨(some 3), none, (.mv (.t 11))⟩]) (.seq (.seq (.reg [⟨(some 4), none, (.mv (.c (.int .i64 1)))⟩]) (.blk 0 (.loop (.seq (.seq (.reg [⟨(some 12), none, (.mv (.t 4))⟩, ⟨(some 13), none, (.mv (.t 0))⟩, ⟨(some 14), none, (.len (.t 13))⟩, ⟨(some 15), none, (.bin .lss (.t 12) (.t 14))⟩]) (.cond (.t 15) .skip (.exit 0))) (.seq (.blk 1 (.reg [⟨(some 18), none, (.mv (.t 3))⟩, ⟨(some 19), none, (.mv (.t 0))⟩, ⟨(some 20), none, (.mv (.t 4))⟩, ⟨(some 21), none, (.ia 1 (.t 19) (.t 20))⟩, ⟨(some 22), none, (.ld false 1 (.t 21))⟩, ⟨(some 23), none, (.mx (.t 18) (.t 22))⟩, ⟨(some 3), none, (.mv (.t 23))⟩])) (.reg [⟨(some 16), none, (.mv (.t 4))⟩, ⟨(some 17), none, (.bin .add (.t 16) (.c (.int .i64 1)))⟩, ⟨(some 4), none, (.mv (.t 17))⟩])))))) (.seq (.reg [⟨(some 24), none, (.mv (.t 3))⟩, ⟨(some 2), none, (.mv (.t 24))⟩]) .ret)))))
def ro83 : List AOp := [(.mv (.t 2))]
theorem fun83 : Fun Try.prog 83 25 ac83 ro83 := ⟨Try.f83, _, Try.func83, by kernel_rfl, rfl, rfl, by kernel_rfl, by kernel_rfl, by decide⟩
def ac84 : AC := (.seq (.reg [⟨(some 2), none, (.mv (.c (.int .i64 0)))⟩]) (.seq (.seq (.reg [⟨(some 5), none, (.mv (.t 0))⟩, ⟨(some 6), none, (.len (.t 5))⟩, ⟨(some 7), none, (.bin .lss (.t 6) (.c (.int .i64 1)))⟩]) (.cond (.t 7) (.cond (.c .undef) .skip .skip) .skip)) (.seq (.reg [⟨(some 9), none, (.mv (.t 0))⟩, ⟨(some 10), none, (.ia 1 (.t 9) (.c (.int .i64 0)))⟩, ⟨(some 11), none, (.ld false 1 (.t 10))⟩, ⟨(some 3), none, (.mv (.t 11))⟩]) (.seq (.seq (.reg [⟨(some 4), none, (.mv (.c (.int .i64 1)))⟩]) (.blk 0 (.loop (.seq (.seq (.reg [⟨(some 12), none, (.mv (.t 4))⟩, ⟨(some 13), none, (.mv (.t 0))⟩, ⟨(some 14), none, (.len (.t 13))⟩, ⟨(some 15), none, (.bin .lss (.t 12) (.t 14))⟩]) (.cond (.t 15) .skip (.exit 0))) (.seq (.blk 1 (.reg [⟨(some 18), none, (.mv (.t 3))⟩, ⟨(some 19), none, (.mv (.t 0))⟩, ⟨(some 20), none, (.mv (.t 4))⟩, ⟨(some 21), none, (.ia 1 (.t 19) (.t 20))⟩, ⟨(some 22), none, (.ld false 1 (.t 21))⟩, ⟨(some 23), none, (.mn (.t 18) (.t 22))⟩, ⟨(some 3), none, (.mv (.t 23))⟩])) (.reg [⟨(some 16), none, (.mv (.t 4))⟩, ⟨(some 17), none, (.bin .add (.t 16) (.c (.int .i64 1)))⟩, ⟨(some 4), none, (.mv (.t 17))⟩])))))) (.seq (.reg [⟨(some 24), none, (.mv (.t 3))⟩, ⟨(some 2), none, (.mv (.t 24))⟩]) .ret)))))
def ro84 : List AOp := [(.mv (.t 2))]
theorem fun84 : Fun Try.prog 84 25 ac84 ro84 := ⟨Try.f84, _, Try.func84, by kernel_rfl, rfl, rfl, by kernel_rfl, by kernel_rfl, by decide⟩

def mxI (vs : List Int) : Nat → Int
  | 0 => vs.getD 0 default
  | i + 1 => max (mxI vs i) (vs.getD (i + 1) default)
def mnI (vs : List Int) : Nat → Int
  | 0 => vs.getD 0 default
  | i + 1 => min (mnI vs i) (vs.getD (i + 1) default)
theorem con83 (nn : Bool) (vs : List Int) (h0 : 0 < vs.length) (hl : vs.length ≤ 1048576) : Con Try.prog 83 true [.vw nn (vs.map iRow)] (.int .i64 (mxI vs (vs.length - 1))) [] := by
  refine con_of_wp mixed fun83 (by simp) [] plain_nil ?_
  unfold ac83 ro83
  simp only [zipT]
  repeat (first | (first
    | refine wC_a rfl ?_
    | refine q_s rfl ?_
    | refine q_b rfl ?_
    | refine wG_nil ?_
    | refine wG_g rfl ?_
    | refine wG_pure (o_len_vwm rfl) ?_
    | refine wG_pure (o_not_d rfl) ?_
    | refine wG_p rfl (by first | exact rfl | omega) ?_
    | refine wG_pure (o_str2 rfl rfl rfl) ?_
    | refine wG_pure (e_istr rfl rfl (by omega)) ?_
    | refine wG_pure (e_istr0 rfl rfl (by omega)) ?_
    | refine wG_pure (o_not rfl) ?_
    | refine wG_pure (e_ia_vw0 rfl rfl (by omega) rfl) ?_
    | refine wG_pure (e_ia_vwp rfl rfl (by omega) rfl) ?_
    | refine wG_pure (e_ia_vwm rfl rfl (by omega) (by omega) rfl) ?_
    | refine wG_pure (e_ia_vwi rfl rfl (by omega) rfl) ?_
    | refine wG_pure (e_ia_vwn rfl rfl (by omega) (by omega) rfl) ?_
    | refine wG_n rfl rfl ?_
    | refine wG_u rfl rfl ?_
    | refine wG_new (o_mks rfl rfl (by omega) (by decide)) ?_))
  refine wC_cond_d rfl (fun hg => ?_) (fun hg => ?_)
  · exfalso; omega
  repeat (first | (first
    | refine wC_a rfl ?_
    | refine q_s rfl ?_
    | refine q_b rfl ?_
    | refine wG_nil ?_
    | refine wG_g rfl ?_
    | refine wG_pure (o_len_vwm rfl) ?_
    | refine wG_pure (o_not_d rfl) ?_
    | refine wG_p rfl (by first | exact rfl | omega) ?_
    | refine wG_pure (o_str2 rfl rfl rfl) ?_
    | refine wG_pure (e_istr rfl rfl (by omega)) ?_
    | refine wG_pure (e_istr0 rfl rfl (by omega)) ?_
    | refine wG_pure (o_not rfl) ?_
    | refine wG_pure (e_ia_vw0 rfl rfl (by omega) rfl) ?_
    | refine wG_pure (e_ia_vwp rfl rfl (by omega) rfl) ?_
    | refine wG_pure (e_ia_vwm rfl rfl (by omega) (by omega) rfl) ?_
    | refine wG_pure (e_ia_vwi rfl rfl (by omega) rfl) ?_
    | refine wG_pure (e_ia_vwn rfl rfl (by omega) (by omega) rfl) ?_
    | refine wG_n rfl rfl ?_
    | refine wG_u rfl rfl ?_
    | refine wG_new (o_mks rfl rfl (by omega) (by decide)) ?_))
  refine wC_loop Nat (fun i => ⟨[(0, .vw nn (vs.map iRow)), (3, .int .i64 (mxI vs (i - 1))), (4, .int .i64 (i : Int))], [], 0⟩) (fun i => 1 ≤ i ∧ i ≤ vs.length) (fun i => vs.length - i) 1 ⟨Nat.le_refl _, h0⟩ ?_ (fun _ _ => Nat.le_refl _) ?_
  · exact ⟨⟨⟨rfl, rfl⟩, ⟨rfl, rfl⟩, ⟨rfl, rfl⟩, trivial⟩, trivial⟩
  rintro i ⟨hi0, hi⟩
  by_cases hi2 : i < vs.length
  · have e : mxI vs i = max (mxI vs (i - 1)) (vs.getD i default) := by
      obtain ⟨j, rfl⟩ : ∃ j, i = j + 1 := ⟨i - 1, by omega⟩
      rfl
    repeat' (first | (first
    | refine wC_a rfl ?_
    | refine q_s rfl ?_
    | refine q_b rfl ?_
    | refine wG_nil ?_
    | refine wG_g rfl ?_
    | refine wG_pure (o_len_vwm rfl) ?_
    | refine wG_pure (o_not_d rfl) ?_
    | refine wG_p rfl (by first | exact rfl | omega) ?_
    | refine wG_pure (o_str2 rfl rfl rfl) ?_
    | refine wG_pure (e_istr rfl rfl (by omega)) ?_
    | refine wG_pure (e_istr0 rfl rfl (by omega)) ?_
    | refine wG_pure (o_not rfl) ?_
    | refine wG_pure (e_ia_vw0 rfl rfl (by omega) rfl) ?_
    | refine wG_pure (e_ia_vwp rfl rfl (by omega) rfl) ?_
    | refine wG_pure (e_ia_vwm rfl rfl (by omega) (by omega) rfl) ?_
    | refine wG_pure (e_ia_vwi rfl rfl (by omega) rfl) ?_
    | refine wG_pure (e_ia_vwn rfl rfl (by omega) (by omega) rfl) ?_
    | refine wG_n rfl rfl ?_
    | refine wG_u rfl rfl ?_
    | refine wG_new (o_mks rfl rfl (by omega) (by decide)) ?_) | (refine wG_gd rfl (fun hgt => ?_) (fun hgf => ?_) <;> (first | simp only [eq_true hgt, decide_true] | simp only [eq_false hgf, decide_false])) | refine wC_cond_d rfl (fun hg => ?_) (fun hg => ?_))
    all_goals (try (exfalso; omega))
    refine ⟨i + 1, ⟨by omega, by omega⟩, by omega, ⟨⟨rfl, rfl⟩, ⟨?_, rfl⟩, ⟨rfl, rfl⟩, trivial⟩, trivial⟩
    rw [Nat.add_sub_cancel, e]; rfl
  · have hi3 : i = vs.length := by omega
    subst hi3
    repeat' (first | (first
    | refine wC_a rfl ?_
    | refine q_s rfl ?_
    | refine q_b rfl ?_
    | refine wG_nil ?_
    | refine wG_g rfl ?_
    | refine wG_pure (o_len_vwm rfl) ?_
    | refine wG_pure (o_not_d rfl) ?_
    | refine wG_p rfl (by first | exact rfl | omega) ?_
    | refine wG_pure (o_str2 rfl rfl rfl) ?_
    | refine wG_pure (e_istr rfl rfl (by omega)) ?_
    | refine wG_pure (e_istr0 rfl rfl (by omega)) ?_
    | refine wG_pure (o_not rfl) ?_
    | refine wG_pure (e_ia_vw0 rfl rfl (by omega) rfl) ?_
    | refine wG_pure (e_ia_vwp rfl rfl (by omega) rfl) ?_
    | refine wG_pure (e_ia_vwm rfl rfl (by omega) (by omega) rfl) ?_
    | refine wG_pure (e_ia_vwi rfl rfl (by omega) rfl) ?_
    | refine wG_pure (e_ia_vwn rfl rfl (by omega) (by omega) rfl) ?_
    | refine wG_n rfl rfl ?_
    | refine wG_u rfl rfl ?_
    | refine wG_new (o_mks rfl rfl (by omega) (by decide)) ?_) | (refine wG_gd rfl (fun hgt => ?_) (fun hgf => ?_) <;> (first | simp only [eq_true hgt, decide_true] | simp only [eq_false hgf, decide_false])) | refine wC_cond_d rfl (fun hg => ?_) (fun hg => ?_))
    all_goals (try (exfalso; omega))
    exact ret_intE (.inr rfl) ⟨_, retV_mv rfl, rfl⟩
theorem con84 (nn : Bool) (vs : List Int) (h0 : 0 < vs.length) (hl : vs.length ≤ 1048576) : Con Try.prog 84 true [.vw nn (vs.map iRow)] (.int .i64 (mnI vs (vs.length - 1))) [] := by
  refine con_of_wp mixed fun84 (by simp) [] plain_nil ?_
  unfold ac84 ro84
  simp only [zipT]
  repeat (first | (first
    | refine wC_a rfl ?_
    | refine q_s rfl ?_
    | refine q_b rfl ?_
    | refine wG_nil ?_
    | refine wG_g rfl ?_
    | refine wG_pure (o_len_vwm rfl) ?_
    | refine wG_pure (o_not_d rfl) ?_
    | refine wG_p rfl (by first | exact rfl | omega) ?_
    | refine wG_pure (o_str2 rfl rfl rfl) ?_
    | refine wG_pure (e_istr rfl rfl (by omega)) ?_
    | refine wG_pure (e_istr0 rfl rfl (by omega)) ?_
    | refine wG_pure (o_not rfl) ?_
    | refine wG_pure (e_ia_vw0 rfl rfl (by omega) rfl) ?_
    | refine wG_pure (e_ia_vwp rfl rfl (by omega) rfl) ?_
    | refine wG_pure (e_ia_vwm rfl rfl (by omega) (by omega) rfl) ?_
    | refine wG_pure (e_ia_vwi rfl rfl (by omega) rfl) ?_
    | refine wG_pure (e_ia_vwn rfl rfl (by omega) (by omega) rfl) ?_
    | refine wG_n rfl rfl ?_
    | refine wG_u rfl rfl ?_
    | refine wG_new (o_mks rfl rfl (by omega) (by decide)) ?_))
  refine wC_cond_d rfl (fun hg => ?_) (fun hg => ?_)
  · exfalso; omega
  repeat (first | (first
    | refine wC_a rfl ?_
    | refine q_s rfl ?_
    | refine q_b rfl ?_
    | refine wG_nil ?_
    | refine wG_g rfl ?_
    | refine wG_pure (o_len_vwm rfl) ?_
    | refine wG_pure (o_not_d rfl) ?_
    | refine wG_p rfl (by first | exact rfl | omega) ?_
    | refine wG_pure (o_str2 rfl rfl rfl) ?_
    | refine wG_pure (e_istr rfl rfl (by omega)) ?_
    | refine wG_pure (e_istr0 rfl rfl (by omega)) ?_
    | refine wG_pure (o_not rfl) ?_
    | refine wG_pure (e_ia_vw0 rfl rfl (by omega) rfl) ?_
    | refine wG_pure (e_ia_vwp rfl rfl (by omega) rfl) ?_
    | refine wG_pure (e_ia_vwm rfl rfl (by omega) (by omega) rfl) ?_
    | refine wG_pure (e_ia_vwi rfl rfl (by omega) rfl) ?_
    | refine wG_pure (e_ia_vwn rfl rfl (by omega) (by omega) rfl) ?_
    | refine wG_n rfl rfl ?_
    | refine wG_u rfl rfl ?_
    | refine wG_new (o_mks rfl rfl (by omega) (by decide)) ?_))
  refine wC_loop Nat (fun i => ⟨[(0, .vw nn (vs.map iRow)), (3, .int .i64 (mnI vs (i - 1))), (4, .int .i64 (i : Int))], [], 0⟩) (fun i => 1 ≤ i ∧ i ≤ vs.length) (fun i => vs.length - i) 1 ⟨Nat.le_refl _, h0⟩ ?_ (fun _ _ => Nat.le_refl _) ?_
  · exact ⟨⟨⟨rfl, rfl⟩, ⟨rfl, rfl⟩, ⟨rfl, rfl⟩, trivial⟩, trivial⟩
  rintro i ⟨hi0, hi⟩
  by_cases hi2 : i < vs.length
  · have e : mnI vs i = min (mnI vs (i - 1)) (vs.getD i default) := by
      obtain ⟨j, rfl⟩ : ∃ j, i = j + 1 := ⟨i - 1, by omega⟩
      rfl
    repeat' (first | (first
    | refine wC_a rfl ?_
    | refine q_s rfl ?_
    | refine q_b rfl ?_
    | refine wG_nil ?_
    | refine wG_g rfl ?_
    | refine wG_pure (o_len_vwm rfl) ?_
    | refine wG_pure (o_not_d rfl) ?_
    | refine wG_p rfl (by first | exact rfl | omega) ?_
    | refine wG_pure (o_str2 rfl rfl rfl) ?_
    | refine wG_pure (e_istr rfl rfl (by omega)) ?_
    | refine wG_pure (e_istr0 rfl rfl (by omega)) ?_
    | refine wG_pure (o_not rfl) ?_
    | refine wG_pure (e_ia_vw0 rfl rfl (by omega) rfl) ?_
    | refine wG_pure (e_ia_vwp rfl rfl (by omega) rfl) ?_
    | refine wG_pure (e_ia_vwm rfl rfl (by omega) (by omega) rfl) ?_
    | refine wG_pure (e_ia_vwi rfl rfl (by omega) rfl) ?_
    | refine wG_pure (e_ia_vwn rfl rfl (by omega) (by omega) rfl) ?_
    | refine wG_n rfl rfl ?_
    | refine wG_u rfl rfl ?_
    | refine wG_new (o_mks rfl rfl (by omega) (by decide)) ?_) | (refine wG_gd rfl (fun hgt => ?_) (fun hgf => ?_) <;> (first | simp only [eq_true hgt, decide_true] | simp only [eq_false hgf, decide_false])) | refine wC_cond_d rfl (fun hg => ?_) (fun hg => ?_))
    all_goals (try (exfalso; omega))
    refine ⟨i + 1, ⟨by omega, by omega⟩, by omega, ⟨⟨rfl, rfl⟩, ⟨?_, rfl⟩, ⟨rfl, rfl⟩, trivial⟩, trivial⟩
    rw [Nat.add_sub_cancel, e]; rfl
  · have hi3 : i = vs.length := by omega
    subst hi3
    repeat' (first | (first
    | refine wC_a rfl ?_
    | refine q_s rfl ?_
    | refine q_b rfl ?_
    | refine wG_nil ?_
    | refine wG_g rfl ?_
    | refine wG_pure (o_len_vwm rfl) ?_
    | refine wG_pure (o_not_d rfl) ?_
    | refine wG_p rfl (by first | exact rfl | omega) ?_
    | refine wG_pure (o_str2 rfl rfl rfl) ?_
    | refine wG_pure (e_istr rfl rfl (by omega)) ?_
    | refine wG_pure (e_istr0 rfl rfl (by omega)) ?_
    | refine wG_pure (o_not rfl) ?_
    | refine wG_pure (e_ia_vw0 rfl rfl (by omega) rfl) ?_
    | refine wG_pure (e_ia_vwp rfl rfl (by omega) rfl) ?_
    | refine wG_pure (e_ia_vwm rfl rfl (by omega) (by omega) rfl) ?_
    | refine wG_pure (e_ia_vwi rfl rfl (by omega) rfl) ?_
    | refine wG_pure (e_ia_vwn rfl rfl (by omega) (by omega) rfl) ?_
    | refine wG_n rfl rfl ?_
    | refine wG_u rfl rfl ?_
    | refine wG_new (o_mks rfl rfl (by omega) (by decide)) ?_) | (refine wG_gd rfl (fun hgt => ?_) (fun hgf => ?_) <;> (first | simp only [eq_true hgt, decide_true] | simp only [eq_false hgf, decide_false])) | refine wC_cond_d rfl (fun hg => ?_) (fun hg => ?_))
    all_goals (try (exfalso; omega))
    exact ret_intE (.inr rfl) ⟨_, retV_mv rfl, rfl⟩
/-- The span of some intervals. -/
def spI (ws : List Iv) : Int := if ws.length = 0 then 0 else max (mxI (ws.map fun x => x.f) (ws.length - 1) - mnI (ws.map fun x => x.t) (ws.length - 1)) 0
theorem mxI_b {vs : List Int} {a b : Int} (h : ∀ i, i < vs.length → a ≤ vs.getD i default ∧ vs.getD i default ≤ b) : ∀ i, i < vs.length → a ≤ mxI vs i ∧ mxI vs i ≤ b
  | 0, hi => h 0 hi
  | i + 1, hi => by
    have h1 := mxI_b h i (by omega)
    have h2 := h (i + 1) hi
    show a ≤ max _ _ ∧ max _ _ ≤ b
    omega
theorem mnI_b {vs : List Int} {a b : Int} (h : ∀ i, i < vs.length → a ≤ vs.getD i default ∧ vs.getD i default ≤ b) : ∀ i, i < vs.length → a ≤ mnI vs i ∧ mnI vs i ≤ b
  | 0, hi => h 0 hi
  | i + 1, hi => by
    have h1 := mnI_b h i (by omega)
    have h2 := h (i + 1) hi
    show a ≤ min _ _ ∧ min _ _ ≤ b
    omega
theorem own_b {r : Rc} {es : List Dt} (hE : GoodE r es) (i : Nat) : ∀ q, q ≤ es.length → (-20000 ≤ (ownI r es q i).f ∧ (ownI r es q i).f ≤ 2100) ∧ (-20000 ≤ (ownI r es q i).t ∧ (ownI r es q i).t ≤ 2100)
  | 0, _ => by
    show ((-20000 : Int) ≤ -20000 ∧ (-20000 : Int) ≤ 2100) ∧ ((-20000 : Int) ≤ 2100 ∧ (2100 : Int) ≤ 2100)
    decide
  | q + 1, h => by
    have ih := own_b hE i q (by omega)
    have hk := (hE.2 q (by omega)).2.1
    simp only [ownI]
    split
    · exact ⟨hk.1, hk.2.1⟩
    · exact ih
theorem tg_b {r : Rc} {es : List Dt} (hE : GoodE r es) (i : Nat) : ∀ k, (-20000 ≤ tF r es i k ∧ tF r es i k ≤ 2100) ∧ (-20000 ≤ tT r es i k ∧ tT r es i k ≤ 2100)
  | 0 => own_b hE i _ (Nat.le_refl _)
  | k + 1 => by
    have ih := tg_b hE i k
    have hk := own_b hE k _ (Nat.le_refl es.length)
    simp only [tF, tT]
    constructor
    · split
      · omega
      · exact ih.1
    · split
      · omega
      · exact ih.2
def bW (ws : List Iv) : Prop := ∀ i, i < ws.length → (-20000 ≤ (ws.getD i default).f ∧ (ws.getD i default).f ≤ 2100) ∧ (-20000 ≤ (ws.getD i default).t ∧ (ws.getD i default).t ≤ 2100)
theorem tgL_b {r : Rc} {es : List Dt} (hE : GoodE r es) : bW (tgL r es r.cs.length) := by
  intro i hi
  have hi2 : i < r.cs.length := by rwa [tgL_len] at hi
  have e : (tgL r es r.cs.length).getD i default = tg r es i := by simp [tgL, List.getD_eq_getElem?_getD, hi2]
  rw [e]
  exact tg_b hE i r.cs.length
theorem getD_f {ws : List Iv} (i : Nat) : (ws.map fun x => x.f).getD i default = (ws.getD i default).f := by
  rw [List.getD_eq_getElem?_getD, List.getD_eq_getElem?_getD, List.getElem?_map]
  cases ws[i]? <;> rfl
theorem getD_t {ws : List Iv} (i : Nat) : (ws.map fun x => x.t).getD i default = (ws.getD i default).t := by
  rw [List.getD_eq_getElem?_getD, List.getD_eq_getElem?_getD, List.getElem?_map]
  cases ws[i]? <;> rfl
theorem sp_b {ws : List Iv} (h : bW ws) {i : Nat} (hi : i < ws.length) : (-20000 ≤ mxI (ws.map fun x => x.f) i ∧ mxI (ws.map fun x => x.f) i ≤ 2100) ∧ (-20000 ≤ mnI (ws.map fun x => x.t) i ∧ mnI (ws.map fun x => x.t) i ≤ 2100) :=
  ⟨mxI_b (fun j hj => by rw [getD_f]; exact (h j (by simpa using hj)).1) i (by simpa using hi), mnI_b (fun j hj => by rw [getD_t]; exact (h j (by simpa using hj)).2) i (by simpa using hi)⟩
theorem con41_yes (a b nn : Bool) (r : Rc) (es : List Dt) (ws : List Iv) (hl : ws.length ≤ 1048576) (hb : bW ws) (cP : Con Try.prog 36 true [.agg (rRow a b r), .vw nn (es.map tRow)] (.tup [.sl 0 2 0 ws.length, .bool true]) [ws.map vRow]) : Con Try.prog 41 true [.agg (rRow a b r), .vw nn (es.map tRow)] (.tup [.int .i64 (spI ws), .bool true]) [] := by
  refine con_of_wp mixed fun41 (by simp) [] plain_nil ?_
  unfold ac41 ro41
  simp only [zipT]
  have e0 : ∀ n : Nat, 0 + ((n : Int)).toNat = n := fun n => by simp
  repeat (first | refine wG_call1 cP rfl rfl ?_ | (first
    | refine wC_a rfl ?_
    | refine q_s rfl ?_
    | refine q_b rfl ?_
    | refine wG_nil ?_
    | refine wG_g rfl ?_
    | refine wG_pure (o_len_vwm rfl) ?_
    | refine wG_pure (o_not_d rfl) ?_
    | refine wG_p rfl (by first | exact rfl | omega) ?_
    | refine wG_pure (o_str2 rfl rfl rfl) ?_
    | refine wG_pure (e_istr rfl rfl (by omega)) ?_
    | refine wG_pure (e_istr0 rfl rfl (by omega)) ?_
    | refine wG_pure (o_not rfl) ?_
    | refine wG_pure (e_ia_vw0 rfl rfl (by omega) rfl) ?_
    | refine wG_pure (e_ia_vwp rfl rfl (by omega) rfl) ?_
    | refine wG_pure (e_ia_vwm rfl rfl (by omega) (by omega) rfl) ?_
    | refine wG_pure (e_ia_vwi rfl rfl (by omega) rfl) ?_
    | refine wG_pure (e_ia_vwn rfl rfl (by omega) (by omega) rfl) ?_
    | refine wG_n rfl rfl ?_
    | refine wG_u rfl rfl ?_
    | refine wG_new (o_mks rfl rfl (by omega) (by decide)) ?_))
  refine wC_cond_d rfl (fun h => ?_) (fun h => ?_)
  · have hz : spI ws = 0 := if_pos (by omega)
    rw [hz]
    repeat (first
    | refine wC_a rfl ?_
    | refine q_s rfl ?_
    | refine q_b rfl ?_
    | refine wG_nil ?_
    | refine wG_g rfl ?_
    | refine wG_pure (o_len_vwm rfl) ?_
    | refine wG_pure (o_not_d rfl) ?_
    | refine wG_p rfl (by first | exact rfl | omega) ?_
    | refine wG_pure (o_str2 rfl rfl rfl) ?_
    | refine wG_pure (e_istr rfl rfl (by omega)) ?_
    | refine wG_pure (e_istr0 rfl rfl (by omega)) ?_
    | refine wG_pure (o_not rfl) ?_
    | refine wG_pure (e_ia_vw0 rfl rfl (by omega) rfl) ?_
    | refine wG_pure (e_ia_vwp rfl rfl (by omega) rfl) ?_
    | refine wG_pure (e_ia_vwm rfl rfl (by omega) (by omega) rfl) ?_
    | refine wG_pure (e_ia_vwi rfl rfl (by omega) rfl) ?_
    | refine wG_pure (e_ia_vwn rfl rfl (by omega) (by omega) rfl) ?_
    | refine wG_n rfl rfl ?_
    | refine wG_u rfl rfl ?_
    | refine wG_new (o_mks rfl rfl (by omega) (by decide)) ?_)
    exact ret_pl (.inr rfl) (retVs_2 (retV_mv rfl) (retV_mv rfl)) rfl rfl (by simp)
  have h0 : 0 < ws.length := by omega
  have hz : spI ws = max (mxI (ws.map fun x => x.f) (ws.length - 1) - mnI (ws.map fun x => x.t) (ws.length - 1)) 0 := if_neg (by omega)
  have hg0 := vGet h0
  have f0 : mxI (ws.map fun x => x.f) 0 = (ws.getD 0 default).f := getD_f 0
  have t0 : mnI (ws.map fun x => x.t) 0 = (ws.getD 0 default).t := getD_t 0
  repeat (first | refine wG_pure (e_ia_sl rfl rfl (by omega) (by omega)) ?_ | refine wG_pure (o_ldf_pt rfl rfl hg0 rfl) ?_ | (first
    | refine wC_a rfl ?_
    | refine q_s rfl ?_
    | refine q_b rfl ?_
    | refine wG_nil ?_
    | refine wG_g rfl ?_
    | refine wG_pure (o_len_vwm rfl) ?_
    | refine wG_pure (o_not_d rfl) ?_
    | refine wG_p rfl (by first | exact rfl | omega) ?_
    | refine wG_pure (o_str2 rfl rfl rfl) ?_
    | refine wG_pure (e_istr rfl rfl (by omega)) ?_
    | refine wG_pure (e_istr0 rfl rfl (by omega)) ?_
    | refine wG_pure (o_not rfl) ?_
    | refine wG_pure (e_ia_vw0 rfl rfl (by omega) rfl) ?_
    | refine wG_pure (e_ia_vwp rfl rfl (by omega) rfl) ?_
    | refine wG_pure (e_ia_vwm rfl rfl (by omega) (by omega) rfl) ?_
    | refine wG_pure (e_ia_vwi rfl rfl (by omega) rfl) ?_
    | refine wG_pure (e_ia_vwn rfl rfl (by omega) (by omega) rfl) ?_
    | refine wG_n rfl rfl ?_
    | refine wG_u rfl rfl ?_
    | refine wG_new (o_mks rfl rfl (by omega) (by decide)) ?_))
  refine wC_loopR Nat (fun i => ⟨[(6, .sl 0 2 0 ws.length), (8, .int .i64 (mxI (ws.map fun x => x.f) (i - 1))), (9, .int .i64 (mnI (ws.map fun x => x.t) (i - 1))), (10, .int .i64 (i : Int))], [(0, some (ws.map vRow))], 1⟩) (fun i => 1 ≤ i ∧ i ≤ ws.length) (fun i => ws.length - i) 1 ⟨Nat.le_refl _, h0⟩ ⟨[1], ?_⟩ ?_
  · rw [Nat.sub_self, f0, t0]
    exact ⟨⟨⟨rfl, rfl⟩, ⟨rfl, rfl⟩, ⟨rfl, rfl⟩, ⟨rfl, rfl⟩, trivial⟩, ⟨⟨⟨_, rfl, rn_rows (vRows_plain _)⟩, (by show 0 < 1; decide), ltrV _ _⟩, trivial⟩, rfl, by decide⟩
  rintro i ⟨hi0, hi⟩
  have hb1 := sp_b hb (i := i - 1) (by omega)
  repeat (first
    | refine wC_a rfl ?_
    | refine q_s rfl ?_
    | refine q_b rfl ?_
    | refine wG_nil ?_
    | refine wG_g rfl ?_
    | refine wG_pure (o_len_vwm rfl) ?_
    | refine wG_pure (o_not_d rfl) ?_
    | refine wG_p rfl (by first | exact rfl | omega) ?_
    | refine wG_pure (o_str2 rfl rfl rfl) ?_
    | refine wG_pure (e_istr rfl rfl (by omega)) ?_
    | refine wG_pure (e_istr0 rfl rfl (by omega)) ?_
    | refine wG_pure (o_not rfl) ?_
    | refine wG_pure (e_ia_vw0 rfl rfl (by omega) rfl) ?_
    | refine wG_pure (e_ia_vwp rfl rfl (by omega) rfl) ?_
    | refine wG_pure (e_ia_vwm rfl rfl (by omega) (by omega) rfl) ?_
    | refine wG_pure (e_ia_vwi rfl rfl (by omega) rfl) ?_
    | refine wG_pure (e_ia_vwn rfl rfl (by omega) (by omega) rfl) ?_
    | refine wG_n rfl rfl ?_
    | refine wG_u rfl rfl ?_
    | refine wG_new (o_mks rfl rfl (by omega) (by decide)) ?_)
  refine wC_cond_d rfl (fun h5 => ?_) (fun h5 => ?_)
  · have hi2 : i < ws.length := by omega
    have hgi := vGet hi2
    have e1 : mxI (ws.map fun x => x.f) i = max (mxI (ws.map fun x => x.f) (i - 1)) (ws.getD i default).f := by
      obtain ⟨j, rfl⟩ : ∃ j, i = j + 1 := ⟨i - 1, by omega⟩
      rw [← getD_f]; rfl
    have e2 : mnI (ws.map fun x => x.t) i = min (mnI (ws.map fun x => x.t) (i - 1)) (ws.getD i default).t := by
      obtain ⟨j, rfl⟩ : ∃ j, i = j + 1 := ⟨i - 1, by omega⟩
      rw [← getD_t]; rfl
    have cM := con62 (mxI (ws.map fun x => x.f) (i - 1)) (ws.getD i default).f
    have cN := con63 (mnI (ws.map fun x => x.t) (i - 1)) (ws.getD i default).t
    repeat (first | refine wG_call cM rfl rfl ?_ | refine wG_call cN rfl rfl ?_ | (refine wG_pure (e_ia_sl rfl rfl (by omega) (by omega)) ?_; simp only [e0]) | refine wG_pure (o_ldf_pt rfl rfl hgi rfl) ?_ | (first
    | refine wC_a rfl ?_
    | refine q_s rfl ?_
    | refine q_b rfl ?_
    | refine wG_nil ?_
    | refine wG_g rfl ?_
    | refine wG_pure (o_len_vwm rfl) ?_
    | refine wG_pure (o_not_d rfl) ?_
    | refine wG_p rfl (by first | exact rfl | omega) ?_
    | refine wG_pure (o_str2 rfl rfl rfl) ?_
    | refine wG_pure (e_istr rfl rfl (by omega)) ?_
    | refine wG_pure (e_istr0 rfl rfl (by omega)) ?_
    | refine wG_pure (o_not rfl) ?_
    | refine wG_pure (e_ia_vw0 rfl rfl (by omega) rfl) ?_
    | refine wG_pure (e_ia_vwp rfl rfl (by omega) rfl) ?_
    | refine wG_pure (e_ia_vwm rfl rfl (by omega) (by omega) rfl) ?_
    | refine wG_pure (e_ia_vwi rfl rfl (by omega) rfl) ?_
    | refine wG_pure (e_ia_vwn rfl rfl (by omega) (by omega) rfl) ?_
    | refine wG_n rfl rfl ?_
    | refine wG_u rfl rfl ?_
    | refine wG_new (o_mks rfl rfl (by omega) (by decide)) ?_))
    refine ⟨i + 1, ⟨by omega, by omega⟩, by omega, [0], ⟨⟨rfl, rfl⟩, ⟨?_, rfl⟩, ⟨?_, rfl⟩, ⟨rfl, rfl⟩, trivial⟩, ⟨⟨⟨_, rfl, rn_rows (vRows_plain _)⟩, (by show 0 < 1; decide), ltrV _ _⟩, trivial⟩, rfl, by decide⟩
    · rw [Nat.add_sub_cancel, e1]; rfl
    · rw [Nat.add_sub_cancel, e2]; rfl
  · have hi3 : i = ws.length := by omega
    subst hi3
    have cM := con62 (mxI (ws.map fun x => x.f) (ws.length - 1) - mnI (ws.map fun x => x.t) (ws.length - 1)) 0
    rw [hz]
    repeat (first | refine wG_call cM rfl rfl ?_ | (first
    | refine wC_a rfl ?_
    | refine q_s rfl ?_
    | refine q_b rfl ?_
    | refine wG_nil ?_
    | refine wG_g rfl ?_
    | refine wG_pure (o_len_vwm rfl) ?_
    | refine wG_pure (o_not_d rfl) ?_
    | refine wG_p rfl (by first | exact rfl | omega) ?_
    | refine wG_pure (o_str2 rfl rfl rfl) ?_
    | refine wG_pure (e_istr rfl rfl (by omega)) ?_
    | refine wG_pure (e_istr0 rfl rfl (by omega)) ?_
    | refine wG_pure (o_not rfl) ?_
    | refine wG_pure (e_ia_vw0 rfl rfl (by omega) rfl) ?_
    | refine wG_pure (e_ia_vwp rfl rfl (by omega) rfl) ?_
    | refine wG_pure (e_ia_vwm rfl rfl (by omega) (by omega) rfl) ?_
    | refine wG_pure (e_ia_vwi rfl rfl (by omega) rfl) ?_
    | refine wG_pure (e_ia_vwn rfl rfl (by omega) (by omega) rfl) ?_
    | refine wG_n rfl rfl ?_
    | refine wG_u rfl rfl ?_
    | refine wG_new (o_mks rfl rfl (by omega) (by decide)) ?_))
    exact ret_pl (.inr rfl) (retVs_2 (retV_mv rfl) (retV_mv rfl)) rfl rfl (by simp)
theorem con41_no (a b nn : Bool) (r : Rc) (es : List Dt) (cP : Con Try.prog 36 true [.agg (rRow a b r), .vw nn (es.map tRow)] (.tup [.sl 0 2 0 0, .bool false]) [([] : List Iv).map vRow]) : Con Try.prog 41 true [.agg (rRow a b r), .vw nn (es.map tRow)] (.tup [.int .i64 0, .bool false]) [] := by
  refine con_of_wp mixed fun41 (by simp) [] plain_nil ?_
  unfold ac41 ro41
  simp only [zipT]
  repeat (first | refine wG_call1 cP rfl rfl ?_ | (first
    | refine wC_a rfl ?_
    | refine q_s rfl ?_
    | refine q_b rfl ?_
    | refine wG_nil ?_
    | refine wG_g rfl ?_
    | refine wG_pure (o_len_vwm rfl) ?_
    | refine wG_pure (o_not_d rfl) ?_
    | refine wG_p rfl (by first | exact rfl | omega) ?_
    | refine wG_pure (o_str2 rfl rfl rfl) ?_
    | refine wG_pure (e_istr rfl rfl (by omega)) ?_
    | refine wG_pure (e_istr0 rfl rfl (by omega)) ?_
    | refine wG_pure (o_not rfl) ?_
    | refine wG_pure (e_ia_vw0 rfl rfl (by omega) rfl) ?_
    | refine wG_pure (e_ia_vwp rfl rfl (by omega) rfl) ?_
    | refine wG_pure (e_ia_vwm rfl rfl (by omega) (by omega) rfl) ?_
    | refine wG_pure (e_ia_vwi rfl rfl (by omega) rfl) ?_
    | refine wG_pure (e_ia_vwn rfl rfl (by omega) (by omega) rfl) ?_
    | refine wG_n rfl rfl ?_
    | refine wG_u rfl rfl ?_
    | refine wG_new (o_mks rfl rfl (by omega) (by decide)) ?_))
  exact ret_pl (.inr rfl) (retVs_2 (retV_mv rfl) (retV_mv rfl)) rfl rfl (by simp)
theorem con42_yes (a b nn : Bool) (r : Rc) (es : List Dt) (ws : List Iv) (hl : ws.length ≤ 1048576) (hb : bW ws) (cP : Con Try.prog 37 true [.agg (rRow a b r), .vw nn (es.map tRow)] (.tup [.sl 0 2 0 ws.length, .bool true]) [ws.map vRow]) : Con Try.prog 42 true [.agg (rRow a b r), .vw nn (es.map tRow)] (.tup [.int .i64 (spI ws), .bool true]) [] := by
  refine con_of_wp mixed fun42 (by simp) [] plain_nil ?_
  unfold ac42 ro42
  simp only [zipT]
  have c1 := con44_yes a b nn r es ws hl cP
  have c2 := con46_yes a b nn r es ws hl cP
  repeat (first | refine wG_call1 c1 rfl rfl ?_ | refine wG_call1 c2 rfl rfl ?_ | (first
    | refine wC_a rfl ?_
    | refine q_s rfl ?_
    | refine q_b rfl ?_
    | refine wG_nil ?_
    | refine wG_g rfl ?_
    | refine wG_pure (o_len_vwm rfl) ?_
    | refine wG_pure (o_not_d rfl) ?_
    | refine wG_p rfl (by first | exact rfl | omega) ?_
    | refine wG_pure (o_str2 rfl rfl rfl) ?_
    | refine wG_pure (e_istr rfl rfl (by omega)) ?_
    | refine wG_pure (e_istr0 rfl rfl (by omega)) ?_
    | refine wG_pure (o_not rfl) ?_
    | refine wG_pure (e_ia_vw0 rfl rfl (by omega) rfl) ?_
    | refine wG_pure (e_ia_vwp rfl rfl (by omega) rfl) ?_
    | refine wG_pure (e_ia_vwm rfl rfl (by omega) (by omega) rfl) ?_
    | refine wG_pure (e_ia_vwi rfl rfl (by omega) rfl) ?_
    | refine wG_pure (e_ia_vwn rfl rfl (by omega) (by omega) rfl) ?_
    | refine wG_n rfl rfl ?_
    | refine wG_u rfl rfl ?_
    | refine wG_new (o_mks rfl rfl (by omega) (by decide)) ?_))
  refine wC_cond_d rfl (fun h => ?_) (fun h => ?_)
  · have hz : spI ws = 0 := if_pos (by omega)
    rw [hz]
    repeat (first
    | refine wC_a rfl ?_
    | refine q_s rfl ?_
    | refine q_b rfl ?_
    | refine wG_nil ?_
    | refine wG_g rfl ?_
    | refine wG_pure (o_len_vwm rfl) ?_
    | refine wG_pure (o_not_d rfl) ?_
    | refine wG_p rfl (by first | exact rfl | omega) ?_
    | refine wG_pure (o_str2 rfl rfl rfl) ?_
    | refine wG_pure (e_istr rfl rfl (by omega)) ?_
    | refine wG_pure (e_istr0 rfl rfl (by omega)) ?_
    | refine wG_pure (o_not rfl) ?_
    | refine wG_pure (e_ia_vw0 rfl rfl (by omega) rfl) ?_
    | refine wG_pure (e_ia_vwp rfl rfl (by omega) rfl) ?_
    | refine wG_pure (e_ia_vwm rfl rfl (by omega) (by omega) rfl) ?_
    | refine wG_pure (e_ia_vwi rfl rfl (by omega) rfl) ?_
    | refine wG_pure (e_ia_vwn rfl rfl (by omega) (by omega) rfl) ?_
    | refine wG_n rfl rfl ?_
    | refine wG_u rfl rfl ?_
    | refine wG_new (o_mks rfl rfl (by omega) (by decide)) ?_)
    exact ret_pl (.inr rfl) (retVs_2 (retV_mv rfl) (retV_mv rfl)) rfl rfl (by simp)
  have h0 : 0 < ws.length := by omega
  have hz : spI ws = max 0 (mxI (ws.map fun x => x.f) (ws.length - 1) - mnI (ws.map fun x => x.t) (ws.length - 1)) := by
    rw [Int.max_comm]; exact if_neg (by omega)
  have hl1 : ws.length = (ws.map fun x => x.f).length := by simp
  have hl2 : ws.length = (ws.map fun x => x.t).length := by simp
  have hb1 := sp_b hb (i := ws.length - 1) (by omega)
  have cM := con83 true (ws.map fun x => x.f) (by simpa using h0) (by simpa using hl)
  have cN := con84 true (ws.map fun x => x.t) (by simpa using h0) (by simpa using hl)
  rw [← hl1] at cM
  rw [← hl2] at cN
  rw [hz]
  repeat (first | refine wG_call cM (ag_sl rfl rfl hl1 iRow_plain ag_nil) rfl ?_ | refine wG_call cN (ag_sl rfl rfl hl2 iRow_plain ag_nil) rfl ?_ | (first
    | refine wC_a rfl ?_
    | refine q_s rfl ?_
    | refine q_b rfl ?_
    | refine wG_nil ?_
    | refine wG_g rfl ?_
    | refine wG_pure (o_len_vwm rfl) ?_
    | refine wG_pure (o_not_d rfl) ?_
    | refine wG_p rfl (by first | exact rfl | omega) ?_
    | refine wG_pure (o_str2 rfl rfl rfl) ?_
    | refine wG_pure (e_istr rfl rfl (by omega)) ?_
    | refine wG_pure (e_istr0 rfl rfl (by omega)) ?_
    | refine wG_pure (o_not rfl) ?_
    | refine wG_pure (e_ia_vw0 rfl rfl (by omega) rfl) ?_
    | refine wG_pure (e_ia_vwp rfl rfl (by omega) rfl) ?_
    | refine wG_pure (e_ia_vwm rfl rfl (by omega) (by omega) rfl) ?_
    | refine wG_pure (e_ia_vwi rfl rfl (by omega) rfl) ?_
    | refine wG_pure (e_ia_vwn rfl rfl (by omega) (by omega) rfl) ?_
    | refine wG_n rfl rfl ?_
    | refine wG_u rfl rfl ?_
    | refine wG_new (o_mks rfl rfl (by omega) (by decide)) ?_))
  exact ret_pl (.inr rfl) (retVs_2 (retV_mv rfl) (retV_mv rfl)) rfl rfl (by simp)
theorem con42_no (a b nn : Bool) (r : Rc) (es : List Dt) (cP : Con Try.prog 37 true [.agg (rRow a b r), .vw nn (es.map tRow)] (.tup [.nilS, .bool false]) []) : Con Try.prog 42 true [.agg (rRow a b r), .vw nn (es.map tRow)] (.tup [.int .i64 0, .bool false]) [] := by
  refine con_of_wp mixed fun42 (by simp) [] plain_nil ?_
  unfold ac42 ro42
  simp only [zipT]
  have c1 := con44_no a b nn r es cP
  have c2 := con46_no a b nn r es cP
  repeat (first | refine wG_call c1 rfl rfl ?_ | refine wG_call c2 rfl rfl ?_ | (first
    | refine wC_a rfl ?_
    | refine q_s rfl ?_
    | refine q_b rfl ?_
    | refine wG_nil ?_
    | refine wG_g rfl ?_
    | refine wG_pure (o_len_vwm rfl) ?_
    | refine wG_pure (o_not_d rfl) ?_
    | refine wG_p rfl (by first | exact rfl | omega) ?_
    | refine wG_pure (o_str2 rfl rfl rfl) ?_
    | refine wG_pure (e_istr rfl rfl (by omega)) ?_
    | refine wG_pure (e_istr0 rfl rfl (by omega)) ?_
    | refine wG_pure (o_not rfl) ?_
    | refine wG_pure (e_ia_vw0 rfl rfl (by omega) rfl) ?_
    | refine wG_pure (e_ia_vwp rfl rfl (by omega) rfl) ?_
    | refine wG_pure (e_ia_vwm rfl rfl (by omega) (by omega) rfl) ?_
    | refine wG_pure (e_ia_vwi rfl rfl (by omega) rfl) ?_
    | refine wG_pure (e_ia_vwn rfl rfl (by omega) (by omega) rfl) ?_
    | refine wG_n rfl rfl ?_
    | refine wG_u rfl rfl ?_
    | refine wG_new (o_mks rfl rfl (by omega) (by decide)) ?_))
  exact ret_pl (.inr rfl) (retVs_2 (retV_mv rfl) (retV_mv rfl)) rfl rfl (by simp)
theorem con9 (a b nn : Bool) (r : Rc) (es : List Dt) (h1 : r.cs.length ≤ 9223372036854775807) (h2 : r.xs.length ≤ 9223372036854775807) (h3 : es.length ≤ 9223372036854775807) : Con Try.prog 9 true [.agg (rRow a b r), .vw nn (es.map tRow)] (.bool true) [] := by
  refine con_of_wp mixed fun9 (by simp) [] plain_nil ?_
  unfold ac9 ro9
  simp only [zipT]
  have c1 := con12 a b r h1 h2 1048576 (by decide) (by decide)
  repeat (first | refine wG_call c1 rfl rfl ?_ | (first
    | refine wC_a rfl ?_
    | refine q_s rfl ?_
    | refine q_b rfl ?_
    | refine wG_nil ?_
    | refine wG_g rfl ?_
    | refine wG_pure (o_len_vwm rfl) ?_
    | refine wG_pure (o_not_d rfl) ?_
    | refine wG_p rfl (by first | exact rfl | omega) ?_
    | refine wG_pure (o_str2 rfl rfl rfl) ?_
    | refine wG_pure (e_istr rfl rfl (by omega)) ?_
    | refine wG_pure (e_istr0 rfl rfl (by omega)) ?_
    | refine wG_pure (o_not rfl) ?_
    | refine wG_pure (e_ia_vw0 rfl rfl (by omega) rfl) ?_
    | refine wG_pure (e_ia_vwp rfl rfl (by omega) rfl) ?_
    | refine wG_pure (e_ia_vwm rfl rfl (by omega) (by omega) rfl) ?_
    | refine wG_pure (e_ia_vwi rfl rfl (by omega) rfl) ?_
    | refine wG_pure (e_ia_vwn rfl rfl (by omega) (by omega) rfl) ?_
    | refine wG_n rfl rfl ?_
    | refine wG_u rfl rfl ?_
    | refine wG_new (o_mks rfl rfl (by omega) (by decide)) ?_))
  refine wC_cond_d rfl (fun h => ?_) (fun h => ?_)
  · repeat (first
    | refine wC_a rfl ?_
    | refine q_s rfl ?_
    | refine q_b rfl ?_
    | refine wG_nil ?_
    | refine wG_g rfl ?_
    | refine wG_pure (o_len_vwm rfl) ?_
    | refine wG_pure (o_not_d rfl) ?_
    | refine wG_p rfl (by first | exact rfl | omega) ?_
    | refine wG_pure (o_str2 rfl rfl rfl) ?_
    | refine wG_pure (e_istr rfl rfl (by omega)) ?_
    | refine wG_pure (e_istr0 rfl rfl (by omega)) ?_
    | refine wG_pure (o_not rfl) ?_
    | refine wG_pure (e_ia_vw0 rfl rfl (by omega) rfl) ?_
    | refine wG_pure (e_ia_vwp rfl rfl (by omega) rfl) ?_
    | refine wG_pure (e_ia_vwm rfl rfl (by omega) (by omega) rfl) ?_
    | refine wG_pure (e_ia_vwi rfl rfl (by omega) rfl) ?_
    | refine wG_pure (e_ia_vwn rfl rfl (by omega) (by omega) rfl) ?_
    | refine wG_n rfl rfl ?_
    | refine wG_u rfl rfl ?_
    | refine wG_new (o_mks rfl rfl (by omega) (by decide)) ?_)
    exact ret_boolE (.inr rfl) ⟨_, retV_mv rfl, rfl⟩
  obtain ⟨s1, s2, s3⟩ := szR_ok (Int.not_lt.1 h)
  have c2 := con13 nn es h3 (szR 1048576 r) (Int.not_lt.1 h) s3
  by_cases hs : szR 1048576 r - (es.length : Int) < 0
  · rw [if_pos hs] at c2
    repeat (first | refine wG_call c2 rfl rfl ?_ | (first
    | refine wC_a rfl ?_
    | refine q_s rfl ?_
    | refine q_b rfl ?_
    | refine wG_nil ?_
    | refine wG_g rfl ?_
    | refine wG_pure (o_len_vwm rfl) ?_
    | refine wG_pure (o_not_d rfl) ?_
    | refine wG_p rfl (by first | exact rfl | omega) ?_
    | refine wG_pure (o_str2 rfl rfl rfl) ?_
    | refine wG_pure (e_istr rfl rfl (by omega)) ?_
    | refine wG_pure (e_istr0 rfl rfl (by omega)) ?_
    | refine wG_pure (o_not rfl) ?_
    | refine wG_pure (e_ia_vw0 rfl rfl (by omega) rfl) ?_
    | refine wG_pure (e_ia_vwp rfl rfl (by omega) rfl) ?_
    | refine wG_pure (e_ia_vwm rfl rfl (by omega) (by omega) rfl) ?_
    | refine wG_pure (e_ia_vwi rfl rfl (by omega) rfl) ?_
    | refine wG_pure (e_ia_vwn rfl rfl (by omega) (by omega) rfl) ?_
    | refine wG_n rfl rfl ?_
    | refine wG_u rfl rfl ?_
    | refine wG_new (o_mks rfl rfl (by omega) (by decide)) ?_))
    exact ret_boolE (.inr rfl) ⟨_, retV_mv rfl, rfl⟩
  · rw [if_neg hs] at c2
    have h1' : r.cs.length ≤ 1048576 := by omega
    have h2' : r.xs.length ≤ 1048576 := by omega
    have h3' : es.length ≤ 1048576 := by omega
    have cT := con15 a b r h1' h2'
    have cD := con16 nn es h3'
    have cE := con19 true true true true r h1' h2'
    have cF := con20 true true es h3'
    obtain ⟨z, p, cS, cI⟩ : ∃ z p, Con Try.prog 41 true [.agg (rRow true true r), .vw true (es.map tRow)] (.tup [.int .i64 z, .bool p]) [] ∧ Con Try.prog 42 true [.agg (rRow true true r), .vw true (es.map tRow)] (.tup [.int .i64 z, .bool p]) [] := by
      by_cases hk : prOK r es
      · have cS0 := con36_yes true true true r es h1' h2' h3' hk
        have cI0 := con37_yes true true true r es h1' h2' h3' hk
        have hlT := tgL_len r es r.cs.length
        rw [show AV.sl 0 2 0 r.cs.length = AV.sl 0 2 0 (tgL r es r.cs.length).length by rw [hlT]] at cS0 cI0
        exact ⟨_, true, con41_yes true true true r es _ (by omega) (tgL_b hk.1) cS0, con42_yes true true true r es _ (by omega) (tgL_b hk.1) cI0⟩
      · exact ⟨0, false, con41_no true true true r es (con36_no true true true r es h1' h2' h3' hk), con42_no true true true r es (con37_no true true true r es h1' h2' h3' hk)⟩
    cases p
    all_goals (repeat' (first | refine wC_dregE ?_ | refine wG_call c2 rfl rfl ?_ | refine wG_call2 cT rfl rfl ?_ | refine wE_call2 cT rfl rfl rfl ?_ | refine wG_call1 cD rfl rfl ?_ | refine wG_call cS (ag_rec rfl rfl rfl (ag_sl rfl rfl rfl tRow_plain ag_nil)) rfl ?_ | refine wG_call cI (ag_rec rfl rfl rfl (ag_sl rfl rfl rfl tRow_plain ag_nil)) rfl ?_ | refine wG_call cE (ag_rec rfl rfl rfl (ag_rec rfl rfl rfl ag_nil)) rfl ?_ | refine wE_call cE (ag_rec rfl rfl rfl (ag_rec rfl rfl rfl ag_nil)) rfl rfl ?_ | refine wG_call cF (ag_sl rfl rfl rfl tRow_plain (ag_sl rfl rfl rfl tRow_plain ag_nil)) rfl ?_ | (first
    | refine wC_a rfl ?_
    | refine q_s rfl ?_
    | refine q_b rfl ?_
    | refine wG_nil ?_
    | refine wG_g rfl ?_
    | refine wG_pure (o_len_vwm rfl) ?_
    | refine wG_pure (o_not_d rfl) ?_
    | refine wG_p rfl (by first | exact rfl | omega) ?_
    | refine wG_pure (o_str2 rfl rfl rfl) ?_
    | refine wG_pure (e_istr rfl rfl (by omega)) ?_
    | refine wG_pure (e_istr0 rfl rfl (by omega)) ?_
    | refine wG_pure (o_not rfl) ?_
    | refine wG_pure (e_ia_vw0 rfl rfl (by omega) rfl) ?_
    | refine wG_pure (e_ia_vwp rfl rfl (by omega) rfl) ?_
    | refine wG_pure (e_ia_vwm rfl rfl (by omega) (by omega) rfl) ?_
    | refine wG_pure (e_ia_vwi rfl rfl (by omega) rfl) ?_
    | refine wG_pure (e_ia_vwn rfl rfl (by omega) (by omega) rfl) ?_
    | refine wG_n rfl rfl ?_
    | refine wG_u rfl rfl ?_
    | refine wG_new (o_mks rfl rfl (by omega) (by decide)) ?_) | (first
    | refine wE_nil (by kernel_rfl) ?_
    | refine wE_gy rfl ?_
    | refine wE_gn rfl rfl rfl ?_
    | refine wE_gu rfl rfl ?_
    | refine wE_gnn rfl rfl rfl ?_
    | refine wE_v (o_len_vwm rfl) rfl ?_
    | refine wE_v (o_not_d rfl) rfl ?_
    | refine wE_p rfl (by first | exact rfl | omega) rfl ?_
    | refine wE_v (o_str2 rfl rfl rfl) rfl ?_
    | refine wE_v (e_istr rfl rfl (by omega)) rfl ?_
    | refine wE_v (e_istr0 rfl rfl (by omega)) rfl ?_
    | refine wE_v (o_not rfl) rfl ?_
    | refine wE_v (e_ia_vw0 rfl rfl (by omega) rfl) rfl ?_
    | refine wE_v (e_ia_vwp rfl rfl (by omega) rfl) rfl ?_
    | refine wE_v (e_ia_vwm rfl rfl (by omega) (by omega) rfl) rfl ?_
    | refine wE_v (e_ia_vwi rfl rfl (by omega) rfl) rfl ?_
    | refine wE_v (e_ia_vwn rfl rfl (by omega) (by omega) rfl) rfl ?_
    | refine wE_n rfl rfl rfl ?_
    | refine wE_u rfl rfl rfl ?_
    | refine wE_new (o_mks rfl rfl (by omega) (by decide)) rfl ?_) | (refine wG_gd rfl (fun hgt => ?_) (fun hgf => ?_) <;> (first | simp only [eq_true hgt, decide_true] | simp only [eq_false hgf, decide_false])) | refine wC_cond_d rfl (fun hg => ?_) (fun hg => ?_)))
    all_goals (first | contradiction | exact ret_boolE (.inr rfl) ⟨_, retV_mv rfl, rfl⟩ | (exfalso; omega) | trace_state)
end Go.Proofs.Ythbpcnkifgoimaa.Rec
