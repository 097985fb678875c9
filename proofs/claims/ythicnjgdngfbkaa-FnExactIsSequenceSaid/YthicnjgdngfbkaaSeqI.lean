/- The laws on the number of sequences and on what is a sequence. -/
import Derived.Test.YthicnjgdngfbkaaSeqH
namespace Go.Proofs.Ythicnjgdngfbkaa.Rec
open Go Go.Proofs.Ythicnjgdngfbkaa.Ab Go.Proofs.Ythicnjgdngfbkaa.Il
attribute [local irreducible] wpO wpC wpDr wpQ wpG wpE stepA seqQ blkQ Ret RetG ev
set_option maxRecDepth 10000
set_option maxHeartbeats 8000000
set_option linter.unusedSimpArgs false
set_option linter.unusedVariables false

def ac3 : AC := (.seq (.reg [⟨(some 1), none, (.box 2 true (.t 0))⟩, ⟨(some 2), none, (.mv (.c (.bool false)))⟩]) (.seq (.reg [⟨(some 3), none, (.mv (.c (.int .i64 1048576)))⟩]) (.seq (.reg [⟨(some 9), none, (.ld true 2 (.t 1))⟩, ⟨(some 10), none, (.mv (.t 3))⟩, ⟨(some 11), none, (.call 12 [(.t 9), (.t 10)])⟩, ⟨(some 3), none, (.mv (.t 11))⟩]) (.seq (.seq (.reg [⟨(some 12), none, (.mv (.t 3))⟩, ⟨(some 13), none, (.bin .lss (.t 12) (.c (.int .i64 0)))⟩]) (.cond (.t 13) (.seq (.reg [⟨(some 2), none, (.mv (.c (.bool true)))⟩]) .ret) .skip)) (.seq (.reg [⟨(some 15), none, (.ld true 2 (.t 1))⟩, ⟨(some 16), none, (.call 14 [(.t 15)])⟩, ⟨(some 17), none, (.call 13 [(.t 16)])⟩, ⟨(some 14), none, (.mv (.t 17))⟩, ⟨(some 18), none, (.ext (.t 14) 0)⟩, ⟨(some 19), none, (.ext (.t 14) 1)⟩, ⟨(some 4), none, (.mv (.t 18))⟩, ⟨(some 5), none, (.mv (.t 19))⟩]) (.seq (.reg [⟨(some 20), none, (.ld true 2 (.t 1))⟩, ⟨(some 21), none, (.call 14 [(.t 20)])⟩, ⟨(some 6), none, (.alloc [.nilS, .nilS])⟩, ⟨none, none, (.st 2 (.t 6) (.t 21))⟩]) (.seq (.reg [⟨(some 23), none, (.ld true 2 (.t 6))⟩, ⟨(some 24), none, (.call 15 [(.t 23)])⟩, ⟨(some 22), none, (.mv (.t 24))⟩, ⟨(some 25), none, (.ext (.t 22) 0)⟩, ⟨(some 26), none, (.ext (.t 22) 1)⟩, ⟨(some 7), none, (.mv (.t 25))⟩, ⟨(some 8), none, (.mv (.t 26))⟩]) (.seq (.seq (.reg [⟨(some 27), none, (.mv (.t 7))⟩, ⟨(some 28), none, (.mv (.t 4))⟩, ⟨(some 29), none, (.bin .neq (.t 27) (.t 28))⟩, ⟨(some 30), none, (.mv (.t 29))⟩, ⟨(some 31), (some (30, false)), (.mv (.t 8))⟩, ⟨(some 32), (some (30, false)), (.mv (.t 5))⟩, ⟨(some 33), (some (30, false)), (.bool2 true (.t 31) (.t 32))⟩, ⟨(some 34), none, (.pick (.t 30) (.c (.bool true)) (.t 33))⟩]) (.cond (.t 34) (.seq (.reg [⟨(some 2), none, (.mv (.c (.bool false)))⟩]) .ret) .skip)) (.seq (.seq (.dreg [⟨(some 35), none, (.ld true 2 (.t 6))⟩, ⟨(some 36), none, (.ld true 2 (.t 1))⟩, ⟨(some 37), none, (.call 14 [(.t 36)])⟩, ⟨(some 38), none, (.call 16 [(.t 35), (.t 37)])⟩, ⟨(some 39), none, (.un .not (.t 38))⟩] [[], [], [1], [0, 1, 2], [0, 1, 2, 3]]) (.cond (.t 39) (.seq (.reg [⟨(some 2), none, (.mv (.c (.bool false)))⟩]) .ret) .skip)) (.seq (.reg [⟨(some 2), none, (.mv (.c (.bool true)))⟩]) .ret))))))))))
def ro3 : List AOp := [(.mv (.t 2))]
theorem fun3 : Fun Try.prog 3 40 ac3 ro3 := ⟨Try.f3, _, Try.func3, by kernel_rfl, rfl, rfl, by kernel_rfl, by kernel_rfl, by decide⟩
def ac6 : AC := (.seq (.reg [⟨(some 2), none, (.box 2 true (.t 0))⟩, ⟨(some 4), none, (.mv (.c (.bool false)))⟩]) (.seq (.seq (.reg [⟨(some 12), none, (.mv (.t 1))⟩, ⟨(some 13), none, (.len (.t 12))⟩, ⟨(some 14), none, (.bin .gtr (.t 13) (.c (.int .i64 1048576)))⟩]) (.cond (.t 14) (.seq (.reg [⟨(some 4), none, (.mv (.c (.bool true)))⟩]) .ret) .skip)) (.seq (.reg [⟨(some 5), none, (.mv (.c (.int .i64 1048576)))⟩]) (.seq (.reg [⟨(some 15), none, (.ld true 2 (.t 2))⟩, ⟨(some 16), none, (.mv (.t 5))⟩, ⟨(some 17), none, (.call 12 [(.t 15), (.t 16)])⟩, ⟨(some 5), none, (.mv (.t 17))⟩]) (.seq (.seq (.reg [⟨(some 18), none, (.mv (.t 5))⟩, ⟨(some 19), none, (.bin .lss (.t 18) (.c (.int .i64 0)))⟩]) (.cond (.t 19) (.seq (.reg [⟨(some 4), none, (.mv (.c (.bool true)))⟩]) .ret) .skip)) (.seq (.reg [⟨(some 21), none, (.ld true 2 (.t 2))⟩, ⟨(some 22), none, (.call 14 [(.t 21)])⟩, ⟨(some 23), none, (.mv (.t 1))⟩, ⟨(some 24), none, (.call 22 [(.t 23)])⟩, ⟨(some 25), none, (.call 21 [(.t 22), (.t 24)])⟩, ⟨(some 20), none, (.mv (.t 25))⟩, ⟨(some 26), none, (.ext (.t 20) 0)⟩, ⟨(some 27), none, (.ext (.t 20) 1)⟩, ⟨(some 6), none, (.mv (.t 26))⟩, ⟨(some 7), none, (.mv (.t 27))⟩]) (.seq (.reg [⟨(some 28), none, (.ld true 2 (.t 2))⟩, ⟨(some 29), none, (.call 14 [(.t 28)])⟩, ⟨(some 8), none, (.alloc [.nilS, .nilS])⟩, ⟨none, none, (.st 2 (.t 8) (.t 29))⟩]) (.seq (.reg [⟨(some 30), none, (.mv (.t 1))⟩, ⟨(some 31), none, (.call 22 [(.t 30)])⟩, ⟨(some 9), none, (.mv (.t 31))⟩]) (.seq (.reg [⟨(some 33), none, (.ld true 2 (.t 8))⟩, ⟨(some 34), none, (.mv (.t 9))⟩, ⟨(some 35), none, (.call 23 [(.t 33), (.t 34)])⟩, ⟨(some 32), none, (.mv (.t 35))⟩, ⟨(some 36), none, (.ext (.t 32) 0)⟩, ⟨(some 37), none, (.ext (.t 32) 1)⟩, ⟨(some 10), none, (.mv (.t 36))⟩, ⟨(some 11), none, (.mv (.t 37))⟩]) (.seq (.seq (.reg [⟨(some 38), none, (.mv (.t 10))⟩, ⟨(some 39), none, (.mv (.t 6))⟩, ⟨(some 40), none, (.bool2 true (.t 38) (.t 39))⟩, ⟨(some 41), none, (.mv (.t 40))⟩, ⟨(some 42), (some (41, false)), (.mv (.t 11))⟩, ⟨(some 43), (some (41, false)), (.mv (.t 7))⟩, ⟨(some 44), (some (41, false)), (.bool2 true (.t 42) (.t 43))⟩, ⟨(some 45), none, (.pick (.t 41) (.c (.bool true)) (.t 44))⟩]) (.cond (.t 45) (.seq (.reg [⟨(some 4), none, (.mv (.c (.bool false)))⟩]) .ret) .skip)) (.seq (.seq (.dreg [⟨(some 46), none, (.ld true 2 (.t 8))⟩, ⟨(some 47), none, (.ld true 2 (.t 2))⟩, ⟨(some 48), none, (.call 14 [(.t 47)])⟩, ⟨(some 49), none, (.call 16 [(.t 46), (.t 48)])⟩, ⟨(some 50), none, (.un .not (.t 49))⟩] [[], [], [1], [0, 1, 2], [0, 1, 2, 3]]) (.cond (.t 50) (.seq (.reg [⟨(some 4), none, (.mv (.c (.bool false)))⟩]) .ret) .skip)) (.seq (.seq (.reg [⟨(some 51), none, (.mv (.t 9))⟩, ⟨(some 52), none, (.mv (.t 1))⟩, ⟨(some 53), none, (.call 22 [(.t 52)])⟩, ⟨(some 54), none, (.call 24 [(.t 51), (.t 53)])⟩, ⟨(some 55), none, (.un .not (.t 54))⟩]) (.cond (.t 55) (.seq (.reg [⟨(some 4), none, (.mv (.c (.bool false)))⟩]) .ret) .skip)) (.seq (.reg [⟨(some 4), none, (.mv (.c (.bool true)))⟩]) .ret)))))))))))))
def ro6 : List AOp := [(.mv (.t 4))]
theorem fun6 : Fun Try.prog 6 56 ac6 ro6 := ⟨Try.f6, _, Try.func6, by kernel_rfl, rfl, rfl, by kernel_rfl, by kernel_rfl, by decide⟩

theorem con3 (a b : Bool) (r : Rc) (h1 : r.cs.length ≤ 9223372036854775807) (h2 : r.xs.length ≤ 9223372036854775807) : Con Try.prog 3 true [.agg (rRow a b r)] (.bool true) [] := by
  refine con_of_wp mixed fun3 (by simp) [] plain_nil ?_
  unfold ac3 ro3
  simp only [zipT]
  have c1 := con12 a b r h1 h2 1048576 (by decide) (by decide)
  repeat (first | refine wG_call c1 rfl rfl ?_ | (first
    | refine wC_a rfl ?_
    | refine q_s rfl ?_
    | refine q_b rfl ?_
    | refine wG_nil ?_
    | refine wG_g rfl ?_
    | refine wG_pure (o_len_vwm rfl) ?_
    | refine wG_pure (o_not_d rfl) ?_
    | refine wG_p rfl (by first | exact rfl | omega) ?_
    | refine wG_pure (o_str2 rfl rfl rfl) ?_
    | refine wG_pure (e_istr rfl rfl (by omega)) ?_
    | refine wG_pure (e_istr0 rfl rfl (by omega)) ?_
    | refine wG_pure (o_not rfl) ?_
    | refine wG_pure (e_ia_vw0 rfl rfl (by omega) rfl) ?_
    | refine wG_pure (e_ia_vwp rfl rfl (by omega) rfl) ?_
    | refine wG_pure (e_ia_vwm rfl rfl (by omega) (by omega) rfl) ?_
    | refine wG_pure (e_ia_vwi rfl rfl (by omega) rfl) ?_
    | refine wG_pure (e_ia_vwn rfl rfl (by omega) (by omega) rfl) ?_
    | refine wG_n rfl rfl ?_
    | refine wG_u rfl rfl ?_
    | refine wG_new (o_mks rfl rfl (by omega) (by decide)) ?_))
  refine wC_cond_d rfl (fun h => ?_) (fun h => ?_)
  · repeat (first
    | refine wC_a rfl ?_
    | refine q_s rfl ?_
    | refine q_b rfl ?_
    | refine wG_nil ?_
    | refine wG_g rfl ?_
    | refine wG_pure (o_len_vwm rfl) ?_
    | refine wG_pure (o_not_d rfl) ?_
    | refine wG_p rfl (by first | exact rfl | omega) ?_
    | refine wG_pure (o_str2 rfl rfl rfl) ?_
    | refine wG_pure (e_istr rfl rfl (by omega)) ?_
    | refine wG_pure (e_istr0 rfl rfl (by omega)) ?_
    | refine wG_pure (o_not rfl) ?_
    | refine wG_pure (e_ia_vw0 rfl rfl (by omega) rfl) ?_
    | refine wG_pure (e_ia_vwp rfl rfl (by omega) rfl) ?_
    | refine wG_pure (e_ia_vwm rfl rfl (by omega) (by omega) rfl) ?_
    | refine wG_pure (e_ia_vwi rfl rfl (by omega) rfl) ?_
    | refine wG_pure (e_ia_vwn rfl rfl (by omega) (by omega) rfl) ?_
    | refine wG_n rfl rfl ?_
    | refine wG_u rfl rfl ?_
    | refine wG_new (o_mks rfl rfl (by omega) (by decide)) ?_)
    exact ret_boolE (.inr rfl) ⟨_, retV_mv rfl, rfl⟩
  obtain ⟨s1, s2, s3⟩ := szR_ok (Int.not_lt.1 h)
  have h1' : r.cs.length ≤ 1048576 := by omega
  have h2' : r.xs.length ≤ 1048576 := by omega
  have cT := con14 a b r h1' h2'
  have cE := con16 true true true true r h1' h2'
  obtain ⟨z, p, cS, cI⟩ : ∃ z p, Con Try.prog 13 true [.agg (rRow true true r)] (.tup [.int .i64 z, .bool p]) [] ∧ Con Try.prog 15 true [.agg (rRow true true r)] (.tup [.int .i64 z, .bool p]) [] := by
    by_cases hk : GoodC r
    · exact ⟨_, true, con13_yes true true r h1' h2' hk, con15_yes true true r h1' h2' hk⟩
    · exact ⟨_, false, con13_no true true r h1' h2' hk, con15_no true true r h1' h2' hk⟩
  cases p
  all_goals (repeat' (first | refine wC_dregE ?_ | refine wG_call2 cT rfl rfl ?_ | refine wE_call2 cT rfl rfl rfl ?_ | refine wG_call cS (ag_rec rfl rfl rfl ag_nil) rfl ?_ | refine wG_call cI (ag_rec rfl rfl rfl ag_nil) rfl ?_ | refine wE_call cS (ag_rec rfl rfl rfl ag_nil) rfl rfl ?_ | refine wE_call cI (ag_rec rfl rfl rfl ag_nil) rfl rfl ?_ | refine wG_call cE (ag_rec rfl rfl rfl (ag_rec rfl rfl rfl ag_nil)) rfl ?_ | refine wE_call cE (ag_rec rfl rfl rfl (ag_rec rfl rfl rfl ag_nil)) rfl rfl ?_ | (first
    | refine wC_a rfl ?_
    | refine q_s rfl ?_
    | refine q_b rfl ?_
    | refine wG_nil ?_
    | refine wG_g rfl ?_
    | refine wG_pure (o_len_vwm rfl) ?_
    | refine wG_pure (o_not_d rfl) ?_
    | refine wG_p rfl (by first | exact rfl | omega) ?_
    | refine wG_pure (o_str2 rfl rfl rfl) ?_
    | refine wG_pure (e_istr rfl rfl (by omega)) ?_
    | refine wG_pure (e_istr0 rfl rfl (by omega)) ?_
    | refine wG_pure (o_not rfl) ?_
    | refine wG_pure (e_ia_vw0 rfl rfl (by omega) rfl) ?_
    | refine wG_pure (e_ia_vwp rfl rfl (by omega) rfl) ?_
    | refine wG_pure (e_ia_vwm rfl rfl (by omega) (by omega) rfl) ?_
    | refine wG_pure (e_ia_vwi rfl rfl (by omega) rfl) ?_
    | refine wG_pure (e_ia_vwn rfl rfl (by omega) (by omega) rfl) ?_
    | refine wG_n rfl rfl ?_
    | refine wG_u rfl rfl ?_
    | refine wG_new (o_mks rfl rfl (by omega) (by decide)) ?_) | (first
    | refine wE_nil (by kernel_rfl) ?_
    | refine wE_gy rfl ?_
    | refine wE_gn rfl rfl rfl ?_
    | refine wE_gu rfl rfl ?_
    | refine wE_gnn rfl rfl rfl ?_
    | refine wE_v (o_len_vwm rfl) rfl ?_
    | refine wE_v (o_not_d rfl) rfl ?_
    | refine wE_p rfl (by first | exact rfl | omega) rfl ?_
    | refine wE_v (o_str2 rfl rfl rfl) rfl ?_
    | refine wE_v (e_istr rfl rfl (by omega)) rfl ?_
    | refine wE_v (e_istr0 rfl rfl (by omega)) rfl ?_
    | refine wE_v (o_not rfl) rfl ?_
    | refine wE_v (e_ia_vw0 rfl rfl (by omega) rfl) rfl ?_
    | refine wE_v (e_ia_vwp rfl rfl (by omega) rfl) rfl ?_
    | refine wE_v (e_ia_vwm rfl rfl (by omega) (by omega) rfl) rfl ?_
    | refine wE_v (e_ia_vwi rfl rfl (by omega) rfl) rfl ?_
    | refine wE_v (e_ia_vwn rfl rfl (by omega) (by omega) rfl) rfl ?_
    | refine wE_n rfl rfl rfl ?_
    | refine wE_u rfl rfl rfl ?_
    | refine wE_new (o_mks rfl rfl (by omega) (by decide)) rfl ?_) | (refine wG_gd rfl (fun hgt => ?_) (fun hgf => ?_) <;> (first | simp only [eq_true hgt, decide_true] | simp only [eq_false hgf, decide_false])) | refine wC_cond_d rfl (fun hg => ?_) (fun hg => ?_)))
  all_goals (first | contradiction | exact ret_boolE (.inr rfl) ⟨_, retV_mv rfl, rfl⟩ | (exfalso; omega) | trace_state)
theorem con6 (a b nn : Bool) (r : Rc) (ls : List Int) (h1 : r.cs.length ≤ 9223372036854775807) (h2 : r.xs.length ≤ 9223372036854775807) (h3 : ls.length ≤ 9223372036854775807) : Con Try.prog 6 true [.agg (rRow a b r), .vw nn (ls.map iRow)] (.bool true) [] := by
  refine con_of_wp mixed fun6 (by simp) [] plain_nil ?_
  unfold ac6 ro6
  simp only [zipT]
  have c1 := con12 a b r h1 h2 1048576 (by decide) (by decide)
  repeat (first
    | refine wC_a rfl ?_
    | refine q_s rfl ?_
    | refine q_b rfl ?_
    | refine wG_nil ?_
    | refine wG_g rfl ?_
    | refine wG_pure (o_len_vwm rfl) ?_
    | refine wG_pure (o_not_d rfl) ?_
    | refine wG_p rfl (by first | exact rfl | omega) ?_
    | refine wG_pure (o_str2 rfl rfl rfl) ?_
    | refine wG_pure (e_istr rfl rfl (by omega)) ?_
    | refine wG_pure (e_istr0 rfl rfl (by omega)) ?_
    | refine wG_pure (o_not rfl) ?_
    | refine wG_pure (e_ia_vw0 rfl rfl (by omega) rfl) ?_
    | refine wG_pure (e_ia_vwp rfl rfl (by omega) rfl) ?_
    | refine wG_pure (e_ia_vwm rfl rfl (by omega) (by omega) rfl) ?_
    | refine wG_pure (e_ia_vwi rfl rfl (by omega) rfl) ?_
    | refine wG_pure (e_ia_vwn rfl rfl (by omega) (by omega) rfl) ?_
    | refine wG_n rfl rfl ?_
    | refine wG_u rfl rfl ?_
    | refine wG_new (o_mks rfl rfl (by omega) (by decide)) ?_)
  refine wC_cond_d rfl (fun hd => ?_) (fun hd => ?_)
  · repeat (first
    | refine wC_a rfl ?_
    | refine q_s rfl ?_
    | refine q_b rfl ?_
    | refine wG_nil ?_
    | refine wG_g rfl ?_
    | refine wG_pure (o_len_vwm rfl) ?_
    | refine wG_pure (o_not_d rfl) ?_
    | refine wG_p rfl (by first | exact rfl | omega) ?_
    | refine wG_pure (o_str2 rfl rfl rfl) ?_
    | refine wG_pure (e_istr rfl rfl (by omega)) ?_
    | refine wG_pure (e_istr0 rfl rfl (by omega)) ?_
    | refine wG_pure (o_not rfl) ?_
    | refine wG_pure (e_ia_vw0 rfl rfl (by omega) rfl) ?_
    | refine wG_pure (e_ia_vwp rfl rfl (by omega) rfl) ?_
    | refine wG_pure (e_ia_vwm rfl rfl (by omega) (by omega) rfl) ?_
    | refine wG_pure (e_ia_vwi rfl rfl (by omega) rfl) ?_
    | refine wG_pure (e_ia_vwn rfl rfl (by omega) (by omega) rfl) ?_
    | refine wG_n rfl rfl ?_
    | refine wG_u rfl rfl ?_
    | refine wG_new (o_mks rfl rfl (by omega) (by decide)) ?_)
    exact ret_boolE (.inr rfl) ⟨_, retV_mv rfl, rfl⟩
  have h3' : ls.length ≤ 1048576 := by omega
  repeat (first | refine wG_call c1 rfl rfl ?_ | (first
    | refine wC_a rfl ?_
    | refine q_s rfl ?_
    | refine q_b rfl ?_
    | refine wG_nil ?_
    | refine wG_g rfl ?_
    | refine wG_pure (o_len_vwm rfl) ?_
    | refine wG_pure (o_not_d rfl) ?_
    | refine wG_p rfl (by first | exact rfl | omega) ?_
    | refine wG_pure (o_str2 rfl rfl rfl) ?_
    | refine wG_pure (e_istr rfl rfl (by omega)) ?_
    | refine wG_pure (e_istr0 rfl rfl (by omega)) ?_
    | refine wG_pure (o_not rfl) ?_
    | refine wG_pure (e_ia_vw0 rfl rfl (by omega) rfl) ?_
    | refine wG_pure (e_ia_vwp rfl rfl (by omega) rfl) ?_
    | refine wG_pure (e_ia_vwm rfl rfl (by omega) (by omega) rfl) ?_
    | refine wG_pure (e_ia_vwi rfl rfl (by omega) rfl) ?_
    | refine wG_pure (e_ia_vwn rfl rfl (by omega) (by omega) rfl) ?_
    | refine wG_n rfl rfl ?_
    | refine wG_u rfl rfl ?_
    | refine wG_new (o_mks rfl rfl (by omega) (by decide)) ?_))
  refine wC_cond_d rfl (fun h => ?_) (fun h => ?_)
  · repeat (first
    | refine wC_a rfl ?_
    | refine q_s rfl ?_
    | refine q_b rfl ?_
    | refine wG_nil ?_
    | refine wG_g rfl ?_
    | refine wG_pure (o_len_vwm rfl) ?_
    | refine wG_pure (o_not_d rfl) ?_
    | refine wG_p rfl (by first | exact rfl | omega) ?_
    | refine wG_pure (o_str2 rfl rfl rfl) ?_
    | refine wG_pure (e_istr rfl rfl (by omega)) ?_
    | refine wG_pure (e_istr0 rfl rfl (by omega)) ?_
    | refine wG_pure (o_not rfl) ?_
    | refine wG_pure (e_ia_vw0 rfl rfl (by omega) rfl) ?_
    | refine wG_pure (e_ia_vwp rfl rfl (by omega) rfl) ?_
    | refine wG_pure (e_ia_vwm rfl rfl (by omega) (by omega) rfl) ?_
    | refine wG_pure (e_ia_vwi rfl rfl (by omega) rfl) ?_
    | refine wG_pure (e_ia_vwn rfl rfl (by omega) (by omega) rfl) ?_
    | refine wG_n rfl rfl ?_
    | refine wG_u rfl rfl ?_
    | refine wG_new (o_mks rfl rfl (by omega) (by decide)) ?_)
    exact ret_boolE (.inr rfl) ⟨_, retV_mv rfl, rfl⟩
  obtain ⟨s1, s2, s3⟩ := szR_ok (Int.not_lt.1 h)
  have h1' : r.cs.length ≤ 1048576 := by omega
  have h2' : r.xs.length ≤ 1048576 := by omega
  have cT := con14 a b r h1' h2'
  have cE := con16 true true true true r h1' h2'
  have cZ := con22 nn ls h3'
  have cQ := con24_same true true ls h3'
  obtain ⟨z, p, cS, cI⟩ : ∃ z p, Con Try.prog 21 true [.agg (rRow true true r), .vw true (ls.map iRow)] (.tup [.bool z, .bool p]) [] ∧ Con Try.prog 23 true [.agg (rRow true true r), .vw true (ls.map iRow)] (.tup [.bool z, .bool p]) [] := by
    classical
    by_cases hk : GoodC r
    · exact ⟨_, true, con21_yes true true true r ls h1' h2' h3' hk, con23_yes true true true r ls h1' h2' h3' hk⟩
    · exact ⟨_, false, con21_no true true true r ls h1' h2' hk, con23_no true true true r ls h1' h2' hk⟩
  cases p <;> cases z
  all_goals (repeat' (first | refine wC_dregE ?_ | refine wG_call2 cT rfl rfl ?_ | refine wE_call2 cT rfl rfl rfl ?_ | refine wG_call1 cZ rfl rfl ?_ | refine wE_call1 cZ rfl rfl rfl ?_ | refine wG_call cS (ag_rec rfl rfl rfl (ag_sl rfl rfl rfl iRow_plain ag_nil)) rfl ?_ | refine wG_call cI (ag_rec rfl rfl rfl (ag_sl rfl rfl rfl iRow_plain ag_nil)) rfl ?_ | refine wG_call cE (ag_rec rfl rfl rfl (ag_rec rfl rfl rfl ag_nil)) rfl ?_ | refine wE_call cE (ag_rec rfl rfl rfl (ag_rec rfl rfl rfl ag_nil)) rfl rfl ?_ | refine wG_call cQ (ag_sl rfl rfl rfl iRow_plain (ag_sl rfl rfl rfl iRow_plain ag_nil)) rfl ?_ | refine wE_call cQ (ag_sl rfl rfl rfl iRow_plain (ag_sl rfl rfl rfl iRow_plain ag_nil)) rfl rfl ?_ | (first
    | refine wC_a rfl ?_
    | refine q_s rfl ?_
    | refine q_b rfl ?_
    | refine wG_nil ?_
    | refine wG_g rfl ?_
    | refine wG_pure (o_len_vwm rfl) ?_
    | refine wG_pure (o_not_d rfl) ?_
    | refine wG_p rfl (by first | exact rfl | omega) ?_
    | refine wG_pure (o_str2 rfl rfl rfl) ?_
    | refine wG_pure (e_istr rfl rfl (by omega)) ?_
    | refine wG_pure (e_istr0 rfl rfl (by omega)) ?_
    | refine wG_pure (o_not rfl) ?_
    | refine wG_pure (e_ia_vw0 rfl rfl (by omega) rfl) ?_
    | refine wG_pure (e_ia_vwp rfl rfl (by omega) rfl) ?_
    | refine wG_pure (e_ia_vwm rfl rfl (by omega) (by omega) rfl) ?_
    | refine wG_pure (e_ia_vwi rfl rfl (by omega) rfl) ?_
    | refine wG_pure (e_ia_vwn rfl rfl (by omega) (by omega) rfl) ?_
    | refine wG_n rfl rfl ?_
    | refine wG_u rfl rfl ?_
    | refine wG_new (o_mks rfl rfl (by omega) (by decide)) ?_) | (first
    | refine wE_nil (by kernel_rfl) ?_
    | refine wE_gy rfl ?_
    | refine wE_gn rfl rfl rfl ?_
    | refine wE_gu rfl rfl ?_
    | refine wE_gnn rfl rfl rfl ?_
    | refine wE_v (o_len_vwm rfl) rfl ?_
    | refine wE_v (o_not_d rfl) rfl ?_
    | refine wE_p rfl (by first | exact rfl | omega) rfl ?_
    | refine wE_v (o_str2 rfl rfl rfl) rfl ?_
    | refine wE_v (e_istr rfl rfl (by omega)) rfl ?_
    | refine wE_v (e_istr0 rfl rfl (by omega)) rfl ?_
    | refine wE_v (o_not rfl) rfl ?_
    | refine wE_v (e_ia_vw0 rfl rfl (by omega) rfl) rfl ?_
    | refine wE_v (e_ia_vwp rfl rfl (by omega) rfl) rfl ?_
    | refine wE_v (e_ia_vwm rfl rfl (by omega) (by omega) rfl) rfl ?_
    | refine wE_v (e_ia_vwi rfl rfl (by omega) rfl) rfl ?_
    | refine wE_v (e_ia_vwn rfl rfl (by omega) (by omega) rfl) rfl ?_
    | refine wE_n rfl rfl rfl ?_
    | refine wE_u rfl rfl rfl ?_
    | refine wE_new (o_mks rfl rfl (by omega) (by decide)) rfl ?_) | (refine wG_gd rfl (fun hgt => ?_) (fun hgf => ?_) <;> (first | simp only [eq_true hgt, decide_true] | simp only [eq_false hgf, decide_false])) | refine wC_cond_d rfl (fun hg => ?_) (fun hg => ?_)))
  all_goals (first | contradiction | exact ret_boolE (.inr rfl) ⟨_, retV_mv rfl, rfl⟩ | (exfalso; omega) | trace_state)
end Go.Proofs.Ythicnjgdngfbkaa.Rec
