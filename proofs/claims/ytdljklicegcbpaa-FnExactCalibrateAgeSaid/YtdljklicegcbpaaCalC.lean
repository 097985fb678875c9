/- The body of the law on calibrated ages. -/
import Derived.Test.YtdljklicegcbpaaCalB
import Derived.Test.YtdljklicegcbpaaCvmA
import Derived.Test.YtdljklicegcbpaaAb1
namespace Go.Proofs.Ytdljklicegcbpaa.Cal
open Go Go.Proofs.Ytdljklicegcbpaa Go.Proofs.Ytdljklicegcbpaa.Ab Go.Proofs.Ytdljklicegcbpaa.Il Go.Proofs.Ytdljklicegcbpaa.Msr Go.Proofs.Ytdljklicegcbpaa.Dst Go.Proofs.Ytdljklicegcbpaa.Cvm
attribute [local irreducible] wpO wpC wpDr wpQ wpG wpE stepA seqQ blkQ Ret ev
set_option maxRecDepth 10000
set_option maxHeartbeats 8000000
set_option linter.unusedSimpArgs false
set_option linter.unusedVariables false
def ac14 : AC := (.seq (.reg [⟨(some 3), none, (.box 2 true (.t 1))⟩, ⟨(some 4), none, (.mv (.c (.bool false)))⟩]) (.seq (.reg [⟨(some 5), none, (.mv (.c (.int .i64 1048576)))⟩]) (.seq (.reg [⟨(some 16), none, (.mv (.t 0))⟩, ⟨(some 17), none, (.mv (.t 5))⟩, ⟨(some 18), none, (.call 46 [(.t 16), (.t 17)])⟩, ⟨(some 5), none, (.mv (.t 18))⟩]) (.seq (.seq (.reg [⟨(some 19), none, (.mv (.t 5))⟩, ⟨(some 20), none, (.bin .lss (.t 19) (.c (.int .i64 0)))⟩]) (.cond (.t 20) (.seq (.reg [⟨(some 4), none, (.mv (.c (.bool true)))⟩]) .ret) .skip)) (.seq (.dreg [⟨(some 22), none, (.mv (.t 0))⟩, ⟨(some 23), none, (.call 48 [(.t 22)])⟩, ⟨(some 24), none, (.ld true 2 (.t 3))⟩, ⟨(some 25), none, (.call 49 [(.t 24)])⟩, ⟨(some 26), none, (.call 47 [(.t 23), (.t 25)])⟩, ⟨(some 21), none, (.mv (.t 26))⟩, ⟨(some 27), none, (.ext (.t 21) 0)⟩, ⟨(some 28), none, (.ext (.t 21) 1)⟩, ⟨(some 6), none, (.alloc [(.int .i64 0), .nilS])⟩, ⟨none, none, (.st 2 (.t 6) (.t 27))⟩, ⟨(some 7), none, (.mv (.t 28))⟩] [[], [0], [], [0, 1, 2], [0, 1, 2, 3], [0, 1, 2, 3, 4], [0, 1, 2, 3, 4, 5], [0, 1, 2, 3, 4, 5], [], [0, 1, 2, 3, 4, 5, 6, 8], [0, 1, 2, 3, 4, 5, 6, 7, 8, 9]]) (.seq (.reg [⟨(some 29), none, (.mv (.t 0))⟩, ⟨(some 30), none, (.call 48 [(.t 29)])⟩, ⟨(some 8), none, (.mv (.t 30))⟩]) (.seq (.reg [⟨(some 32), none, (.mv (.t 8))⟩, ⟨(some 33), none, (.ld true 2 (.t 3))⟩, ⟨(some 34), none, (.call 49 [(.t 33)])⟩, ⟨(some 35), none, (.call 50 [(.t 32), (.t 34)])⟩, ⟨(some 31), none, (.mv (.t 35))⟩, ⟨(some 36), none, (.ext (.t 31) 0)⟩, ⟨(some 37), none, (.ext (.t 31) 1)⟩, ⟨(some 9), none, (.alloc [(.int .i64 0), .nilS])⟩, ⟨none, none, (.st 2 (.t 9) (.t 36))⟩, ⟨(some 10), none, (.mv (.t 37))⟩]) (.seq (.seq (.reg [⟨(some 38), none, (.ld true 2 (.t 9))⟩, ⟨(some 39), none, (.ld true 2 (.t 6))⟩, ⟨(some 40), none, (.call 20 [(.t 38), (.t 39)])⟩, ⟨(some 41), none, (.un .not (.t 40))⟩, ⟨(some 42), none, (.mv (.t 41))⟩, ⟨(some 43), (some (42, false)), (.mv (.t 10))⟩, ⟨(some 44), (some (42, false)), (.mv (.t 7))⟩, ⟨(some 45), (some (42, false)), (.bool2 true (.t 43) (.t 44))⟩, ⟨(some 46), none, (.pick (.t 42) (.c (.bool true)) (.t 45))⟩]) (.cond (.t 46) (.seq (.reg [⟨(some 4), none, (.mv (.c (.bool false)))⟩]) .ret) .skip)) (.seq (.seq (.reg [⟨(some 47), none, (.mv (.t 8))⟩, ⟨(some 48), none, (.mv (.t 0))⟩, ⟨(some 49), none, (.call 48 [(.t 48)])⟩, ⟨(some 50), none, (.call 51 [(.t 47), (.t 49)])⟩, ⟨(some 51), none, (.un .not (.t 50))⟩]) (.cond (.t 51) (.seq (.reg [⟨(some 4), none, (.mv (.c (.bool false)))⟩]) .ret) .skip)) (.seq (.reg [⟨(some 11), none, (.mv (.c (.int .i64 1)))⟩]) (.seq (.reg [⟨(some 52), none, (.mv (.t 8))⟩, ⟨(some 53), none, (.mv (.t 11))⟩, ⟨(some 54), none, (.call 52 [(.t 52), (.t 53)])⟩, ⟨(some 11), none, (.mv (.t 54))⟩]) (.seq (.seq (.reg [⟨(some 55), none, (.mv (.t 11))⟩, ⟨(some 56), none, (.bin .lss (.t 55) (.c (.int .i64 0)))⟩, ⟨(some 57), none, (.mv (.t 56))⟩, ⟨(some 58), (some (57, false)), (.ld true 2 (.t 9))⟩, ⟨(some 59), (some (57, false)), (.ld true 2 (.t 6))⟩, ⟨(some 60), (some (57, false)), (.call 20 [(.t 58), (.t 59)])⟩, ⟨(some 61), (some (57, false)), (.un .not (.t 60))⟩, ⟨(some 62), none, (.pick (.t 57) (.c (.bool true)) (.t 61))⟩, ⟨(some 63), none, (.mv (.t 62))⟩, ⟨(some 64), (some (63, false)), (.mv (.t 10))⟩, ⟨(some 65), (some (63, false)), (.mv (.t 7))⟩, ⟨(some 66), (some (63, false)), (.bool2 true (.t 64) (.t 65))⟩, ⟨(some 67), none, (.pick (.t 63) (.c (.bool true)) (.t 66))⟩]) (.cond (.t 67) (.seq (.reg [⟨(some 4), none, (.mv (.c (.bool false)))⟩]) .ret) .skip)) (.seq (.reg [⟨(some 12), none, (.mv (.c (.int .i64 1)))⟩]) (.seq (.reg [⟨(some 68), none, (.ld true 2 (.t 9))⟩, ⟨(some 69), none, (.mv (.t 12))⟩, ⟨(some 70), none, (.call 33 [(.t 68), (.t 69)])⟩, ⟨(some 12), none, (.mv (.t 70))⟩]) (.seq (.reg [⟨(some 13), none, (.mv (.c (.int .i64 1)))⟩]) (.seq (.reg [⟨(some 71), none, (.ld true 2 (.t 9))⟩, ⟨(some 72), none, (.mv (.t 13))⟩, ⟨(some 73), none, (.call 34 [(.t 71), (.t 72)])⟩, ⟨(some 13), none, (.mv (.t 73))⟩]) (.seq (.seq (.reg [⟨(some 74), none, (.mv (.t 13))⟩, ⟨(some 75), none, (.bin .lss (.t 74) (.c (.int .i64 0)))⟩]) (.cond (.t 75) (.seq (.reg [⟨(some 4), none, (.mv (.c (.bool false)))⟩]) .ret) .skip)) (.seq (.seq (.reg [⟨(some 76), none, (.mv (.t 13))⟩, ⟨(some 77), none, (.mv (.t 12))⟩, ⟨(some 78), none, (.bin .neq (.t 76) (.t 77))⟩]) (.cond (.t 78) (.seq (.reg [⟨(some 4), none, (.mv (.c (.bool false)))⟩]) .ret) .skip)) (.seq (.dreg [⟨(some 80), none, (.mv (.t 0))⟩, ⟨(some 81), none, (.call 48 [(.t 80)])⟩, ⟨(some 82), none, (.ld true 2 (.t 3))⟩, ⟨(some 83), none, (.call 49 [(.t 82)])⟩, ⟨(some 84), none, (.call 50 [(.t 81), (.t 83)])⟩, ⟨(some 79), none, (.mv (.t 84))⟩, ⟨(some 85), none, (.ext (.t 79) 0)⟩, ⟨(some 86), none, (.ext (.t 79) 1)⟩, ⟨(some 14), none, (.alloc [(.int .i64 0), .nilS])⟩, ⟨none, none, (.st 2 (.t 14) (.t 85))⟩, ⟨(some 15), none, (.mv (.t 86))⟩] [[], [0], [], [0, 1, 2], [0, 1, 2, 3], [0, 1, 2, 3, 4], [0, 1, 2, 3, 4, 5], [0, 1, 2, 3, 4, 5], [], [0, 1, 2, 3, 4, 5, 6, 8], [0, 1, 2, 3, 4, 5, 6, 7, 8, 9]]) (.seq (.seq (.reg [⟨(some 87), none, (.ld true 2 (.t 14))⟩, ⟨(some 88), none, (.ld true 2 (.t 6))⟩, ⟨(some 89), none, (.call 20 [(.t 87), (.t 88)])⟩, ⟨(some 90), none, (.un .not (.t 89))⟩, ⟨(some 91), none, (.mv (.t 90))⟩, ⟨(some 92), (some (91, false)), (.mv (.t 15))⟩, ⟨(some 93), (some (91, false)), (.mv (.t 7))⟩, ⟨(some 94), (some (91, false)), (.bool2 true (.t 92) (.t 93))⟩, ⟨(some 95), none, (.pick (.t 91) (.c (.bool true)) (.t 94))⟩]) (.cond (.t 95) (.seq (.reg [⟨(some 4), none, (.mv (.c (.bool false)))⟩]) .ret) .skip)) (.seq (.reg [⟨(some 13), none, (.mv (.c (.int .i64 1)))⟩]) (.seq (.reg [⟨(some 96), none, (.ld true 2 (.t 9))⟩, ⟨(some 97), none, (.mv (.t 13))⟩, ⟨(some 98), none, (.call 34 [(.t 96), (.t 97)])⟩, ⟨(some 13), none, (.mv (.t 98))⟩]) (.seq (.seq (.reg [⟨(some 99), none, (.mv (.t 13))⟩, ⟨(some 100), none, (.bin .lss (.t 99) (.c (.int .i64 0)))⟩]) (.cond (.t 100) (.seq (.reg [⟨(some 4), none, (.mv (.c (.bool false)))⟩]) .ret) .skip)) (.seq (.seq (.reg [⟨(some 101), none, (.mv (.t 13))⟩, ⟨(some 102), none, (.mv (.t 12))⟩, ⟨(some 103), none, (.bin .neq (.t 101) (.t 102))⟩]) (.cond (.t 103) (.seq (.reg [⟨(some 4), none, (.mv (.c (.bool false)))⟩]) .ret) .skip)) (.seq (.reg [⟨(some 4), none, (.mv (.c (.bool true)))⟩]) .ret)))))))))))))))))))))))))
def ro14 : List AOp := [(.mv (.t 4))]
theorem fun14 : Fun Try.prog 14 104 ac14 ro14 := ⟨Try.f14, _, Try.func14, by kernel_rfl, rfl, rfl, by kernel_rfl, by kernel_rfl, by decide⟩
theorem con14 (nn : Bool) (xs : List CP) (hlen : xs.length ≤ 9223372036854775807) (m : Ms) : Con Try.prog 14 true [.vw nn (xs.map cpRow), .agg (msRow m)] (.bool true) [] := by
  refine con_of_wp mixed fun14 (by simp) [] plain_nil ?_
  unfold ac14 ro14
  simp only [zipT]
  have c0 := con46 nn xs hlen
  by_cases hs : xs.length ≤ 1048576
  · rw [if_pos hs] at c0
    have c1 := con48 nn xs hs
    have c1m := con49 m
    have c4 := eqC_same true true xs hs
    by_cases hG : calOK xs m
    · have c2 := con47_yes true xs hs m hG
      have c3 := con50_yes true xs hs m hG
      have hl := hG.2.2.len
      generalize mkO (y0 xs) (calL xs m) = d at *
      have hd : d.ws.length ≤ 1048576 := by omega
      have c5 := con20_same true true d hd
      have c6 := con34 true d.f d.ws.length 1 hd (by decide) (by decide)
      have sm := fun h nr r => @sh33 d 1 hd (by decide) (by decide) h nr r
      clear hG
      obtain ⟨f, vs⟩ := d
      unfold dYes dRow msRow at *
      simp only at *
      repeat' (first
        | refine wC_dregE ?_ | refine wG_call c0 rfl rfl ?_ | refine wG_call1 c1 rfl rfl ?_ | refine wG_call c1m rfl rfl ?_ | refine wG_call1 c3 (ag_sl rfl rfl rfl cp_plain (ag_any rfl ag_nil)) rfl ?_ | refine wG_call c4 (ag_sl rfl rfl rfl cp_plain (ag_sl rfl rfl rfl cp_plain ag_nil)) rfl ?_ | refine wG_call c5 (ag_is rfl rfl rfl iRow_plain (ag_is rfl rfl rfl iRow_plain ag_nil)) rfl ?_ | refine wG_call c6 (ag_is rfl rfl (mks_len _ _).symm iRow_plain (ag_int rfl ag_nil)) rfl ?_
        | refine wE_call1 c1 rfl rfl rfl ?_ | refine wE_call c1m rfl rfl rfl ?_ | refine wE_call1 c2 (ag_sl rfl rfl rfl cp_plain (ag_any rfl ag_nil)) rfl (rd_sl rfl rfl cp_plain (rd_any rfl rd_nil)) ?_ | refine wE_call1 c3 (ag_sl rfl rfl rfl cp_plain (ag_any rfl ag_nil)) rfl (rd_sl rfl rfl cp_plain (rd_any rfl rd_nil)) ?_
        | (refine wG_callS (f := 52) (sh52 xs 1 (by omega) (by decide) (by decide) rfl ?_) rfl ?_ <;> (repeat' (first | exact ltrI _ _ | exact ltrC _ _ | exact ltrI [] _ | exact wfH_nil | refine wfH_cons (by decide) ?_ ?_ | refine wfH_none ?_ | exact ltr_dec rfl)))
        | (refine wG_callS (f := 33) (sm _ _ _ rfl ?_) rfl ?_ <;> (repeat' (first | exact ltrI _ _ | exact ltrC _ _ | exact ltrI [] _ | exact wfH_nil | refine wfH_cons (by decide) ?_ ?_ | refine wfH_none ?_ | exact ltr_dec rfl)))
        | (first
    | refine wC_a rfl ?_
    | refine q_s rfl ?_
    | refine q_b rfl ?_
    | refine wG_nil ?_
    | refine wG_g rfl ?_
    | refine wG_pure (o_len_vwm rfl) ?_
    | refine wG_pure (o_not_d rfl) ?_
    | refine wG_p rfl (by first | exact rfl | omega) ?_
    | refine wG_pure (o_not rfl) ?_
    | refine wG_pure (e_ia_vw0 rfl rfl (by omega) rfl) ?_
    | refine wG_pure (e_ia_vwp rfl rfl (by omega) rfl) ?_
    | refine wG_pure (e_ia_vwm rfl rfl (by omega) (by omega) rfl) ?_
    | refine wG_pure (e_ia_vwi rfl rfl (by omega) rfl) ?_
    | refine wG_pure (e_ia_vwn rfl rfl (by omega) (by omega) rfl) ?_
    | refine wG_n rfl rfl ?_
    | refine wG_u rfl rfl ?_
    | refine wG_new (o_mks rfl rfl (by omega) (by decide)) ?_) | (first
    | refine wE_nil rfl ?_
    | refine wE_gy rfl ?_
    | refine wE_gn rfl rfl rfl ?_
    | refine wE_gu rfl rfl ?_
    | refine wE_gnn rfl rfl rfl ?_
    | refine wE_v (o_len_vwm rfl) rfl ?_
    | refine wE_v (o_not_d rfl) rfl ?_
    | refine wE_p rfl (by first | exact rfl | omega) rfl ?_
    | refine wE_v (o_not rfl) rfl ?_
    | refine wE_v (e_ia_vw0 rfl rfl (by omega) rfl) rfl ?_
    | refine wE_v (e_ia_vwp rfl rfl (by omega) rfl) rfl ?_
    | refine wE_v (e_ia_vwm rfl rfl (by omega) (by omega) rfl) rfl ?_
    | refine wE_v (e_ia_vwi rfl rfl (by omega) rfl) rfl ?_
    | refine wE_v (e_ia_vwn rfl rfl (by omega) (by omega) rfl) rfl ?_
    | refine wE_n rfl rfl rfl ?_
    | refine wE_u rfl rfl rfl ?_
    | refine wE_new (o_mks rfl rfl (by omega) (by decide)) rfl ?_) | (refine wG_gd rfl (fun hgt => ?_) (fun hgf => ?_) <;> (first | simp only [eq_true hgt, decide_true] | simp only [eq_false hgf, decide_false])) | refine wC_cond_d rfl (fun hg => ?_) (fun hg => ?_))
      all_goals (first | exact ret_boolE (.inr rfl) ⟨_, retV_mv rfl, rfl⟩ | (exfalso; omega) | trace_state)
    · have c2 := con47_no true xs hs m hG
      have c3 := con50_no true xs hs m hG
      have c5 := eqD_no
      have c6 := heldD_no
      have c7 := con33_nil 0 1
      clear hG
      unfold dNo msRow at *
      repeat' (first
        | refine wC_dregE ?_ | refine wG_call c0 rfl rfl ?_ | refine wG_call1 c1 rfl rfl ?_ | refine wG_call c1m rfl rfl ?_ | refine wG_call c3 (ag_sl rfl rfl rfl cp_plain (ag_any rfl ag_nil)) rfl ?_ | refine wG_call c4 (ag_sl rfl rfl rfl cp_plain (ag_sl rfl rfl rfl cp_plain ag_nil)) rfl ?_ | refine wG_call c5 rfl rfl ?_ | refine wG_call c6 rfl rfl ?_ | refine wG_call c7 rfl rfl ?_
        | refine wE_call1 c1 rfl rfl rfl ?_ | refine wE_call c1m rfl rfl rfl ?_ | refine wE_call c2 (ag_sl rfl rfl rfl cp_plain (ag_any rfl ag_nil)) rfl (rd_sl rfl rfl cp_plain (rd_any rfl rd_nil)) ?_ | refine wE_call c3 (ag_sl rfl rfl rfl cp_plain (ag_any rfl ag_nil)) rfl (rd_sl rfl rfl cp_plain (rd_any rfl rd_nil)) ?_
        | (refine wG_callS (f := 52) (sh52 xs 1 (by omega) (by decide) (by decide) rfl ?_) rfl ?_ <;> (repeat' (first | exact ltrI _ _ | exact ltrC _ _ | exact ltrI [] _ | exact wfH_nil | refine wfH_cons (by decide) ?_ ?_ | refine wfH_none ?_ | exact ltr_dec rfl)))
        | (first
    | refine wC_a rfl ?_
    | refine q_s rfl ?_
    | refine q_b rfl ?_
    | refine wG_nil ?_
    | refine wG_g rfl ?_
    | refine wG_pure (o_len_vwm rfl) ?_
    | refine wG_pure (o_not_d rfl) ?_
    | refine wG_p rfl (by first | exact rfl | omega) ?_
    | refine wG_pure (o_not rfl) ?_
    | refine wG_pure (e_ia_vw0 rfl rfl (by omega) rfl) ?_
    | refine wG_pure (e_ia_vwp rfl rfl (by omega) rfl) ?_
    | refine wG_pure (e_ia_vwm rfl rfl (by omega) (by omega) rfl) ?_
    | refine wG_pure (e_ia_vwi rfl rfl (by omega) rfl) ?_
    | refine wG_pure (e_ia_vwn rfl rfl (by omega) (by omega) rfl) ?_
    | refine wG_n rfl rfl ?_
    | refine wG_u rfl rfl ?_
    | refine wG_new (o_mks rfl rfl (by omega) (by decide)) ?_) | (first
    | refine wE_nil rfl ?_
    | refine wE_gy rfl ?_
    | refine wE_gn rfl rfl rfl ?_
    | refine wE_gu rfl rfl ?_
    | refine wE_gnn rfl rfl rfl ?_
    | refine wE_v (o_len_vwm rfl) rfl ?_
    | refine wE_v (o_not_d rfl) rfl ?_
    | refine wE_p rfl (by first | exact rfl | omega) rfl ?_
    | refine wE_v (o_not rfl) rfl ?_
    | refine wE_v (e_ia_vw0 rfl rfl (by omega) rfl) rfl ?_
    | refine wE_v (e_ia_vwp rfl rfl (by omega) rfl) rfl ?_
    | refine wE_v (e_ia_vwm rfl rfl (by omega) (by omega) rfl) rfl ?_
    | refine wE_v (e_ia_vwi rfl rfl (by omega) rfl) rfl ?_
    | refine wE_v (e_ia_vwn rfl rfl (by omega) (by omega) rfl) rfl ?_
    | refine wE_n rfl rfl rfl ?_
    | refine wE_u rfl rfl rfl ?_
    | refine wE_new (o_mks rfl rfl (by omega) (by decide)) rfl ?_) | (refine wG_gd rfl (fun hgt => ?_) (fun hgf => ?_) <;> (first | simp only [eq_true hgt, decide_true] | simp only [eq_false hgf, decide_false])) | refine wC_cond_d rfl (fun hg => ?_) (fun hg => ?_))
      all_goals (first | exact ret_boolE (.inr rfl) ⟨_, retV_mv rfl, rfl⟩ | (exfalso; omega) | trace_state)
  · rw [if_neg hs] at c0
    repeat' (first | refine wG_call c0 rfl rfl ?_ | (first
    | refine wC_a rfl ?_
    | refine q_s rfl ?_
    | refine q_b rfl ?_
    | refine wG_nil ?_
    | refine wG_g rfl ?_
    | refine wG_pure (o_len_vwm rfl) ?_
    | refine wG_pure (o_not_d rfl) ?_
    | refine wG_p rfl (by first | exact rfl | omega) ?_
    | refine wG_pure (o_not rfl) ?_
    | refine wG_pure (e_ia_vw0 rfl rfl (by omega) rfl) ?_
    | refine wG_pure (e_ia_vwp rfl rfl (by omega) rfl) ?_
    | refine wG_pure (e_ia_vwm rfl rfl (by omega) (by omega) rfl) ?_
    | refine wG_pure (e_ia_vwi rfl rfl (by omega) rfl) ?_
    | refine wG_pure (e_ia_vwn rfl rfl (by omega) (by omega) rfl) ?_
    | refine wG_n rfl rfl ?_
    | refine wG_u rfl rfl ?_
    | refine wG_new (o_mks rfl rfl (by omega) (by decide)) ?_) | (refine wG_gd rfl (fun hgt => ?_) (fun hgf => ?_) <;> (first | simp only [eq_true hgt, decide_true] | simp only [eq_false hgf, decide_false])) | refine wC_cond_d rfl (fun hg => ?_) (fun hg => ?_))
    all_goals (first | exact ret_boolE (.inr rfl) ⟨_, retV_mv rfl, rfl⟩ | (exfalso; omega))
end Go.Proofs.Ytdljklicegcbpaa.Cal
