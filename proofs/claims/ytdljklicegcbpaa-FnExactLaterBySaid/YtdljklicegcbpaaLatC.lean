/- The body of the law on later dates. -/
import Derived.Test.YtdljklicegcbpaaLatB
import Derived.Test.YtdljklicegcbpaaAb1
namespace Go.Proofs.Ytdljklicegcbpaa.Dst
open Go Go.Proofs.Ytdljklicegcbpaa.Ab Go.Proofs.Ytdljklicegcbpaa.Il
attribute [local irreducible] wpO wpC wpDr wpQ wpG wpE stepA seqQ blkQ Ret ev
set_option maxRecDepth 10000
set_option maxHeartbeats 8000000
set_option linter.unusedSimpArgs false
set_option linter.unusedVariables false
def ac12 : AC := (.seq (.reg [⟨(some 2), none, (.box 2 true (.t 0))⟩, ⟨(some 3), none, (.box 2 true (.t 1))⟩, ⟨(some 4), none, (.mv (.c (.bool false)))⟩]) (.seq (.reg [⟨(some 5), none, (.mv (.c (.int .i64 1048576)))⟩]) (.seq (.reg [⟨(some 17), none, (.ld true 2 (.t 2))⟩, ⟨(some 18), none, (.mv (.t 5))⟩, ⟨(some 19), none, (.call 16 [(.t 17), (.t 18)])⟩, ⟨(some 5), none, (.mv (.t 19))⟩]) (.seq (.seq (.reg [⟨(some 20), none, (.mv (.t 5))⟩, ⟨(some 21), none, (.bin .lss (.t 20) (.c (.int .i64 0)))⟩]) (.cond (.t 21) (.seq (.reg [⟨(some 4), none, (.mv (.c (.bool true)))⟩]) .ret) .skip)) (.seq (.reg [⟨(some 22), none, (.ld true 2 (.t 3))⟩, ⟨(some 23), none, (.mv (.t 5))⟩, ⟨(some 24), none, (.call 16 [(.t 22), (.t 23)])⟩, ⟨(some 5), none, (.mv (.t 24))⟩]) (.seq (.seq (.reg [⟨(some 25), none, (.mv (.t 5))⟩, ⟨(some 26), none, (.bin .lss (.t 25) (.c (.int .i64 0)))⟩]) (.cond (.t 26) (.seq (.reg [⟨(some 4), none, (.mv (.c (.bool true)))⟩]) .ret) .skip)) (.seq (.dreg [⟨(some 28), none, (.ld true 2 (.t 2))⟩, ⟨(some 29), none, (.call 18 [(.t 28)])⟩, ⟨(some 30), none, (.ld true 2 (.t 3))⟩, ⟨(some 31), none, (.call 18 [(.t 30)])⟩, ⟨(some 32), none, (.call 42 [(.t 29), (.t 31)])⟩, ⟨(some 27), none, (.mv (.t 32))⟩, ⟨(some 33), none, (.ext (.t 27) 0)⟩, ⟨(some 34), none, (.ext (.t 27) 1)⟩, ⟨(some 6), none, (.alloc [(.int .i64 0), .nilS])⟩, ⟨none, none, (.st 2 (.t 6) (.t 33))⟩, ⟨(some 7), none, (.mv (.t 34))⟩] [[], [0], [], [0, 1, 2], [0, 1, 2, 3], [0, 1, 2, 3, 4], [0, 1, 2, 3, 4, 5], [0, 1, 2, 3, 4, 5], [], [0, 1, 2, 3, 4, 5, 6, 8], [0, 1, 2, 3, 4, 5, 6, 7, 8, 9]]) (.seq (.reg [⟨(some 35), none, (.ld true 2 (.t 2))⟩, ⟨(some 36), none, (.call 18 [(.t 35)])⟩, ⟨(some 8), none, (.alloc [(.int .i64 0), .nilS])⟩, ⟨none, none, (.st 2 (.t 8) (.t 36))⟩]) (.seq (.reg [⟨(some 37), none, (.ld true 2 (.t 3))⟩, ⟨(some 38), none, (.call 18 [(.t 37)])⟩, ⟨(some 9), none, (.alloc [(.int .i64 0), .nilS])⟩, ⟨none, none, (.st 2 (.t 9) (.t 38))⟩]) (.seq (.reg [⟨(some 40), none, (.ld true 2 (.t 8))⟩, ⟨(some 41), none, (.ld true 2 (.t 9))⟩, ⟨(some 42), none, (.call 43 [(.t 40), (.t 41)])⟩, ⟨(some 39), none, (.mv (.t 42))⟩, ⟨(some 43), none, (.ext (.t 39) 0)⟩, ⟨(some 44), none, (.ext (.t 39) 1)⟩, ⟨(some 10), none, (.alloc [(.int .i64 0), .nilS])⟩, ⟨none, none, (.st 2 (.t 10) (.t 43))⟩, ⟨(some 11), none, (.mv (.t 44))⟩]) (.seq (.seq (.reg [⟨(some 45), none, (.ld true 2 (.t 10))⟩, ⟨(some 46), none, (.ld true 2 (.t 6))⟩, ⟨(some 47), none, (.call 20 [(.t 45), (.t 46)])⟩, ⟨(some 48), none, (.un .not (.t 47))⟩, ⟨(some 49), none, (.mv (.t 48))⟩, ⟨(some 50), (some (49, false)), (.mv (.t 11))⟩, ⟨(some 51), (some (49, false)), (.mv (.t 7))⟩, ⟨(some 52), (some (49, false)), (.bool2 true (.t 50) (.t 51))⟩, ⟨(some 53), none, (.pick (.t 49) (.c (.bool true)) (.t 52))⟩]) (.cond (.t 53) (.seq (.reg [⟨(some 4), none, (.mv (.c (.bool false)))⟩]) .ret) .skip)) (.seq (.seq (.dreg [⟨(some 54), none, (.ld true 2 (.t 8))⟩, ⟨(some 55), none, (.ld true 2 (.t 2))⟩, ⟨(some 56), none, (.call 18 [(.t 55)])⟩, ⟨(some 57), none, (.call 20 [(.t 54), (.t 56)])⟩, ⟨(some 58), none, (.un .not (.t 57))⟩] [[], [], [1], [0, 1, 2], [0, 1, 2, 3]]) (.cond (.t 58) (.seq (.reg [⟨(some 4), none, (.mv (.c (.bool false)))⟩]) .ret) .skip)) (.seq (.seq (.dreg [⟨(some 59), none, (.ld true 2 (.t 9))⟩, ⟨(some 60), none, (.ld true 2 (.t 3))⟩, ⟨(some 61), none, (.call 18 [(.t 60)])⟩, ⟨(some 62), none, (.call 20 [(.t 59), (.t 61)])⟩, ⟨(some 63), none, (.un .not (.t 62))⟩] [[], [], [1], [0, 1, 2], [0, 1, 2, 3]]) (.cond (.t 63) (.seq (.reg [⟨(some 4), none, (.mv (.c (.bool false)))⟩]) .ret) .skip)) (.seq (.reg [⟨(some 12), none, (.mv (.c (.int .i64 1)))⟩]) (.seq (.reg [⟨(some 64), none, (.ld true 2 (.t 8))⟩, ⟨(some 65), none, (.mv (.t 12))⟩, ⟨(some 66), none, (.call 33 [(.t 64), (.t 65)])⟩, ⟨(some 12), none, (.mv (.t 66))⟩]) (.seq (.reg [⟨(some 67), none, (.ld true 2 (.t 9))⟩, ⟨(some 68), none, (.mv (.t 12))⟩, ⟨(some 69), none, (.call 33 [(.t 67), (.t 68)])⟩, ⟨(some 12), none, (.mv (.t 69))⟩]) (.seq (.seq (.reg [⟨(some 70), none, (.mv (.t 12))⟩, ⟨(some 71), none, (.bin .lss (.t 70) (.c (.int .i64 0)))⟩, ⟨(some 72), none, (.mv (.t 71))⟩, ⟨(some 73), (some (72, false)), (.ld true 2 (.t 10))⟩, ⟨(some 74), (some (72, false)), (.ld true 2 (.t 6))⟩, ⟨(some 75), (some (72, false)), (.call 20 [(.t 73), (.t 74)])⟩, ⟨(some 76), (some (72, false)), (.un .not (.t 75))⟩, ⟨(some 77), none, (.pick (.t 72) (.c (.bool true)) (.t 76))⟩, ⟨(some 78), none, (.mv (.t 77))⟩, ⟨(some 79), (some (78, false)), (.mv (.t 11))⟩, ⟨(some 80), (some (78, false)), (.mv (.t 7))⟩, ⟨(some 81), (some (78, false)), (.bool2 true (.t 79) (.t 80))⟩, ⟨(some 82), none, (.pick (.t 78) (.c (.bool true)) (.t 81))⟩]) (.cond (.t 82) (.seq (.reg [⟨(some 4), none, (.mv (.c (.bool false)))⟩]) .ret) .skip)) (.seq (.reg [⟨(some 13), none, (.mv (.c (.int .i64 1)))⟩]) (.seq (.reg [⟨(some 83), none, (.ld true 2 (.t 10))⟩, ⟨(some 84), none, (.mv (.t 13))⟩, ⟨(some 85), none, (.call 33 [(.t 83), (.t 84)])⟩, ⟨(some 13), none, (.mv (.t 85))⟩]) (.seq (.reg [⟨(some 14), none, (.mv (.c (.int .i64 1)))⟩]) (.seq (.reg [⟨(some 86), none, (.ld true 2 (.t 10))⟩, ⟨(some 87), none, (.mv (.t 14))⟩, ⟨(some 88), none, (.call 34 [(.t 86), (.t 87)])⟩, ⟨(some 14), none, (.mv (.t 88))⟩]) (.seq (.seq (.reg [⟨(some 89), none, (.mv (.t 14))⟩, ⟨(some 90), none, (.bin .lss (.t 89) (.c (.int .i64 0)))⟩]) (.cond (.t 90) (.seq (.reg [⟨(some 4), none, (.mv (.c (.bool false)))⟩]) .ret) .skip)) (.seq (.seq (.reg [⟨(some 91), none, (.mv (.t 14))⟩, ⟨(some 92), none, (.mv (.t 13))⟩, ⟨(some 93), none, (.bin .neq (.t 91) (.t 92))⟩]) (.cond (.t 93) (.seq (.reg [⟨(some 4), none, (.mv (.c (.bool false)))⟩]) .ret) .skip)) (.seq (.dreg [⟨(some 95), none, (.ld true 2 (.t 2))⟩, ⟨(some 96), none, (.call 18 [(.t 95)])⟩, ⟨(some 97), none, (.ld true 2 (.t 3))⟩, ⟨(some 98), none, (.call 18 [(.t 97)])⟩, ⟨(some 99), none, (.call 43 [(.t 96), (.t 98)])⟩, ⟨(some 94), none, (.mv (.t 99))⟩, ⟨(some 100), none, (.ext (.t 94) 0)⟩, ⟨(some 101), none, (.ext (.t 94) 1)⟩, ⟨(some 15), none, (.alloc [(.int .i64 0), .nilS])⟩, ⟨none, none, (.st 2 (.t 15) (.t 100))⟩, ⟨(some 16), none, (.mv (.t 101))⟩] [[], [0], [], [0, 1, 2], [0, 1, 2, 3], [0, 1, 2, 3, 4], [0, 1, 2, 3, 4, 5], [0, 1, 2, 3, 4, 5], [], [0, 1, 2, 3, 4, 5, 6, 8], [0, 1, 2, 3, 4, 5, 6, 7, 8, 9]]) (.seq (.seq (.reg [⟨(some 102), none, (.ld true 2 (.t 15))⟩, ⟨(some 103), none, (.ld true 2 (.t 6))⟩, ⟨(some 104), none, (.call 20 [(.t 102), (.t 103)])⟩, ⟨(some 105), none, (.un .not (.t 104))⟩, ⟨(some 106), none, (.mv (.t 105))⟩, ⟨(some 107), (some (106, false)), (.mv (.t 16))⟩, ⟨(some 108), (some (106, false)), (.mv (.t 7))⟩, ⟨(some 109), (some (106, false)), (.bool2 true (.t 107) (.t 108))⟩, ⟨(some 110), none, (.pick (.t 106) (.c (.bool true)) (.t 109))⟩]) (.cond (.t 110) (.seq (.reg [⟨(some 4), none, (.mv (.c (.bool false)))⟩]) .ret) .skip)) (.seq (.reg [⟨(some 14), none, (.mv (.c (.int .i64 1)))⟩]) (.seq (.reg [⟨(some 111), none, (.ld true 2 (.t 10))⟩, ⟨(some 112), none, (.mv (.t 14))⟩, ⟨(some 113), none, (.call 34 [(.t 111), (.t 112)])⟩, ⟨(some 14), none, (.mv (.t 113))⟩]) (.seq (.seq (.reg [⟨(some 114), none, (.mv (.t 14))⟩, ⟨(some 115), none, (.bin .lss (.t 114) (.c (.int .i64 0)))⟩]) (.cond (.t 115) (.seq (.reg [⟨(some 4), none, (.mv (.c (.bool false)))⟩]) .ret) .skip)) (.seq (.seq (.reg [⟨(some 116), none, (.mv (.t 14))⟩, ⟨(some 117), none, (.mv (.t 13))⟩, ⟨(some 118), none, (.bin .neq (.t 116) (.t 117))⟩]) (.cond (.t 118) (.seq (.reg [⟨(some 4), none, (.mv (.c (.bool false)))⟩]) .ret) .skip)) (.seq (.reg [⟨(some 4), none, (.mv (.c (.bool true)))⟩]) .ret))))))))))))))))))))))))))))))
def ro12 : List AOp := [(.mv (.t 4))]
theorem fun12 : Fun Try.prog 12 119 ac12 ro12 := ⟨Try.f12, _, Try.func12, by kernel_rfl, rfl, rfl, by kernel_rfl, by kernel_rfl, by decide⟩
theorem con12 (nn mm : Bool) (a b : Ds) (h1 : a.ws.length ≤ 9223372036854775807) (h2 : b.ws.length ≤ 9223372036854775807) : Con Try.prog 12 true [.agg (dRow nn a), .agg (dRow mm b)] (.bool true) [] := by
  refine con_of_wp mixed fun12 (by simp) [] plain_nil ?_
  unfold ac12 ro12
  simp only [zipT]
  have ca := con16 nn a h1 1048576 (by decide) (by decide)
  by_cases hs : (a.ws.length : Int) ≤ 1048576
  · rw [if_pos hs] at ca
    have cb := con16 mm b h2 (1048576 - (a.ws.length : Int)) (by omega) (by omega)
    by_cases ht : (b.ws.length : Int) ≤ 1048576 - (a.ws.length : Int)
    · rw [if_pos ht] at cb
      have hs' : a.ws.length ≤ 1048576 := by omega
      have ht' : b.ws.length ≤ 1048576 := by omega
      have c1 := con18 nn a hs'
      have c1b := con18 mm b ht'
      have c4 := con20_same true true a hs'
      have c4b := con20_same true true b ht'
      have sa := fun k h0 h1 h nr r => @sh33 a k hs' h0 h1 h nr r
      have sb := fun k h0 h1 h nr r => @sh33 b k ht' h0 h1 h nr r
      by_cases hG : laOK a b
      · have c2 := con42_yes true true a b hs' ht' hG
        have c3 := con43_yes true true a b hs' ht' hG
        have hl := hG.2.2.len
        generalize mkO (laF a b) (laL a b) = e at *
        have hd : e.ws.length ≤ 1048576 := by omega
        have c5 := con20_same true true e hd
        have c6 := con34 true e.f e.ws.length 1 hd (by decide) (by decide)
        have sm := fun h nr r => @sh33 e 1 hd (by decide) (by decide) h nr r
        clear hG
        obtain ⟨fa, wa⟩ := a
        obtain ⟨fb, wb⟩ := b
        obtain ⟨g, vs⟩ := e
        unfold dYes dRow at *
        simp only at *
        repeat' (first
          | refine wC_dregE ?_ | refine wG_call ca rfl rfl ?_ | refine wG_call cb rfl rfl ?_ | refine wG_call1 c1 rfl rfl ?_ | refine wG_call1 c1b rfl rfl ?_ | refine wG_call1 c3 (ag_is rfl rfl rfl iRow_plain (ag_is rfl rfl rfl iRow_plain ag_nil)) rfl ?_ | refine wG_call c5 (ag_is rfl rfl rfl iRow_plain (ag_is rfl rfl rfl iRow_plain ag_nil)) rfl ?_ | refine wG_call c6 (ag_is rfl rfl (mks_len _ _).symm iRow_plain (ag_int rfl ag_nil)) rfl ?_
          | refine wE_call1 c1 rfl rfl rfl ?_ | refine wE_call1 c1b rfl rfl rfl ?_ | refine wE_call1 c2 (ag_is rfl rfl rfl iRow_plain (ag_is rfl rfl rfl iRow_plain ag_nil)) rfl (rd_is rfl rfl iRow_plain (rd_is rfl rfl iRow_plain rd_nil)) ?_ | refine wE_call1 c3 (ag_is rfl rfl rfl iRow_plain (ag_is rfl rfl rfl iRow_plain ag_nil)) rfl (rd_is rfl rfl iRow_plain (rd_is rfl rfl iRow_plain rd_nil)) ?_ | refine wE_call c4 (ag_is rfl rfl rfl iRow_plain (ag_is rfl rfl rfl iRow_plain ag_nil)) rfl rfl ?_ | refine wE_call c4b (ag_is rfl rfl rfl iRow_plain (ag_is rfl rfl rfl iRow_plain ag_nil)) rfl rfl ?_ | refine wE_call c5 (ag_is rfl rfl rfl iRow_plain (ag_is rfl rfl rfl iRow_plain ag_nil)) rfl rfl ?_
          | (refine wG_callS (f := 33) (sa _ (by omega) (by omega) _ _ _ rfl ?_) rfl ?_ <;> (repeat' (first | exact ltrI _ _ | exact ltrC _ _ | exact ltrI [] _ | exact wfH_nil | refine wfH_cons (by decide) ?_ ?_ | refine wfH_none ?_ | exact ltr_dec rfl)))
          | (refine wG_callS (f := 33) (sb _ (by omega) (by omega) _ _ _ rfl ?_) rfl ?_ <;> (repeat' (first | exact ltrI _ _ | exact ltrC _ _ | exact ltrI [] _ | exact wfH_nil | refine wfH_cons (by decide) ?_ ?_ | refine wfH_none ?_ | exact ltr_dec rfl)))
          | (refine wG_callS (f := 33) (sm _ _ _ rfl ?_) rfl ?_ <;> (repeat' (first | exact ltrI _ _ | exact ltrC _ _ | exact ltrI [] _ | exact wfH_nil | refine wfH_cons (by decide) ?_ ?_ | refine wfH_none ?_ | exact ltr_dec rfl)))
          | (first
    | refine wC_a rfl ?_
    | refine q_s rfl ?_
    | refine q_b rfl ?_
    | refine wG_nil ?_
    | refine wG_g rfl ?_
    | refine wG_pure (o_len_vwm rfl) ?_
    | refine wG_pure (o_not_d rfl) ?_
    | refine wG_p rfl (by first | exact rfl | omega) ?_
    | refine wG_pure (o_not rfl) ?_
    | refine wG_pure (e_ia_vw0 rfl rfl (by omega) rfl) ?_
    | refine wG_pure (e_ia_vwp rfl rfl (by omega) rfl) ?_
    | refine wG_pure (e_ia_vwm rfl rfl (by omega) (by omega) rfl) ?_
    | refine wG_pure (e_ia_vwi rfl rfl (by omega) rfl) ?_
    | refine wG_pure (e_ia_vwn rfl rfl (by omega) (by omega) rfl) ?_
    | refine wG_n rfl rfl ?_
    | refine wG_u rfl rfl ?_
    | refine wG_new (o_mks rfl rfl (by omega) (by decide)) ?_) | (first
    | refine wE_nil rfl ?_
    | refine wE_gy rfl ?_
    | refine wE_gn rfl rfl rfl ?_
    | refine wE_gu rfl rfl ?_
    | refine wE_gnn rfl rfl rfl ?_
    | refine wE_v (o_len_vwm rfl) rfl ?_
    | refine wE_v (o_not_d rfl) rfl ?_
    | refine wE_p rfl (by first | exact rfl | omega) rfl ?_
    | refine wE_v (o_not rfl) rfl ?_
    | refine wE_v (e_ia_vw0 rfl rfl (by omega) rfl) rfl ?_
    | refine wE_v (e_ia_vwp rfl rfl (by omega) rfl) rfl ?_
    | refine wE_v (e_ia_vwm rfl rfl (by omega) (by omega) rfl) rfl ?_
    | refine wE_v (e_ia_vwi rfl rfl (by omega) rfl) rfl ?_
    | refine wE_v (e_ia_vwn rfl rfl (by omega) (by omega) rfl) rfl ?_
    | refine wE_n rfl rfl rfl ?_
    | refine wE_u rfl rfl rfl ?_
    | refine wE_new (o_mks rfl rfl (by omega) (by decide)) rfl ?_) | (refine wG_gd rfl (fun hgt => ?_) (fun hgf => ?_) <;> (first | simp only [eq_true hgt, decide_true] | simp only [eq_false hgf, decide_false])) | refine wC_cond_d rfl (fun hg => ?_) (fun hg => ?_))
        all_goals (first | exact ret_boolE (.inr rfl) ⟨_, retV_mv rfl, rfl⟩ | (exfalso; omega) | trace_state)
      · have c2 := con42_no true true a b hs' ht' hG
        have c3 := con43_no true true a b hs' ht' hG
        have c5 := eqD_no
        have c6 := heldD_no
        have c7 := con33_nil 0 1
        clear hG
        obtain ⟨fa, wa⟩ := a
        obtain ⟨fb, wb⟩ := b
        unfold dNo dRow at *
        simp only at *
        repeat' (first
          | refine wC_dregE ?_ | refine wG_call ca rfl rfl ?_ | refine wG_call cb rfl rfl ?_ | refine wG_call1 c1 rfl rfl ?_ | refine wG_call1 c1b rfl rfl ?_ | refine wG_call c3 (ag_is rfl rfl rfl iRow_plain (ag_is rfl rfl rfl iRow_plain ag_nil)) rfl ?_ | refine wG_call c5 rfl rfl ?_ | refine wG_call c6 rfl rfl ?_ | refine wG_call c7 rfl rfl ?_
          | refine wE_call1 c1 rfl rfl rfl ?_ | refine wE_call1 c1b rfl rfl rfl ?_ | refine wE_call c2 (ag_is rfl rfl rfl iRow_plain (ag_is rfl rfl rfl iRow_plain ag_nil)) rfl (rd_is rfl rfl iRow_plain (rd_is rfl rfl iRow_plain rd_nil)) ?_ | refine wE_call c3 (ag_is rfl rfl rfl iRow_plain (ag_is rfl rfl rfl iRow_plain ag_nil)) rfl (rd_is rfl rfl iRow_plain (rd_is rfl rfl iRow_plain rd_nil)) ?_ | refine wE_call c4 (ag_is rfl rfl rfl iRow_plain (ag_is rfl rfl rfl iRow_plain ag_nil)) rfl rfl ?_ | refine wE_call c4b (ag_is rfl rfl rfl iRow_plain (ag_is rfl rfl rfl iRow_plain ag_nil)) rfl rfl ?_ | refine wE_call c5 rfl rfl rfl ?_
          | (refine wG_callS (f := 33) (sa _ (by omega) (by omega) _ _ _ rfl ?_) rfl ?_ <;> (repeat' (first | exact ltrI _ _ | exact ltrC _ _ | exact ltrI [] _ | exact wfH_nil | refine wfH_cons (by decide) ?_ ?_ | refine wfH_none ?_ | exact ltr_dec rfl)))
          | (refine wG_callS (f := 33) (sb _ (by omega) (by omega) _ _ _ rfl ?_) rfl ?_ <;> (repeat' (first | exact ltrI _ _ | exact ltrC _ _ | exact ltrI [] _ | exact wfH_nil | refine wfH_cons (by decide) ?_ ?_ | refine wfH_none ?_ | exact ltr_dec rfl)))
          | (first
    | refine wC_a rfl ?_
    | refine q_s rfl ?_
    | refine q_b rfl ?_
    | refine wG_nil ?_
    | refine wG_g rfl ?_
    | refine wG_pure (o_len_vwm rfl) ?_
    | refine wG_pure (o_not_d rfl) ?_
    | refine wG_p rfl (by first | exact rfl | omega) ?_
    | refine wG_pure (o_not rfl) ?_
    | refine wG_pure (e_ia_vw0 rfl rfl (by omega) rfl) ?_
    | refine wG_pure (e_ia_vwp rfl rfl (by omega) rfl) ?_
    | refine wG_pure (e_ia_vwm rfl rfl (by omega) (by omega) rfl) ?_
    | refine wG_pure (e_ia_vwi rfl rfl (by omega) rfl) ?_
    | refine wG_pure (e_ia_vwn rfl rfl (by omega) (by omega) rfl) ?_
    | refine wG_n rfl rfl ?_
    | refine wG_u rfl rfl ?_
    | refine wG_new (o_mks rfl rfl (by omega) (by decide)) ?_) | (first
    | refine wE_nil rfl ?_
    | refine wE_gy rfl ?_
    | refine wE_gn rfl rfl rfl ?_
    | refine wE_gu rfl rfl ?_
    | refine wE_gnn rfl rfl rfl ?_
    | refine wE_v (o_len_vwm rfl) rfl ?_
    | refine wE_v (o_not_d rfl) rfl ?_
    | refine wE_p rfl (by first | exact rfl | omega) rfl ?_
    | refine wE_v (o_not rfl) rfl ?_
    | refine wE_v (e_ia_vw0 rfl rfl (by omega) rfl) rfl ?_
    | refine wE_v (e_ia_vwp rfl rfl (by omega) rfl) rfl ?_
    | refine wE_v (e_ia_vwm rfl rfl (by omega) (by omega) rfl) rfl ?_
    | refine wE_v (e_ia_vwi rfl rfl (by omega) rfl) rfl ?_
    | refine wE_v (e_ia_vwn rfl rfl (by omega) (by omega) rfl) rfl ?_
    | refine wE_n rfl rfl rfl ?_
    | refine wE_u rfl rfl rfl ?_
    | refine wE_new (o_mks rfl rfl (by omega) (by decide)) rfl ?_) | (refine wG_gd rfl (fun hgt => ?_) (fun hgf => ?_) <;> (first | simp only [eq_true hgt, decide_true] | simp only [eq_false hgf, decide_false])) | refine wC_cond_d rfl (fun hg => ?_) (fun hg => ?_))
        all_goals (first | exact ret_boolE (.inr rfl) ⟨_, retV_mv rfl, rfl⟩ | (exfalso; omega) | trace_state)
    · rw [if_neg ht] at cb
      repeat' (first | refine wG_call ca rfl rfl ?_ | refine wG_call cb rfl rfl ?_ | (first
    | refine wC_a rfl ?_
    | refine q_s rfl ?_
    | refine q_b rfl ?_
    | refine wG_nil ?_
    | refine wG_g rfl ?_
    | refine wG_pure (o_len_vwm rfl) ?_
    | refine wG_pure (o_not_d rfl) ?_
    | refine wG_p rfl (by first | exact rfl | omega) ?_
    | refine wG_pure (o_not rfl) ?_
    | refine wG_pure (e_ia_vw0 rfl rfl (by omega) rfl) ?_
    | refine wG_pure (e_ia_vwp rfl rfl (by omega) rfl) ?_
    | refine wG_pure (e_ia_vwm rfl rfl (by omega) (by omega) rfl) ?_
    | refine wG_pure (e_ia_vwi rfl rfl (by omega) rfl) ?_
    | refine wG_pure (e_ia_vwn rfl rfl (by omega) (by omega) rfl) ?_
    | refine wG_n rfl rfl ?_
    | refine wG_u rfl rfl ?_
    | refine wG_new (o_mks rfl rfl (by omega) (by decide)) ?_) | (refine wG_gd rfl (fun hgt => ?_) (fun hgf => ?_) <;> (first | simp only [eq_true hgt, decide_true] | simp only [eq_false hgf, decide_false])) | refine wC_cond_d rfl (fun hg => ?_) (fun hg => ?_))
      all_goals (first | exact ret_boolE (.inr rfl) ⟨_, retV_mv rfl, rfl⟩ | (exfalso; omega))
  · rw [if_neg hs] at ca
    repeat (first | refine wG_call ca rfl rfl ?_ | (first
    | refine wC_a rfl ?_
    | refine q_s rfl ?_
    | refine q_b rfl ?_
    | refine wG_nil ?_
    | refine wG_g rfl ?_
    | refine wG_pure (o_len_vwm rfl) ?_
    | refine wG_pure (o_not_d rfl) ?_
    | refine wG_p rfl (by first | exact rfl | omega) ?_
    | refine wG_pure (o_not rfl) ?_
    | refine wG_pure (e_ia_vw0 rfl rfl (by omega) rfl) ?_
    | refine wG_pure (e_ia_vwp rfl rfl (by omega) rfl) ?_
    | refine wG_pure (e_ia_vwm rfl rfl (by omega) (by omega) rfl) ?_
    | refine wG_pure (e_ia_vwi rfl rfl (by omega) rfl) ?_
    | refine wG_pure (e_ia_vwn rfl rfl (by omega) (by omega) rfl) ?_
    | refine wG_n rfl rfl ?_
    | refine wG_u rfl rfl ?_
    | refine wG_new (o_mks rfl rfl (by omega) (by decide)) ?_))
    exact ret_boolE (.inr rfl) ⟨_, retV_mv rfl, rfl⟩
end Go.Proofs.Ytdljklicegcbpaa.Dst
