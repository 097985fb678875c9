/- The law on decisive evidence. -/
import Derived.Test.YtencmeleapmjnaaDecD
import Derived.Test.YtencmeleapmjnaaDecG
namespace Go.Proofs.Ytencmeleapmjnaa.Rec
open Go Go.Proofs.Ytencmeleapmjnaa.Ab Go.Proofs.Ytencmeleapmjnaa.Il
attribute [local irreducible] wpO wpC wpDr wpQ wpG wpE stepA seqQ blkQ Ret RetG ev
set_option maxRecDepth 10000
set_option maxHeartbeats 8000000
set_option linter.unusedSimpArgs false
set_option linter.unusedVariables false

def ac3 : AC := (.seq (.reg [⟨(some 2), none, (.box 2 true (.t 0))⟩, ⟨(some 4), none, (.mv (.c (.bool false)))⟩]) (.seq (.reg [⟨(some 5), none, (.mv (.c (.int .i64 1048576)))⟩]) (.seq (.reg [⟨(some 17), none, (.ld true 2 (.t 2))⟩, ⟨(some 18), none, (.mv (.t 5))⟩, ⟨(some 19), none, (.call 7 [(.t 17), (.t 18)])⟩, ⟨(some 5), none, (.mv (.t 19))⟩]) (.seq (.seq (.reg [⟨(some 20), none, (.mv (.t 5))⟩, ⟨(some 21), none, (.bin .lss (.t 20) (.c (.int .i64 0)))⟩]) (.cond (.t 21) (.seq (.reg [⟨(some 4), none, (.mv (.c (.bool true)))⟩]) .ret) .skip)) (.seq (.reg [⟨(some 22), none, (.mv (.t 1))⟩, ⟨(some 23), none, (.mv (.t 5))⟩, ⟨(some 24), none, (.call 8 [(.t 22), (.t 23)])⟩, ⟨(some 5), none, (.mv (.t 24))⟩]) (.seq (.seq (.reg [⟨(some 25), none, (.mv (.t 5))⟩, ⟨(some 26), none, (.bin .lss (.t 25) (.c (.int .i64 0)))⟩]) (.cond (.t 26) (.seq (.reg [⟨(some 4), none, (.mv (.c (.bool true)))⟩]) .ret) .skip)) (.seq (.reg [⟨(some 28), none, (.ld true 2 (.t 2))⟩, ⟨(some 29), none, (.call 10 [(.t 28)])⟩, ⟨(some 30), none, (.mv (.t 1))⟩, ⟨(some 31), none, (.call 11 [(.t 30)])⟩, ⟨(some 32), none, (.call 9 [(.t 29), (.t 31)])⟩, ⟨(some 27), none, (.mv (.t 32))⟩, ⟨(some 33), none, (.ext (.t 27) 0)⟩, ⟨(some 34), none, (.ext (.t 27) 1)⟩, ⟨(some 6), none, (.mv (.t 33))⟩, ⟨(some 7), none, (.mv (.t 34))⟩]) (.seq (.reg [⟨(some 35), none, (.ld true 2 (.t 2))⟩, ⟨(some 36), none, (.call 10 [(.t 35)])⟩, ⟨(some 8), none, (.alloc [.nilS, .nilS])⟩, ⟨none, none, (.st 2 (.t 8) (.t 36))⟩]) (.seq (.reg [⟨(some 37), none, (.mv (.t 1))⟩, ⟨(some 38), none, (.call 11 [(.t 37)])⟩, ⟨(some 9), none, (.mv (.t 38))⟩]) (.seq (.reg [⟨(some 40), none, (.ld true 2 (.t 8))⟩, ⟨(some 41), none, (.mv (.t 9))⟩, ⟨(some 42), none, (.call 12 [(.t 40), (.t 41)])⟩, ⟨(some 39), none, (.mv (.t 42))⟩, ⟨(some 43), none, (.ext (.t 39) 0)⟩, ⟨(some 44), none, (.ext (.t 39) 1)⟩, ⟨(some 10), none, (.mv (.t 43))⟩, ⟨(some 11), none, (.mv (.t 44))⟩]) (.seq (.seq (.reg [⟨(some 45), none, (.mv (.t 10))⟩, ⟨(some 46), none, (.mv (.t 6))⟩, ⟨(some 47), none, (.call 13 [(.t 45), (.t 46)])⟩, ⟨(some 48), none, (.un .not (.t 47))⟩, ⟨(some 49), none, (.mv (.t 48))⟩, ⟨(some 50), (some (49, false)), (.mv (.t 11))⟩, ⟨(some 51), (some (49, false)), (.mv (.t 7))⟩, ⟨(some 52), (some (49, false)), (.bool2 true (.t 50) (.t 51))⟩, ⟨(some 53), none, (.pick (.t 49) (.c (.bool true)) (.t 52))⟩]) (.cond (.t 53) (.seq (.reg [⟨(some 4), none, (.mv (.c (.bool false)))⟩]) .ret) .skip)) (.seq (.seq (.dreg [⟨(some 54), none, (.ld true 2 (.t 8))⟩, ⟨(some 55), none, (.ld true 2 (.t 2))⟩, ⟨(some 56), none, (.call 10 [(.t 55)])⟩, ⟨(some 57), none, (.call 14 [(.t 54), (.t 56)])⟩, ⟨(some 58), none, (.un .not (.t 57))⟩] [[], [], [1], [0, 1, 2], [0, 1, 2, 3]]) (.cond (.t 58) (.seq (.reg [⟨(some 4), none, (.mv (.c (.bool false)))⟩]) .ret) .skip)) (.seq (.seq (.reg [⟨(some 59), none, (.mv (.t 9))⟩, ⟨(some 60), none, (.mv (.t 1))⟩, ⟨(some 61), none, (.call 11 [(.t 60)])⟩, ⟨(some 62), none, (.call 15 [(.t 59), (.t 61)])⟩, ⟨(some 63), none, (.un .not (.t 62))⟩]) (.cond (.t 63) (.seq (.reg [⟨(some 4), none, (.mv (.c (.bool false)))⟩]) .ret) .skip)) (.seq (.reg [⟨(some 12), none, (.mv (.c (.int .i64 1)))⟩]) (.seq (.reg [⟨(some 64), none, (.ld true 2 (.t 8))⟩, ⟨(some 65), none, (.mv (.t 12))⟩, ⟨(some 66), none, (.call 16 [(.t 64), (.t 65)])⟩, ⟨(some 12), none, (.mv (.t 66))⟩]) (.seq (.reg [⟨(some 67), none, (.mv (.t 9))⟩, ⟨(some 68), none, (.mv (.t 12))⟩, ⟨(some 69), none, (.call 17 [(.t 67), (.t 68)])⟩, ⟨(some 12), none, (.mv (.t 69))⟩]) (.seq (.seq (.reg [⟨(some 70), none, (.mv (.t 12))⟩, ⟨(some 71), none, (.bin .lss (.t 70) (.c (.int .i64 0)))⟩, ⟨(some 72), none, (.mv (.t 71))⟩, ⟨(some 73), (some (72, false)), (.mv (.t 10))⟩, ⟨(some 74), (some (72, false)), (.mv (.t 6))⟩, ⟨(some 75), (some (72, false)), (.call 13 [(.t 73), (.t 74)])⟩, ⟨(some 76), (some (72, false)), (.un .not (.t 75))⟩, ⟨(some 77), none, (.pick (.t 72) (.c (.bool true)) (.t 76))⟩, ⟨(some 78), none, (.mv (.t 77))⟩, ⟨(some 79), (some (78, false)), (.mv (.t 11))⟩, ⟨(some 80), (some (78, false)), (.mv (.t 7))⟩, ⟨(some 81), (some (78, false)), (.bool2 true (.t 79) (.t 80))⟩, ⟨(some 82), none, (.pick (.t 78) (.c (.bool true)) (.t 81))⟩]) (.cond (.t 82) (.seq (.reg [⟨(some 4), none, (.mv (.c (.bool false)))⟩]) .ret) .skip)) (.seq (.reg [⟨(some 13), none, (.mv (.c (.int .i64 1)))⟩]) (.seq (.reg [⟨(some 83), none, (.mv (.t 10))⟩, ⟨(some 84), none, (.mv (.t 13))⟩, ⟨(some 85), none, (.call 18 [(.t 83), (.t 84)])⟩, ⟨(some 13), none, (.mv (.t 85))⟩]) (.seq (.reg [⟨(some 14), none, (.mv (.c (.int .i64 1)))⟩]) (.seq (.reg [⟨(some 86), none, (.mv (.t 10))⟩, ⟨(some 87), none, (.mv (.t 14))⟩, ⟨(some 88), none, (.call 19 [(.t 86), (.t 87)])⟩, ⟨(some 14), none, (.mv (.t 88))⟩]) (.seq (.seq (.reg [⟨(some 89), none, (.mv (.t 14))⟩, ⟨(some 90), none, (.bin .lss (.t 89) (.c (.int .i64 0)))⟩]) (.cond (.t 90) (.seq (.reg [⟨(some 4), none, (.mv (.c (.bool false)))⟩]) .ret) .skip)) (.seq (.seq (.reg [⟨(some 91), none, (.mv (.t 14))⟩, ⟨(some 92), none, (.mv (.t 13))⟩, ⟨(some 93), none, (.bin .neq (.t 91) (.t 92))⟩]) (.cond (.t 93) (.seq (.reg [⟨(some 4), none, (.mv (.c (.bool false)))⟩]) .ret) .skip)) (.seq (.reg [⟨(some 95), none, (.ld true 2 (.t 2))⟩, ⟨(some 96), none, (.call 10 [(.t 95)])⟩, ⟨(some 97), none, (.mv (.t 1))⟩, ⟨(some 98), none, (.call 11 [(.t 97)])⟩, ⟨(some 99), none, (.call 12 [(.t 96), (.t 98)])⟩, ⟨(some 94), none, (.mv (.t 99))⟩, ⟨(some 100), none, (.ext (.t 94) 0)⟩, ⟨(some 101), none, (.ext (.t 94) 1)⟩, ⟨(some 15), none, (.mv (.t 100))⟩, ⟨(some 16), none, (.mv (.t 101))⟩]) (.seq (.seq (.reg [⟨(some 102), none, (.mv (.t 15))⟩, ⟨(some 103), none, (.mv (.t 6))⟩, ⟨(some 104), none, (.call 13 [(.t 102), (.t 103)])⟩, ⟨(some 105), none, (.un .not (.t 104))⟩, ⟨(some 106), none, (.mv (.t 105))⟩, ⟨(some 107), (some (106, false)), (.mv (.t 16))⟩, ⟨(some 108), (some (106, false)), (.mv (.t 7))⟩, ⟨(some 109), (some (106, false)), (.bool2 true (.t 107) (.t 108))⟩, ⟨(some 110), none, (.pick (.t 106) (.c (.bool true)) (.t 109))⟩]) (.cond (.t 110) (.seq (.reg [⟨(some 4), none, (.mv (.c (.bool false)))⟩]) .ret) .skip)) (.seq (.reg [⟨(some 14), none, (.mv (.c (.int .i64 1)))⟩]) (.seq (.reg [⟨(some 111), none, (.mv (.t 10))⟩, ⟨(some 112), none, (.mv (.t 14))⟩, ⟨(some 113), none, (.call 19 [(.t 111), (.t 112)])⟩, ⟨(some 14), none, (.mv (.t 113))⟩]) (.seq (.seq (.reg [⟨(some 114), none, (.mv (.t 14))⟩, ⟨(some 115), none, (.bin .lss (.t 114) (.c (.int .i64 0)))⟩]) (.cond (.t 115) (.seq (.reg [⟨(some 4), none, (.mv (.c (.bool false)))⟩]) .ret) .skip)) (.seq (.seq (.reg [⟨(some 116), none, (.mv (.t 14))⟩, ⟨(some 117), none, (.mv (.t 13))⟩, ⟨(some 118), none, (.bin .neq (.t 116) (.t 117))⟩]) (.cond (.t 118) (.seq (.reg [⟨(some 4), none, (.mv (.c (.bool false)))⟩]) .ret) .skip)) (.seq (.reg [⟨(some 4), none, (.mv (.c (.bool true)))⟩]) .ret))))))))))))))))))))))))))))))
def ro3 : List AOp := [(.mv (.t 4))]
theorem fun3 : Fun Try.prog 3 119 ac3 ro3 := ⟨Try.f3, _, Try.func3, by kernel_rfl, rfl, rfl, by kernel_rfl, by kernel_rfl, by decide⟩

theorem con3 (a b nn : Bool) (r : Rc) (es : List Dt) (h1 : r.cs.length ≤ 9223372036854775807) (h2 : r.xs.length ≤ 9223372036854775807) (h3 : es.length ≤ 9223372036854775807) : Con Try.prog 3 true [.agg (rRow a b r), .vw nn (es.map tRow)] (.bool true) [] := by
  refine con_of_wp mixed fun3 (by simp) [] plain_nil ?_
  unfold ac3 ro3
  simp only [zipT]
  have c1 := con7 a b r h1 h2 1048576 (by decide) (by decide)
  repeat (first | refine wG_call c1 rfl rfl ?_ | (first
    | refine wC_a rfl ?_
    | refine q_s rfl ?_
    | refine q_b rfl ?_
    | refine wG_nil ?_
    | refine wG_g rfl ?_
    | refine wG_pure (o_len_vwm rfl) ?_
    | refine wG_pure (o_not_d rfl) ?_
    | refine wG_p rfl (by first | exact rfl | omega) ?_
    | refine wG_pure (o_str2 rfl rfl rfl) ?_
    | refine wG_pure (e_istr rfl rfl (by omega)) ?_
    | refine wG_pure (e_istr0 rfl rfl (by omega)) ?_
    | refine wG_pure (o_not rfl) ?_
    | refine wG_pure (e_ia_vw0 rfl rfl (by omega) rfl) ?_
    | refine wG_pure (e_ia_vwp rfl rfl (by omega) rfl) ?_
    | refine wG_pure (e_ia_vwm rfl rfl (by omega) (by omega) rfl) ?_
    | refine wG_pure (e_ia_vwi rfl rfl (by omega) rfl) ?_
    | refine wG_pure (e_ia_vwn rfl rfl (by omega) (by omega) rfl) ?_
    | refine wG_n rfl rfl ?_
    | refine wG_u rfl rfl ?_
    | refine wG_new (o_mks rfl rfl (by omega) (by decide)) ?_))
  refine wC_cond_d rfl (fun h => ?_) (fun h => ?_)
  · repeat (first
    | refine wC_a rfl ?_
    | refine q_s rfl ?_
    | refine q_b rfl ?_
    | refine wG_nil ?_
    | refine wG_g rfl ?_
    | refine wG_pure (o_len_vwm rfl) ?_
    | refine wG_pure (o_not_d rfl) ?_
    | refine wG_p rfl (by first | exact rfl | omega) ?_
    | refine wG_pure (o_str2 rfl rfl rfl) ?_
    | refine wG_pure (e_istr rfl rfl (by omega)) ?_
    | refine wG_pure (e_istr0 rfl rfl (by omega)) ?_
    | refine wG_pure (o_not rfl) ?_
    | refine wG_pure (e_ia_vw0 rfl rfl (by omega) rfl) ?_
    | refine wG_pure (e_ia_vwp rfl rfl (by omega) rfl) ?_
    | refine wG_pure (e_ia_vwm rfl rfl (by omega) (by omega) rfl) ?_
    | refine wG_pure (e_ia_vwi rfl rfl (by omega) rfl) ?_
    | refine wG_pure (e_ia_vwn rfl rfl (by omega) (by omega) rfl) ?_
    | refine wG_n rfl rfl ?_
    | refine wG_u rfl rfl ?_
    | refine wG_new (o_mks rfl rfl (by omega) (by decide)) ?_)
    exact ret_boolE (.inr rfl) ⟨_, retV_mv rfl, rfl⟩
  obtain ⟨s1, s2, s3⟩ := szR_ok (Int.not_lt.1 h)
  have c2 := con8 nn es h3 (szR 1048576 r) (Int.not_lt.1 h) s3
  by_cases hs : szR 1048576 r - (es.length : Int) < 0
  · rw [if_pos hs] at c2
    repeat (first | refine wG_call c2 rfl rfl ?_ | (first
    | refine wC_a rfl ?_
    | refine q_s rfl ?_
    | refine q_b rfl ?_
    | refine wG_nil ?_
    | refine wG_g rfl ?_
    | refine wG_pure (o_len_vwm rfl) ?_
    | refine wG_pure (o_not_d rfl) ?_
    | refine wG_p rfl (by first | exact rfl | omega) ?_
    | refine wG_pure (o_str2 rfl rfl rfl) ?_
    | refine wG_pure (e_istr rfl rfl (by omega)) ?_
    | refine wG_pure (e_istr0 rfl rfl (by omega)) ?_
    | refine wG_pure (o_not rfl) ?_
    | refine wG_pure (e_ia_vw0 rfl rfl (by omega) rfl) ?_
    | refine wG_pure (e_ia_vwp rfl rfl (by omega) rfl) ?_
    | refine wG_pure (e_ia_vwm rfl rfl (by omega) (by omega) rfl) ?_
    | refine wG_pure (e_ia_vwi rfl rfl (by omega) rfl) ?_
    | refine wG_pure (e_ia_vwn rfl rfl (by omega) (by omega) rfl) ?_
    | refine wG_n rfl rfl ?_
    | refine wG_u rfl rfl ?_
    | refine wG_new (o_mks rfl rfl (by omega) (by decide)) ?_))
    exact ret_boolE (.inr rfl) ⟨_, retV_mv rfl, rfl⟩
  · rw [if_neg hs] at c2
    have h1' : r.cs.length ≤ 1048576 := by omega
    have h2' : r.xs.length ≤ 1048576 := by omega
    have h3' : es.length ≤ 1048576 := by omega
    have cT := con10 a b r h1' h2'
    have cD := con11 nn es h3'
    have cE := con14 true true true true r h1' h2'
    have cF := con15 true true es h3'
    have sR := fun h nr q1 q2 => @sh16 r 1 h1' h2' (by decide) (by decide) h nr q1 q2
    have sD := fun k h0 h1 h nr q => @sh17 es k (by omega) h0 h1 h nr q
    by_cases hk : prOK r es
    · have cS := con9_yes true true true r es h1' h2' h3' hk
      have cI := con12_yes true true r es h1' h2' h3' hk
      have hv10 : (dec r es es.length).length ≤ 1048576 := Nat.le_trans (dec_len r es es.length) h3'
      generalize dec r es es.length = vs at *
      have cQ := con13_same true true vs (by omega)
      have cH := con19 true vs.length 1 (by omega) (by decide) (by decide)
      have sV := fun h nr q => @sh18 vs 1 (by omega) (by decide) (by decide) h nr q
      clear hk
      repeat' (first
        | refine wC_dregE ?_ | refine wG_call c2 rfl rfl ?_ | refine wG_call2 cT rfl rfl ?_ | refine wE_call2 cT rfl rfl rfl ?_ | refine wG_call1 cD rfl rfl ?_ | refine wG_call1 cS (ag_rec rfl rfl rfl (ag_sl rfl rfl rfl tRow_plain ag_nil)) rfl ?_ | refine wG_call1 cI (ag_rec rfl rfl rfl (ag_sl rfl rfl rfl tRow_plain ag_nil)) rfl ?_ | refine wG_call cE (ag_rec rfl rfl rfl (ag_rec rfl rfl rfl ag_nil)) rfl ?_ | refine wE_call cE (ag_rec rfl rfl rfl (ag_rec rfl rfl rfl ag_nil)) rfl rfl ?_ | refine wG_call cF (ag_sl rfl rfl rfl tRow_plain (ag_sl rfl rfl rfl tRow_plain ag_nil)) rfl ?_ | refine wG_call cQ (ag_sl rfl rfl rfl iRow_plain (ag_sl rfl rfl rfl iRow_plain ag_nil)) rfl ?_ | refine wG_call cH (ag_sl rfl rfl (mks_len _ _).symm iRow_plain (ag_int rfl ag_nil)) rfl ?_
        | (refine wG_callS (f := 16) (sR _ _ _ _ rfl rfl (by decide) ?_) rfl ?_ <;> (repeat' (first | exact ltrI _ _ | exact ltrK _ _ | exact ltrX _ _ | exact ltrV _ _ | exact ltrT _ _ | exact wfH_nil | refine wfH_cons (by decide) ?_ ?_ | exact ltr_dec rfl)))
        | (refine wG_callS (f := 17) (sD _ (by omega) (by omega) _ _ _ rfl ?_) rfl ?_ <;> (repeat' (first | exact ltrI _ _ | exact ltrK _ _ | exact ltrX _ _ | exact ltrV _ _ | exact ltrT _ _ | exact wfH_nil | refine wfH_cons (by decide) ?_ ?_ | exact ltr_dec rfl)))
        | (refine wG_callS (f := 18) (sV _ _ _ rfl ?_) rfl ?_ <;> (repeat' (first | exact ltrI _ _ | exact ltrK _ _ | exact ltrX _ _ | exact ltrV _ _ | exact ltrT _ _ | exact wfH_nil | refine wfH_cons (by decide) ?_ ?_ | exact ltr_dec rfl)))
        | (first
    | refine wC_a rfl ?_
    | refine q_s rfl ?_
    | refine q_b rfl ?_
    | refine wG_nil ?_
    | refine wG_g rfl ?_
    | refine wG_pure (o_len_vwm rfl) ?_
    | refine wG_pure (o_not_d rfl) ?_
    | refine wG_p rfl (by first | exact rfl | omega) ?_
    | refine wG_pure (o_str2 rfl rfl rfl) ?_
    | refine wG_pure (e_istr rfl rfl (by omega)) ?_
    | refine wG_pure (e_istr0 rfl rfl (by omega)) ?_
    | refine wG_pure (o_not rfl) ?_
    | refine wG_pure (e_ia_vw0 rfl rfl (by omega) rfl) ?_
    | refine wG_pure (e_ia_vwp rfl rfl (by omega) rfl) ?_
    | refine wG_pure (e_ia_vwm rfl rfl (by omega) (by omega) rfl) ?_
    | refine wG_pure (e_ia_vwi rfl rfl (by omega) rfl) ?_
    | refine wG_pure (e_ia_vwn rfl rfl (by omega) (by omega) rfl) ?_
    | refine wG_n rfl rfl ?_
    | refine wG_u rfl rfl ?_
    | refine wG_new (o_mks rfl rfl (by omega) (by decide)) ?_) | (first
    | refine wE_nil (by kernel_rfl) ?_
    | refine wE_gy rfl ?_
    | refine wE_gn rfl rfl rfl ?_
    | refine wE_gu rfl rfl ?_
    | refine wE_gnn rfl rfl rfl ?_
    | refine wE_v (o_len_vwm rfl) rfl ?_
    | refine wE_v (o_not_d rfl) rfl ?_
    | refine wE_p rfl (by first | exact rfl | omega) rfl ?_
    | refine wE_v (o_str2 rfl rfl rfl) rfl ?_
    | refine wE_v (e_istr rfl rfl (by omega)) rfl ?_
    | refine wE_v (e_istr0 rfl rfl (by omega)) rfl ?_
    | refine wE_v (o_not rfl) rfl ?_
    | refine wE_v (e_ia_vw0 rfl rfl (by omega) rfl) rfl ?_
    | refine wE_v (e_ia_vwp rfl rfl (by omega) rfl) rfl ?_
    | refine wE_v (e_ia_vwm rfl rfl (by omega) (by omega) rfl) rfl ?_
    | refine wE_v (e_ia_vwi rfl rfl (by omega) rfl) rfl ?_
    | refine wE_v (e_ia_vwn rfl rfl (by omega) (by omega) rfl) rfl ?_
    | refine wE_n rfl rfl rfl ?_
    | refine wE_u rfl rfl rfl ?_
    | refine wE_new (o_mks rfl rfl (by omega) (by decide)) rfl ?_) | (refine wG_gd rfl (fun hgt => ?_) (fun hgf => ?_) <;> (first | simp only [eq_true hgt, decide_true] | simp only [eq_false hgf, decide_false])) | refine wC_cond_d rfl (fun hg => ?_) (fun hg => ?_))
      all_goals (first | exact ret_boolE (.inr rfl) ⟨_, retV_mv rfl, rfl⟩ | (exfalso; omega) | trace_state)
    · have cS := con9_no true true true r es h1' h2' h3' hk
      have cI := con12_no true true r es h1' h2' h3' hk
      have cQ : Con Try.prog 13 true [.nilS, .vw true (([] : List Int).map iRow)] (.bool true) [] := con_nil (con13_same false true [] (by decide))
      have cH : Con Try.prog 19 true [.nilS, .int .i64 1] (.int .i64 1) [] := con_nil (con19 false 0 1 (by decide) (by decide) (by decide))
      have cM := con18_nil 1
      clear hk
      repeat' (first
        | refine wC_dregE ?_ | refine wG_call c2 rfl rfl ?_ | refine wG_call2 cT rfl rfl ?_ | refine wE_call2 cT rfl rfl rfl ?_ | refine wG_call1 cD rfl rfl ?_ | refine wG_call1 cS (ag_rec rfl rfl rfl (ag_sl rfl rfl rfl tRow_plain ag_nil)) rfl ?_ | refine wG_call cI (ag_rec rfl rfl rfl (ag_sl rfl rfl rfl tRow_plain ag_nil)) rfl ?_ | refine wG_call cE (ag_rec rfl rfl rfl (ag_rec rfl rfl rfl ag_nil)) rfl ?_ | refine wE_call cE (ag_rec rfl rfl rfl (ag_rec rfl rfl rfl ag_nil)) rfl rfl ?_ | refine wG_call cF (ag_sl rfl rfl rfl tRow_plain (ag_sl rfl rfl rfl tRow_plain ag_nil)) rfl ?_ | refine wG_call cQ (ag_any rfl (ag_sl rfl rfl rfl iRow_plain ag_nil)) rfl ?_ | refine wG_call cH rfl rfl ?_ | refine wG_call cM rfl rfl ?_
        | (refine wG_callS (f := 16) (sR _ _ _ _ rfl rfl (by decide) ?_) rfl ?_ <;> (repeat' (first | exact ltrI _ _ | exact ltrK _ _ | exact ltrX _ _ | exact ltrV _ _ | exact ltrT _ _ | exact ltrI [] _ | exact ltrV [] _ | exact wfH_nil | refine wfH_cons (by decide) ?_ ?_ | exact ltr_dec rfl)))
        | (refine wG_callS (f := 17) (sD _ (by omega) (by omega) _ _ _ rfl ?_) rfl ?_ <;> (repeat' (first | exact ltrI _ _ | exact ltrK _ _ | exact ltrX _ _ | exact ltrV _ _ | exact ltrT _ _ | exact ltrI [] _ | exact ltrV [] _ | exact wfH_nil | refine wfH_cons (by decide) ?_ ?_ | exact ltr_dec rfl)))
        | (first
    | refine wC_a rfl ?_
    | refine q_s rfl ?_
    | refine q_b rfl ?_
    | refine wG_nil ?_
    | refine wG_g rfl ?_
    | refine wG_pure (o_len_vwm rfl) ?_
    | refine wG_pure (o_not_d rfl) ?_
    | refine wG_p rfl (by first | exact rfl | omega) ?_
    | refine wG_pure (o_str2 rfl rfl rfl) ?_
    | refine wG_pure (e_istr rfl rfl (by omega)) ?_
    | refine wG_pure (e_istr0 rfl rfl (by omega)) ?_
    | refine wG_pure (o_not rfl) ?_
    | refine wG_pure (e_ia_vw0 rfl rfl (by omega) rfl) ?_
    | refine wG_pure (e_ia_vwp rfl rfl (by omega) rfl) ?_
    | refine wG_pure (e_ia_vwm rfl rfl (by omega) (by omega) rfl) ?_
    | refine wG_pure (e_ia_vwi rfl rfl (by omega) rfl) ?_
    | refine wG_pure (e_ia_vwn rfl rfl (by omega) (by omega) rfl) ?_
    | refine wG_n rfl rfl ?_
    | refine wG_u rfl rfl ?_
    | refine wG_new (o_mks rfl rfl (by omega) (by decide)) ?_) | (first
    | refine wE_nil (by kernel_rfl) ?_
    | refine wE_gy rfl ?_
    | refine wE_gn rfl rfl rfl ?_
    | refine wE_gu rfl rfl ?_
    | refine wE_gnn rfl rfl rfl ?_
    | refine wE_v (o_len_vwm rfl) rfl ?_
    | refine wE_v (o_not_d rfl) rfl ?_
    | refine wE_p rfl (by first | exact rfl | omega) rfl ?_
    | refine wE_v (o_str2 rfl rfl rfl) rfl ?_
    | refine wE_v (e_istr rfl rfl (by omega)) rfl ?_
    | refine wE_v (e_istr0 rfl rfl (by omega)) rfl ?_
    | refine wE_v (o_not rfl) rfl ?_
    | refine wE_v (e_ia_vw0 rfl rfl (by omega) rfl) rfl ?_
    | refine wE_v (e_ia_vwp rfl rfl (by omega) rfl) rfl ?_
    | refine wE_v (e_ia_vwm rfl rfl (by omega) (by omega) rfl) rfl ?_
    | refine wE_v (e_ia_vwi rfl rfl (by omega) rfl) rfl ?_
    | refine wE_v (e_ia_vwn rfl rfl (by omega) (by omega) rfl) rfl ?_
    | refine wE_n rfl rfl rfl ?_
    | refine wE_u rfl rfl rfl ?_
    | refine wE_new (o_mks rfl rfl (by omega) (by decide)) rfl ?_) | (refine wG_gd rfl (fun hgt => ?_) (fun hgf => ?_) <;> (first | simp only [eq_true hgt, decide_true] | simp only [eq_false hgf, decide_false])) | refine wC_cond_d rfl (fun hg => ?_) (fun hg => ?_))
      all_goals (first | exact ret_boolE (.inr rfl) ⟨_, retV_mv rfl, rfl⟩ | (exfalso; omega) | trace_state)
end Go.Proofs.Ytencmeleapmjnaa.Rec
