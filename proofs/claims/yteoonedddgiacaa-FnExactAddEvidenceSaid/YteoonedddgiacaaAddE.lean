/- The law on one element put into dated evidence. -/
import Derived.Test.YteoonedddgiacaaAddC
import Derived.Test.YteoonedddgiacaaAddD
namespace Go.Proofs.Yteoonedddgiacaa.Rec
open Go Go.Proofs.Yteoonedddgiacaa.Ab Go.Proofs.Yteoonedddgiacaa.Il
attribute [local irreducible] wpO wpC wpDr wpQ wpG wpE stepA seqQ blkQ Ret RetG ev
set_option maxRecDepth 10000
set_option maxHeartbeats 8000000
set_option linter.unusedSimpArgs false
set_option linter.unusedVariables false

def ac3 : AC := (.seq (.reg [⟨(some 3), none, (.box 2 true (.t 0))⟩, ⟨(some 5), none, (.box 3 true (.t 2))⟩, ⟨(some 6), none, (.mv (.c (.bool false)))⟩]) (.seq (.reg [⟨(some 7), none, (.mv (.c (.int .i64 1048576)))⟩]) (.seq (.reg [⟨(some 19), none, (.ld true 2 (.t 3))⟩, ⟨(some 20), none, (.mv (.t 7))⟩, ⟨(some 21), none, (.call 5 [(.t 19), (.t 20)])⟩, ⟨(some 7), none, (.mv (.t 21))⟩]) (.seq (.seq (.reg [⟨(some 22), none, (.mv (.t 7))⟩, ⟨(some 23), none, (.bin .lss (.t 22) (.c (.int .i64 0)))⟩]) (.cond (.t 23) (.seq (.reg [⟨(some 6), none, (.mv (.c (.bool true)))⟩]) .ret) .skip)) (.seq (.reg [⟨(some 24), none, (.mv (.t 1))⟩, ⟨(some 25), none, (.mv (.t 7))⟩, ⟨(some 26), none, (.call 6 [(.t 24), (.t 25)])⟩, ⟨(some 7), none, (.mv (.t 26))⟩]) (.seq (.seq (.reg [⟨(some 27), none, (.mv (.t 7))⟩, ⟨(some 28), none, (.bin .lss (.t 27) (.c (.int .i64 0)))⟩]) (.cond (.t 28) (.seq (.reg [⟨(some 6), none, (.mv (.c (.bool true)))⟩]) .ret) .skip)) (.seq (.dreg [⟨(some 30), none, (.ld true 2 (.t 3))⟩, ⟨(some 31), none, (.call 8 [(.t 30)])⟩, ⟨(some 32), none, (.mv (.t 1))⟩, ⟨(some 33), none, (.call 9 [(.t 32)])⟩, ⟨(some 34), none, (.ld true 3 (.t 5))⟩, ⟨(some 35), none, (.call 10 [(.t 34)])⟩, ⟨(some 36), none, (.call 7 [(.t 31), (.t 33), (.t 35)])⟩, ⟨(some 29), none, (.mv (.t 36))⟩, ⟨(some 37), none, (.ext (.t 29) 0)⟩, ⟨(some 38), none, (.ext (.t 29) 1)⟩, ⟨(some 8), none, (.mv (.t 37))⟩, ⟨(some 9), none, (.mv (.t 38))⟩] [[], [0], [], [0, 1, 2], [], [0, 1, 2, 3, 4], [0, 1, 2, 3, 4, 5], [0, 1, 2, 3, 4, 5, 6], [0, 1, 2, 3, 4, 5, 6, 7], [0, 1, 2, 3, 4, 5, 6, 7], [0, 1, 2, 3, 4, 5, 6, 7, 8], [0, 1, 2, 3, 4, 5, 6, 7, 8, 9, 10]]) (.seq (.reg [⟨(some 39), none, (.ld true 2 (.t 3))⟩, ⟨(some 40), none, (.call 8 [(.t 39)])⟩, ⟨(some 10), none, (.alloc [.nilS, .nilS])⟩, ⟨none, none, (.st 2 (.t 10) (.t 40))⟩]) (.seq (.reg [⟨(some 41), none, (.mv (.t 1))⟩, ⟨(some 42), none, (.call 9 [(.t 41)])⟩, ⟨(some 11), none, (.mv (.t 42))⟩]) (.seq (.dreg [⟨(some 44), none, (.ld true 2 (.t 10))⟩, ⟨(some 45), none, (.mv (.t 11))⟩, ⟨(some 46), none, (.ld true 3 (.t 5))⟩, ⟨(some 47), none, (.call 10 [(.t 46)])⟩, ⟨(some 48), none, (.call 11 [(.t 44), (.t 45), (.t 47)])⟩, ⟨(some 43), none, (.mv (.t 48))⟩, ⟨(some 49), none, (.ext (.t 43) 0)⟩, ⟨(some 50), none, (.ext (.t 43) 1)⟩, ⟨(some 12), none, (.mv (.t 49))⟩, ⟨(some 13), none, (.mv (.t 50))⟩] [[], [], [], [2], [0, 1, 2, 3], [0, 1, 2, 3, 4], [0, 1, 2, 3, 4, 5], [0, 1, 2, 3, 4, 5], [0, 1, 2, 3, 4, 5, 6], [0, 1, 2, 3, 4, 5, 6, 7, 8]]) (.seq (.seq (.reg [⟨(some 51), none, (.mv (.t 12))⟩, ⟨(some 52), none, (.mv (.t 8))⟩, ⟨(some 53), none, (.call 12 [(.t 51), (.t 52)])⟩, ⟨(some 54), none, (.un .not (.t 53))⟩, ⟨(some 55), none, (.mv (.t 54))⟩, ⟨(some 56), (some (55, false)), (.mv (.t 13))⟩, ⟨(some 57), (some (55, false)), (.mv (.t 9))⟩, ⟨(some 58), (some (55, false)), (.bool2 true (.t 56) (.t 57))⟩, ⟨(some 59), none, (.pick (.t 55) (.c (.bool true)) (.t 58))⟩]) (.cond (.t 59) (.seq (.reg [⟨(some 6), none, (.mv (.c (.bool false)))⟩]) .ret) .skip)) (.seq (.seq (.dreg [⟨(some 60), none, (.ld true 2 (.t 10))⟩, ⟨(some 61), none, (.ld true 2 (.t 3))⟩, ⟨(some 62), none, (.call 8 [(.t 61)])⟩, ⟨(some 63), none, (.call 13 [(.t 60), (.t 62)])⟩, ⟨(some 64), none, (.un .not (.t 63))⟩] [[], [], [1], [0, 1, 2], [0, 1, 2, 3]]) (.cond (.t 64) (.seq (.reg [⟨(some 6), none, (.mv (.c (.bool false)))⟩]) .ret) .skip)) (.seq (.seq (.reg [⟨(some 65), none, (.mv (.t 11))⟩, ⟨(some 66), none, (.mv (.t 1))⟩, ⟨(some 67), none, (.call 9 [(.t 66)])⟩, ⟨(some 68), none, (.call 12 [(.t 65), (.t 67)])⟩, ⟨(some 69), none, (.un .not (.t 68))⟩]) (.cond (.t 69) (.seq (.reg [⟨(some 6), none, (.mv (.c (.bool false)))⟩]) .ret) .skip)) (.seq (.reg [⟨(some 14), none, (.mv (.c (.int .i64 1)))⟩]) (.seq (.reg [⟨(some 70), none, (.ld true 2 (.t 10))⟩, ⟨(some 71), none, (.mv (.t 14))⟩, ⟨(some 72), none, (.call 14 [(.t 70), (.t 71)])⟩, ⟨(some 14), none, (.mv (.t 72))⟩]) (.seq (.reg [⟨(some 73), none, (.mv (.t 11))⟩, ⟨(some 74), none, (.mv (.t 14))⟩, ⟨(some 75), none, (.call 15 [(.t 73), (.t 74)])⟩, ⟨(some 14), none, (.mv (.t 75))⟩]) (.seq (.seq (.reg [⟨(some 76), none, (.mv (.t 14))⟩, ⟨(some 77), none, (.bin .lss (.t 76) (.c (.int .i64 0)))⟩, ⟨(some 78), none, (.mv (.t 77))⟩, ⟨(some 79), (some (78, false)), (.mv (.t 12))⟩, ⟨(some 80), (some (78, false)), (.mv (.t 8))⟩, ⟨(some 81), (some (78, false)), (.call 12 [(.t 79), (.t 80)])⟩, ⟨(some 82), (some (78, false)), (.un .not (.t 81))⟩, ⟨(some 83), none, (.pick (.t 78) (.c (.bool true)) (.t 82))⟩, ⟨(some 84), none, (.mv (.t 83))⟩, ⟨(some 85), (some (84, false)), (.mv (.t 13))⟩, ⟨(some 86), (some (84, false)), (.mv (.t 9))⟩, ⟨(some 87), (some (84, false)), (.bool2 true (.t 85) (.t 86))⟩, ⟨(some 88), none, (.pick (.t 84) (.c (.bool true)) (.t 87))⟩]) (.cond (.t 88) (.seq (.reg [⟨(some 6), none, (.mv (.c (.bool false)))⟩]) .ret) .skip)) (.seq (.reg [⟨(some 15), none, (.mv (.c (.int .i64 1)))⟩]) (.seq (.reg [⟨(some 89), none, (.mv (.t 12))⟩, ⟨(some 90), none, (.mv (.t 15))⟩, ⟨(some 91), none, (.call 15 [(.t 89), (.t 90)])⟩, ⟨(some 15), none, (.mv (.t 91))⟩]) (.seq (.reg [⟨(some 16), none, (.mv (.c (.int .i64 1)))⟩]) (.seq (.reg [⟨(some 92), none, (.mv (.t 12))⟩, ⟨(some 93), none, (.mv (.t 16))⟩, ⟨(some 94), none, (.call 16 [(.t 92), (.t 93)])⟩, ⟨(some 16), none, (.mv (.t 94))⟩]) (.seq (.seq (.reg [⟨(some 95), none, (.mv (.t 16))⟩, ⟨(some 96), none, (.bin .lss (.t 95) (.c (.int .i64 0)))⟩]) (.cond (.t 96) (.seq (.reg [⟨(some 6), none, (.mv (.c (.bool false)))⟩]) .ret) .skip)) (.seq (.seq (.reg [⟨(some 97), none, (.mv (.t 16))⟩, ⟨(some 98), none, (.mv (.t 15))⟩, ⟨(some 99), none, (.bin .neq (.t 97) (.t 98))⟩]) (.cond (.t 99) (.seq (.reg [⟨(some 6), none, (.mv (.c (.bool false)))⟩]) .ret) .skip)) (.seq (.dreg [⟨(some 101), none, (.ld true 2 (.t 3))⟩, ⟨(some 102), none, (.call 8 [(.t 101)])⟩, ⟨(some 103), none, (.mv (.t 1))⟩, ⟨(some 104), none, (.call 9 [(.t 103)])⟩, ⟨(some 105), none, (.ld true 3 (.t 5))⟩, ⟨(some 106), none, (.call 10 [(.t 105)])⟩, ⟨(some 107), none, (.call 11 [(.t 102), (.t 104), (.t 106)])⟩, ⟨(some 100), none, (.mv (.t 107))⟩, ⟨(some 108), none, (.ext (.t 100) 0)⟩, ⟨(some 109), none, (.ext (.t 100) 1)⟩, ⟨(some 17), none, (.mv (.t 108))⟩, ⟨(some 18), none, (.mv (.t 109))⟩] [[], [0], [], [0, 1, 2], [], [0, 1, 2, 3, 4], [0, 1, 2, 3, 4, 5], [0, 1, 2, 3, 4, 5, 6], [0, 1, 2, 3, 4, 5, 6, 7], [0, 1, 2, 3, 4, 5, 6, 7], [0, 1, 2, 3, 4, 5, 6, 7, 8], [0, 1, 2, 3, 4, 5, 6, 7, 8, 9, 10]]) (.seq (.seq (.reg [⟨(some 110), none, (.mv (.t 17))⟩, ⟨(some 111), none, (.mv (.t 8))⟩, ⟨(some 112), none, (.call 12 [(.t 110), (.t 111)])⟩, ⟨(some 113), none, (.un .not (.t 112))⟩, ⟨(some 114), none, (.mv (.t 113))⟩, ⟨(some 115), (some (114, false)), (.mv (.t 18))⟩, ⟨(some 116), (some (114, false)), (.mv (.t 9))⟩, ⟨(some 117), (some (114, false)), (.bool2 true (.t 115) (.t 116))⟩, ⟨(some 118), none, (.pick (.t 114) (.c (.bool true)) (.t 117))⟩]) (.cond (.t 118) (.seq (.reg [⟨(some 6), none, (.mv (.c (.bool false)))⟩]) .ret) .skip)) (.seq (.reg [⟨(some 16), none, (.mv (.c (.int .i64 1)))⟩]) (.seq (.reg [⟨(some 119), none, (.mv (.t 12))⟩, ⟨(some 120), none, (.mv (.t 16))⟩, ⟨(some 121), none, (.call 16 [(.t 119), (.t 120)])⟩, ⟨(some 16), none, (.mv (.t 121))⟩]) (.seq (.seq (.reg [⟨(some 122), none, (.mv (.t 16))⟩, ⟨(some 123), none, (.bin .lss (.t 122) (.c (.int .i64 0)))⟩]) (.cond (.t 123) (.seq (.reg [⟨(some 6), none, (.mv (.c (.bool false)))⟩]) .ret) .skip)) (.seq (.seq (.reg [⟨(some 124), none, (.mv (.t 16))⟩, ⟨(some 125), none, (.mv (.t 15))⟩, ⟨(some 126), none, (.bin .neq (.t 124) (.t 125))⟩]) (.cond (.t 126) (.seq (.reg [⟨(some 6), none, (.mv (.c (.bool false)))⟩]) .ret) .skip)) (.seq (.reg [⟨(some 6), none, (.mv (.c (.bool true)))⟩]) .ret))))))))))))))))))))))))))))))
def ro3 : List AOp := [(.mv (.t 6))]
theorem fun3 : Fun Try.prog 3 127 ac3 ro3 := ⟨Try.f3, _, Try.func3, by kernel_rfl, rfl, rfl, by kernel_rfl, by kernel_rfl, by decide⟩

theorem con3 (a b nn : Bool) (r : Rc) (es : List Dt) (x : Dt) (h1 : r.cs.length ≤ 9223372036854775807) (h2 : r.xs.length ≤ 9223372036854775807) (h3 : es.length ≤ 9223372036854775807) : Con Try.prog 3 true [.agg (rRow a b r), .vw nn (es.map tRow), .agg (tRow x)] (.bool true) [] := by
  refine con_of_wp mixed fun3 (by simp) [] plain_nil ?_
  unfold ac3 ro3
  simp only [zipT]
  have c1 := con5 a b r h1 h2 1048576 (by decide) (by decide)
  repeat (first | refine wG_call c1 rfl rfl ?_ | (first
    | refine wC_a rfl ?_
    | refine q_s rfl ?_
    | refine q_b rfl ?_
    | refine wG_nil ?_
    | refine wG_g rfl ?_
    | refine wG_pure (o_len_vwm rfl) ?_
    | refine wG_pure (o_not_d rfl) ?_
    | refine wG_p rfl (by first | exact rfl | omega) ?_
    | refine wG_pure (o_str2 rfl rfl rfl) ?_
    | refine wG_pure (e_istr rfl rfl (by omega)) ?_
    | refine wG_pure (e_istr0 rfl rfl (by omega)) ?_
    | refine wG_pure (o_not rfl) ?_
    | refine wG_pure (e_ia_vw0 rfl rfl (by omega) rfl) ?_
    | refine wG_pure (e_ia_vwp rfl rfl (by omega) rfl) ?_
    | refine wG_pure (e_ia_vwm rfl rfl (by omega) (by omega) rfl) ?_
    | refine wG_pure (e_ia_vwi rfl rfl (by omega) rfl) ?_
    | refine wG_pure (e_ia_vwn rfl rfl (by omega) (by omega) rfl) ?_
    | refine wG_n rfl rfl ?_
    | refine wG_u rfl rfl ?_
    | refine wG_new (o_mks rfl rfl (by omega) (by decide)) ?_))
  refine wC_cond_d rfl (fun h => ?_) (fun h => ?_)
  · repeat (first
    | refine wC_a rfl ?_
    | refine q_s rfl ?_
    | refine q_b rfl ?_
    | refine wG_nil ?_
    | refine wG_g rfl ?_
    | refine wG_pure (o_len_vwm rfl) ?_
    | refine wG_pure (o_not_d rfl) ?_
    | refine wG_p rfl (by first | exact rfl | omega) ?_
    | refine wG_pure (o_str2 rfl rfl rfl) ?_
    | refine wG_pure (e_istr rfl rfl (by omega)) ?_
    | refine wG_pure (e_istr0 rfl rfl (by omega)) ?_
    | refine wG_pure (o_not rfl) ?_
    | refine wG_pure (e_ia_vw0 rfl rfl (by omega) rfl) ?_
    | refine wG_pure (e_ia_vwp rfl rfl (by omega) rfl) ?_
    | refine wG_pure (e_ia_vwm rfl rfl (by omega) (by omega) rfl) ?_
    | refine wG_pure (e_ia_vwi rfl rfl (by omega) rfl) ?_
    | refine wG_pure (e_ia_vwn rfl rfl (by omega) (by omega) rfl) ?_
    | refine wG_n rfl rfl ?_
    | refine wG_u rfl rfl ?_
    | refine wG_new (o_mks rfl rfl (by omega) (by decide)) ?_)
    exact ret_boolE (.inr rfl) ⟨_, retV_mv rfl, rfl⟩
  obtain ⟨s1, s2, s3⟩ := szR_ok (Int.not_lt.1 h)
  have c2 := con6 nn es h3 (szR 1048576 r) (Int.not_lt.1 h) s3
  by_cases hs : szR 1048576 r - (es.length : Int) < 0
  · rw [if_pos hs] at c2
    repeat (first | refine wG_call c2 rfl rfl ?_ | (first
    | refine wC_a rfl ?_
    | refine q_s rfl ?_
    | refine q_b rfl ?_
    | refine wG_nil ?_
    | refine wG_g rfl ?_
    | refine wG_pure (o_len_vwm rfl) ?_
    | refine wG_pure (o_not_d rfl) ?_
    | refine wG_p rfl (by first | exact rfl | omega) ?_
    | refine wG_pure (o_str2 rfl rfl rfl) ?_
    | refine wG_pure (e_istr rfl rfl (by omega)) ?_
    | refine wG_pure (e_istr0 rfl rfl (by omega)) ?_
    | refine wG_pure (o_not rfl) ?_
    | refine wG_pure (e_ia_vw0 rfl rfl (by omega) rfl) ?_
    | refine wG_pure (e_ia_vwp rfl rfl (by omega) rfl) ?_
    | refine wG_pure (e_ia_vwm rfl rfl (by omega) (by omega) rfl) ?_
    | refine wG_pure (e_ia_vwi rfl rfl (by omega) rfl) ?_
    | refine wG_pure (e_ia_vwn rfl rfl (by omega) (by omega) rfl) ?_
    | refine wG_n rfl rfl ?_
    | refine wG_u rfl rfl ?_
    | refine wG_new (o_mks rfl rfl (by omega) (by decide)) ?_))
    exact ret_boolE (.inr rfl) ⟨_, retV_mv rfl, rfl⟩
  · rw [if_neg hs] at c2
    have h1' : r.cs.length ≤ 1048576 := by omega
    have h2' : r.xs.length ≤ 1048576 := by omega
    have h3' : es.length ≤ 1048576 := by omega
    have cT := con8 a b r h1' h2'
    have cD := con9 nn es h3'
    have cX := con10 x
    have cE := con13 true true true true r h1' h2'
    have cF := con12 true true es h3'
    have sR := fun h nr q1 q2 => @sh14 r 1 h1' h2' (by decide) (by decide) h nr q1 q2
    have sD := fun k h0 h1 h nr q => @sh15 es k (by omega) h0 h1 h nr q
    have h5 : okNew r x → es.length ≤ 1048575 := fun hx => by
      have := okNew_cs hx
      have := szR_cs (Int.not_lt.1 h)
      omega
    by_cases hk : GoodE r es ∧ okNew r x ∧ GoodE r (addR es x)
    · have h4' := h5 hk.2.1
      have cS := con7_yes true true true r es x h1' h2' h4' hk
      have cI := con11_yes true true r es x h1' h2' h3' hk
      have hv10 : (addR es x).length ≤ 1048576 := by have := addR_len es x; omega
      generalize addR es x = vs at *
      have cQ := con12 true true vs (by omega)
      have cH := con16 true vs.length 1 (by omega) (by decide) (by decide)
      have sV := fun h nr q => @sh15 vs 1 (by omega) (by decide) (by decide) h nr q
      clear hk h5
      repeat' (first
        | refine wC_dregE ?_ | refine wG_call c2 rfl rfl ?_ | refine wG_call2 cT rfl rfl ?_ | refine wE_call2 cT rfl rfl rfl ?_ | refine wG_call1 cD rfl rfl ?_ | refine wE_call1 cD rfl rfl rfl ?_ | refine wG_call cX rfl rfl ?_ | refine wE_call cX rfl rfl rfl ?_ | refine wE_call1 cS (ag_rec rfl rfl rfl (ag_sl rfl rfl rfl tRow_plain rfl)) rfl rfl ?_ | refine wE_call1 cI (ag_rec rfl rfl rfl (ag_sl rfl rfl rfl tRow_plain rfl)) rfl rfl ?_ | refine wG_call cE (ag_rec rfl rfl rfl (ag_rec rfl rfl rfl ag_nil)) rfl ?_ | refine wE_call cE (ag_rec rfl rfl rfl (ag_rec rfl rfl rfl ag_nil)) rfl rfl ?_ | refine wG_call cF (ag_sl rfl rfl rfl tRow_plain (ag_sl rfl rfl rfl tRow_plain ag_nil)) rfl ?_ | refine wG_call cQ (ag_sl rfl rfl rfl tRow_plain (ag_sl rfl rfl rfl tRow_plain ag_nil)) rfl ?_ | refine wG_call cH (ag_sl rfl rfl (mkDt_len _ _).symm tRow_plain (ag_int rfl ag_nil)) rfl ?_
        | (refine wG_callS (f := 14) (sR _ _ _ _ rfl rfl (by decide) ?_) rfl ?_ <;> (repeat' (first | exact ltrI _ _ | exact ltrK _ _ | exact ltrX _ _ | exact ltrV _ _ | exact ltrT _ _ | exact ltrT [] _ | exact ltrT [x] _ | exact wfH_nil | refine wfH_cons (by decide) ?_ ?_ | exact ltr_dec rfl)))
        | (refine wG_callS (f := 15) (sD _ (by omega) (by omega) _ _ _ rfl ?_) rfl ?_ <;> (repeat' (first | exact ltrI _ _ | exact ltrK _ _ | exact ltrX _ _ | exact ltrV _ _ | exact ltrT _ _ | exact ltrT [] _ | exact ltrT [x] _ | exact wfH_nil | refine wfH_cons (by decide) ?_ ?_ | exact ltr_dec rfl)))
        | (refine wG_callS (f := 15) (sV _ _ _ rfl ?_) rfl ?_ <;> (repeat' (first | exact ltrI _ _ | exact ltrK _ _ | exact ltrX _ _ | exact ltrV _ _ | exact ltrT _ _ | exact ltrT [] _ | exact ltrT [x] _ | exact wfH_nil | refine wfH_cons (by decide) ?_ ?_ | exact ltr_dec rfl)))
        | (first
    | refine wC_a rfl ?_
    | refine q_s rfl ?_
    | refine q_b rfl ?_
    | refine wG_nil ?_
    | refine wG_g rfl ?_
    | refine wG_pure (o_len_vwm rfl) ?_
    | refine wG_pure (o_not_d rfl) ?_
    | refine wG_p rfl (by first | exact rfl | omega) ?_
    | refine wG_pure (o_str2 rfl rfl rfl) ?_
    | refine wG_pure (e_istr rfl rfl (by omega)) ?_
    | refine wG_pure (e_istr0 rfl rfl (by omega)) ?_
    | refine wG_pure (o_not rfl) ?_
    | refine wG_pure (e_ia_vw0 rfl rfl (by omega) rfl) ?_
    | refine wG_pure (e_ia_vwp rfl rfl (by omega) rfl) ?_
    | refine wG_pure (e_ia_vwm rfl rfl (by omega) (by omega) rfl) ?_
    | refine wG_pure (e_ia_vwi rfl rfl (by omega) rfl) ?_
    | refine wG_pure (e_ia_vwn rfl rfl (by omega) (by omega) rfl) ?_
    | refine wG_n rfl rfl ?_
    | refine wG_u rfl rfl ?_
    | refine wG_new (o_mks rfl rfl (by omega) (by decide)) ?_) | (first
    | refine wE_nil (by kernel_rfl) ?_
    | refine wE_gy rfl ?_
    | refine wE_gn rfl rfl rfl ?_
    | refine wE_gu rfl rfl ?_
    | refine wE_gnn rfl rfl rfl ?_
    | refine wE_v (o_len_vwm rfl) rfl ?_
    | refine wE_v (o_not_d rfl) rfl ?_
    | refine wE_p rfl (by first | exact rfl | omega) rfl ?_
    | refine wE_v (o_str2 rfl rfl rfl) rfl ?_
    | refine wE_v (e_istr rfl rfl (by omega)) rfl ?_
    | refine wE_v (e_istr0 rfl rfl (by omega)) rfl ?_
    | refine wE_v (o_not rfl) rfl ?_
    | refine wE_v (e_ia_vw0 rfl rfl (by omega) rfl) rfl ?_
    | refine wE_v (e_ia_vwp rfl rfl (by omega) rfl) rfl ?_
    | refine wE_v (e_ia_vwm rfl rfl (by omega) (by omega) rfl) rfl ?_
    | refine wE_v (e_ia_vwi rfl rfl (by omega) rfl) rfl ?_
    | refine wE_v (e_ia_vwn rfl rfl (by omega) (by omega) rfl) rfl ?_
    | refine wE_n rfl rfl rfl ?_
    | refine wE_u rfl rfl rfl ?_
    | refine wE_new (o_mks rfl rfl (by omega) (by decide)) rfl ?_) | (refine wG_gd rfl (fun hgt => ?_) (fun hgf => ?_) <;> (first | simp only [eq_true hgt, decide_true] | simp only [eq_false hgf, decide_false])) | refine wC_cond_d rfl (fun hg => ?_) (fun hg => ?_))
      all_goals (first | exact ret_boolE (.inr rfl) ⟨_, retV_mv rfl, rfl⟩ | (exfalso; omega) | trace_state)
    · have cS := con7_no true true true r es x h1' h2' h3' h5 hk
      have cI := con11_no true true r es x h1' h2' h3' hk
      have cQ : Con Try.prog 12 true [.nilS, .vw true (([] : List Dt).map tRow)] (.bool true) [] := con_nil (con12 false true [] (by decide))
      have cH : Con Try.prog 16 true [.nilS, .int .i64 1] (.int .i64 1) [] := con_nil (con16 false 0 1 (by decide) (by decide) (by decide))
      have cM := con15_nil 1
      clear hk h5
      repeat' (first
        | refine wC_dregE ?_ | refine wG_call c2 rfl rfl ?_ | refine wG_call2 cT rfl rfl ?_ | refine wE_call2 cT rfl rfl rfl ?_ | refine wG_call1 cD rfl rfl ?_ | refine wE_call1 cD rfl rfl rfl ?_ | refine wG_call cX rfl rfl ?_ | refine wE_call cX rfl rfl rfl ?_ | refine wE_call1 cS (ag_rec rfl rfl rfl (ag_sl rfl rfl rfl tRow_plain rfl)) rfl rfl ?_ | refine wE_call cI (ag_rec rfl rfl rfl (ag_sl rfl rfl rfl tRow_plain rfl)) rfl rfl ?_ | refine wG_call cE (ag_rec rfl rfl rfl (ag_rec rfl rfl rfl ag_nil)) rfl ?_ | refine wE_call cE (ag_rec rfl rfl rfl (ag_rec rfl rfl rfl ag_nil)) rfl rfl ?_ | refine wG_call cF (ag_sl rfl rfl rfl tRow_plain (ag_sl rfl rfl rfl tRow_plain ag_nil)) rfl ?_ | refine wG_call cQ (ag_any rfl (ag_sl rfl rfl rfl tRow_plain ag_nil)) rfl ?_ | refine wG_call cH rfl rfl ?_ | refine wG_call cM rfl rfl ?_
        | (refine wG_callS (f := 14) (sR _ _ _ _ rfl rfl (by decide) ?_) rfl ?_ <;> (repeat' (first | exact ltrI _ _ | exact ltrK _ _ | exact ltrX _ _ | exact ltrV _ _ | exact ltrT _ _ | exact ltrT [] _ | exact ltrT [x] _ | exact wfH_nil | refine wfH_cons (by decide) ?_ ?_ | exact ltr_dec rfl)))
        | (refine wG_callS (f := 15) (sD _ (by omega) (by omega) _ _ _ rfl ?_) rfl ?_ <;> (repeat' (first | exact ltrI _ _ | exact ltrK _ _ | exact ltrX _ _ | exact ltrV _ _ | exact ltrT _ _ | exact ltrT [] _ | exact ltrT [x] _ | exact wfH_nil | refine wfH_cons (by decide) ?_ ?_ | exact ltr_dec rfl)))
        | (first
    | refine wC_a rfl ?_
    | refine q_s rfl ?_
    | refine q_b rfl ?_
    | refine wG_nil ?_
    | refine wG_g rfl ?_
    | refine wG_pure (o_len_vwm rfl) ?_
    | refine wG_pure (o_not_d rfl) ?_
    | refine wG_p rfl (by first | exact rfl | omega) ?_
    | refine wG_pure (o_str2 rfl rfl rfl) ?_
    | refine wG_pure (e_istr rfl rfl (by omega)) ?_
    | refine wG_pure (e_istr0 rfl rfl (by omega)) ?_
    | refine wG_pure (o_not rfl) ?_
    | refine wG_pure (e_ia_vw0 rfl rfl (by omega) rfl) ?_
    | refine wG_pure (e_ia_vwp rfl rfl (by omega) rfl) ?_
    | refine wG_pure (e_ia_vwm rfl rfl (by omega) (by omega) rfl) ?_
    | refine wG_pure (e_ia_vwi rfl rfl (by omega) rfl) ?_
    | refine wG_pure (e_ia_vwn rfl rfl (by omega) (by omega) rfl) ?_
    | refine wG_n rfl rfl ?_
    | refine wG_u rfl rfl ?_
    | refine wG_new (o_mks rfl rfl (by omega) (by decide)) ?_) | (first
    | refine wE_nil (by kernel_rfl) ?_
    | refine wE_gy rfl ?_
    | refine wE_gn rfl rfl rfl ?_
    | refine wE_gu rfl rfl ?_
    | refine wE_gnn rfl rfl rfl ?_
    | refine wE_v (o_len_vwm rfl) rfl ?_
    | refine wE_v (o_not_d rfl) rfl ?_
    | refine wE_p rfl (by first | exact rfl | omega) rfl ?_
    | refine wE_v (o_str2 rfl rfl rfl) rfl ?_
    | refine wE_v (e_istr rfl rfl (by omega)) rfl ?_
    | refine wE_v (e_istr0 rfl rfl (by omega)) rfl ?_
    | refine wE_v (o_not rfl) rfl ?_
    | refine wE_v (e_ia_vw0 rfl rfl (by omega) rfl) rfl ?_
    | refine wE_v (e_ia_vwp rfl rfl (by omega) rfl) rfl ?_
    | refine wE_v (e_ia_vwm rfl rfl (by omega) (by omega) rfl) rfl ?_
    | refine wE_v (e_ia_vwi rfl rfl (by omega) rfl) rfl ?_
    | refine wE_v (e_ia_vwn rfl rfl (by omega) (by omega) rfl) rfl ?_
    | refine wE_n rfl rfl rfl ?_
    | refine wE_u rfl rfl rfl ?_
    | refine wE_new (o_mks rfl rfl (by omega) (by decide)) rfl ?_) | (refine wG_gd rfl (fun hgt => ?_) (fun hgf => ?_) <;> (first | simp only [eq_true hgt, decide_true] | simp only [eq_false hgf, decide_false])) | refine wC_cond_d rfl (fun hg => ?_) (fun hg => ?_))
      all_goals (first | exact ret_boolE (.inr rfl) ⟨_, retV_mv rfl, rfl⟩ | (exfalso; omega) | trace_state)
end Go.Proofs.Yteoonedddgiacaa.Rec
