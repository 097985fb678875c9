/- The body of the law on mixed dates. -/
import Derived.Test.YtdljklicegcbpaaMixB
import Derived.Test.YtdljklicegcbpaaAb1
namespace Go.Proofs.Ytdljklicegcbpaa.Dst
open Go Go.Proofs.Ytdljklicegcbpaa.Ab Go.Proofs.Ytdljklicegcbpaa.Il
attribute [local irreducible] wpO wpC wpDr wpQ wpG wpE stepA seqQ blkQ Ret ev
set_option maxRecDepth 10000
set_option maxHeartbeats 8000000
set_option linter.unusedSimpArgs false
set_option linter.unusedVariables false
def ac13 : AC := (.seq (.reg [⟨(some 4), none, (.box 2 true (.t 0))⟩, ⟨(some 5), none, (.box 2 true (.t 1))⟩, ⟨(some 8), none, (.mv (.c (.bool false)))⟩]) (.seq (.reg [⟨(some 9), none, (.mv (.c (.int .i64 1048576)))⟩]) (.seq (.reg [⟨(some 21), none, (.ld true 2 (.t 4))⟩, ⟨(some 22), none, (.mv (.t 9))⟩, ⟨(some 23), none, (.call 16 [(.t 21), (.t 22)])⟩, ⟨(some 9), none, (.mv (.t 23))⟩]) (.seq (.seq (.reg [⟨(some 24), none, (.mv (.t 9))⟩, ⟨(some 25), none, (.bin .lss (.t 24) (.c (.int .i64 0)))⟩]) (.cond (.t 25) (.seq (.reg [⟨(some 8), none, (.mv (.c (.bool true)))⟩]) .ret) .skip)) (.seq (.reg [⟨(some 26), none, (.ld true 2 (.t 5))⟩, ⟨(some 27), none, (.mv (.t 9))⟩, ⟨(some 28), none, (.call 16 [(.t 26), (.t 27)])⟩, ⟨(some 9), none, (.mv (.t 28))⟩]) (.seq (.seq (.reg [⟨(some 29), none, (.mv (.t 9))⟩, ⟨(some 30), none, (.bin .lss (.t 29) (.c (.int .i64 0)))⟩]) (.cond (.t 30) (.seq (.reg [⟨(some 8), none, (.mv (.c (.bool true)))⟩]) .ret) .skip)) (.seq (.dreg [⟨(some 32), none, (.ld true 2 (.t 4))⟩, ⟨(some 33), none, (.call 18 [(.t 32)])⟩, ⟨(some 34), none, (.ld true 2 (.t 5))⟩, ⟨(some 35), none, (.call 18 [(.t 34)])⟩, ⟨(some 36), none, (.mv (.t 2))⟩, ⟨(some 37), none, (.mv (.t 3))⟩, ⟨(some 38), none, (.call 44 [(.t 33), (.t 35), (.t 36), (.t 37)])⟩, ⟨(some 31), none, (.mv (.t 38))⟩, ⟨(some 39), none, (.ext (.t 31) 0)⟩, ⟨(some 40), none, (.ext (.t 31) 1)⟩, ⟨(some 10), none, (.alloc [(.int .i64 0), .nilS])⟩, ⟨none, none, (.st 2 (.t 10) (.t 39))⟩, ⟨(some 11), none, (.mv (.t 40))⟩] [[], [0], [], [0, 1, 2], [], [], [0, 1, 2, 3, 4, 5], [0, 1, 2, 3, 4, 5, 6], [0, 1, 2, 3, 4, 5, 6, 7], [0, 1, 2, 3, 4, 5, 6, 7], [], [0, 1, 2, 3, 4, 5, 6, 7, 8, 10], [0, 1, 2, 3, 4, 5, 6, 7, 8, 9, 10, 11]]) (.seq (.reg [⟨(some 41), none, (.ld true 2 (.t 4))⟩, ⟨(some 42), none, (.call 18 [(.t 41)])⟩, ⟨(some 12), none, (.alloc [(.int .i64 0), .nilS])⟩, ⟨none, none, (.st 2 (.t 12) (.t 42))⟩]) (.seq (.reg [⟨(some 43), none, (.ld true 2 (.t 5))⟩, ⟨(some 44), none, (.call 18 [(.t 43)])⟩, ⟨(some 13), none, (.alloc [(.int .i64 0), .nilS])⟩, ⟨none, none, (.st 2 (.t 13) (.t 44))⟩]) (.seq (.reg [⟨(some 46), none, (.ld true 2 (.t 12))⟩, ⟨(some 47), none, (.ld true 2 (.t 13))⟩, ⟨(some 48), none, (.mv (.t 2))⟩, ⟨(some 49), none, (.mv (.t 3))⟩, ⟨(some 50), none, (.call 45 [(.t 46), (.t 47), (.t 48), (.t 49)])⟩, ⟨(some 45), none, (.mv (.t 50))⟩, ⟨(some 51), none, (.ext (.t 45) 0)⟩, ⟨(some 52), none, (.ext (.t 45) 1)⟩, ⟨(some 14), none, (.alloc [(.int .i64 0), .nilS])⟩, ⟨none, none, (.st 2 (.t 14) (.t 51))⟩, ⟨(some 15), none, (.mv (.t 52))⟩]) (.seq (.seq (.reg [⟨(some 53), none, (.ld true 2 (.t 14))⟩, ⟨(some 54), none, (.ld true 2 (.t 10))⟩, ⟨(some 55), none, (.call 20 [(.t 53), (.t 54)])⟩, ⟨(some 56), none, (.un .not (.t 55))⟩, ⟨(some 57), none, (.mv (.t 56))⟩, ⟨(some 58), (some (57, false)), (.mv (.t 15))⟩, ⟨(some 59), (some (57, false)), (.mv (.t 11))⟩, ⟨(some 60), (some (57, false)), (.bool2 true (.t 58) (.t 59))⟩, ⟨(some 61), none, (.pick (.t 57) (.c (.bool true)) (.t 60))⟩]) (.cond (.t 61) (.seq (.reg [⟨(some 8), none, (.mv (.c (.bool false)))⟩]) .ret) .skip)) (.seq (.seq (.dreg [⟨(some 62), none, (.ld true 2 (.t 12))⟩, ⟨(some 63), none, (.ld true 2 (.t 4))⟩, ⟨(some 64), none, (.call 18 [(.t 63)])⟩, ⟨(some 65), none, (.call 20 [(.t 62), (.t 64)])⟩, ⟨(some 66), none, (.un .not (.t 65))⟩] [[], [], [1], [0, 1, 2], [0, 1, 2, 3]]) (.cond (.t 66) (.seq (.reg [⟨(some 8), none, (.mv (.c (.bool false)))⟩]) .ret) .skip)) (.seq (.seq (.dreg [⟨(some 67), none, (.ld true 2 (.t 13))⟩, ⟨(some 68), none, (.ld true 2 (.t 5))⟩, ⟨(some 69), none, (.call 18 [(.t 68)])⟩, ⟨(some 70), none, (.call 20 [(.t 67), (.t 69)])⟩, ⟨(some 71), none, (.un .not (.t 70))⟩] [[], [], [1], [0, 1, 2], [0, 1, 2, 3]]) (.cond (.t 71) (.seq (.reg [⟨(some 8), none, (.mv (.c (.bool false)))⟩]) .ret) .skip)) (.seq (.reg [⟨(some 16), none, (.mv (.c (.int .i64 1)))⟩]) (.seq (.reg [⟨(some 72), none, (.ld true 2 (.t 12))⟩, ⟨(some 73), none, (.mv (.t 16))⟩, ⟨(some 74), none, (.call 33 [(.t 72), (.t 73)])⟩, ⟨(some 16), none, (.mv (.t 74))⟩]) (.seq (.reg [⟨(some 75), none, (.ld true 2 (.t 13))⟩, ⟨(some 76), none, (.mv (.t 16))⟩, ⟨(some 77), none, (.call 33 [(.t 75), (.t 76)])⟩, ⟨(some 16), none, (.mv (.t 77))⟩]) (.seq (.seq (.reg [⟨(some 78), none, (.mv (.t 16))⟩, ⟨(some 79), none, (.bin .lss (.t 78) (.c (.int .i64 0)))⟩, ⟨(some 80), none, (.mv (.t 79))⟩, ⟨(some 81), (some (80, false)), (.ld true 2 (.t 14))⟩, ⟨(some 82), (some (80, false)), (.ld true 2 (.t 10))⟩, ⟨(some 83), (some (80, false)), (.call 20 [(.t 81), (.t 82)])⟩, ⟨(some 84), (some (80, false)), (.un .not (.t 83))⟩, ⟨(some 85), none, (.pick (.t 80) (.c (.bool true)) (.t 84))⟩, ⟨(some 86), none, (.mv (.t 85))⟩, ⟨(some 87), (some (86, false)), (.mv (.t 15))⟩, ⟨(some 88), (some (86, false)), (.mv (.t 11))⟩, ⟨(some 89), (some (86, false)), (.bool2 true (.t 87) (.t 88))⟩, ⟨(some 90), none, (.pick (.t 86) (.c (.bool true)) (.t 89))⟩]) (.cond (.t 90) (.seq (.reg [⟨(some 8), none, (.mv (.c (.bool false)))⟩]) .ret) .skip)) (.seq (.reg [⟨(some 17), none, (.mv (.c (.int .i64 1)))⟩]) (.seq (.reg [⟨(some 91), none, (.ld true 2 (.t 14))⟩, ⟨(some 92), none, (.mv (.t 17))⟩, ⟨(some 93), none, (.call 33 [(.t 91), (.t 92)])⟩, ⟨(some 17), none, (.mv (.t 93))⟩]) (.seq (.reg [⟨(some 18), none, (.mv (.c (.int .i64 1)))⟩]) (.seq (.reg [⟨(some 94), none, (.ld true 2 (.t 14))⟩, ⟨(some 95), none, (.mv (.t 18))⟩, ⟨(some 96), none, (.call 34 [(.t 94), (.t 95)])⟩, ⟨(some 18), none, (.mv (.t 96))⟩]) (.seq (.seq (.reg [⟨(some 97), none, (.mv (.t 18))⟩, ⟨(some 98), none, (.bin .lss (.t 97) (.c (.int .i64 0)))⟩]) (.cond (.t 98) (.seq (.reg [⟨(some 8), none, (.mv (.c (.bool false)))⟩]) .ret) .skip)) (.seq (.seq (.reg [⟨(some 99), none, (.mv (.t 18))⟩, ⟨(some 100), none, (.mv (.t 17))⟩, ⟨(some 101), none, (.bin .neq (.t 99) (.t 100))⟩]) (.cond (.t 101) (.seq (.reg [⟨(some 8), none, (.mv (.c (.bool false)))⟩]) .ret) .skip)) (.seq (.dreg [⟨(some 103), none, (.ld true 2 (.t 4))⟩, ⟨(some 104), none, (.call 18 [(.t 103)])⟩, ⟨(some 105), none, (.ld true 2 (.t 5))⟩, ⟨(some 106), none, (.call 18 [(.t 105)])⟩, ⟨(some 107), none, (.mv (.t 2))⟩, ⟨(some 108), none, (.mv (.t 3))⟩, ⟨(some 109), none, (.call 45 [(.t 104), (.t 106), (.t 107), (.t 108)])⟩, ⟨(some 102), none, (.mv (.t 109))⟩, ⟨(some 110), none, (.ext (.t 102) 0)⟩, ⟨(some 111), none, (.ext (.t 102) 1)⟩, ⟨(some 19), none, (.alloc [(.int .i64 0), .nilS])⟩, ⟨none, none, (.st 2 (.t 19) (.t 110))⟩, ⟨(some 20), none, (.mv (.t 111))⟩] [[], [0], [], [0, 1, 2], [], [], [0, 1, 2, 3, 4, 5], [0, 1, 2, 3, 4, 5, 6], [0, 1, 2, 3, 4, 5, 6, 7], [0, 1, 2, 3, 4, 5, 6, 7], [], [0, 1, 2, 3, 4, 5, 6, 7, 8, 10], [0, 1, 2, 3, 4, 5, 6, 7, 8, 9, 10, 11]]) (.seq (.seq (.reg [⟨(some 112), none, (.ld true 2 (.t 19))⟩, ⟨(some 113), none, (.ld true 2 (.t 10))⟩, ⟨(some 114), none, (.call 20 [(.t 112), (.t 113)])⟩, ⟨(some 115), none, (.un .not (.t 114))⟩, ⟨(some 116), none, (.mv (.t 115))⟩, ⟨(some 117), (some (116, false)), (.mv (.t 20))⟩, ⟨(some 118), (some (116, false)), (.mv (.t 11))⟩, ⟨(some 119), (some (116, false)), (.bool2 true (.t 117) (.t 118))⟩, ⟨(some 120), none, (.pick (.t 116) (.c (.bool true)) (.t 119))⟩]) (.cond (.t 120) (.seq (.reg [⟨(some 8), none, (.mv (.c (.bool false)))⟩]) .ret) .skip)) (.seq (.reg [⟨(some 18), none, (.mv (.c (.int .i64 1)))⟩]) (.seq (.reg [⟨(some 121), none, (.ld true 2 (.t 14))⟩, ⟨(some 122), none, (.mv (.t 18))⟩, ⟨(some 123), none, (.call 34 [(.t 121), (.t 122)])⟩, ⟨(some 18), none, (.mv (.t 123))⟩]) (.seq (.seq (.reg [⟨(some 124), none, (.mv (.t 18))⟩, ⟨(some 125), none, (.bin .lss (.t 124) (.c (.int .i64 0)))⟩]) (.cond (.t 125) (.seq (.reg [⟨(some 8), none, (.mv (.c (.bool false)))⟩]) .ret) .skip)) (.seq (.seq (.reg [⟨(some 126), none, (.mv (.t 18))⟩, ⟨(some 127), none, (.mv (.t 17))⟩, ⟨(some 128), none, (.bin .neq (.t 126) (.t 127))⟩]) (.cond (.t 128) (.seq (.reg [⟨(some 8), none, (.mv (.c (.bool false)))⟩]) .ret) .skip)) (.seq (.reg [⟨(some 8), none, (.mv (.c (.bool true)))⟩]) .ret))))))))))))))))))))))))))))))
def ro13 : List AOp := [(.mv (.t 8))]
theorem fun13 : Fun Try.prog 13 129 ac13 ro13 := ⟨Try.f13, _, Try.func13, by kernel_rfl, rfl, rfl, by kernel_rfl, by kernel_rfl, by decide⟩
theorem con44_yes (nn mm : Bool) (a b : Ds) (h1 : a.ws.length ≤ 1048576) (h2 : b.ws.length ≤ 1048576) (num den : Int) (h : mixOK a b num den) : Con Try.prog 44 true [.agg (dRow nn a), .agg (dRow mm b), .int .i64 num, .int .i64 den] (dYes (mkO (mixF a b) (mixL a b num den))) [(mkO (mixF a b) (mixL a b num den)).ws.map iRow] :=
  con44_all nn mm a b h1 h2 num den _ _ _ rfl (plain_map iRow_plain _) ⟨fun _ => ⟨rfl, rfl, rfl⟩, fun hn => absurd h hn⟩
theorem con44_no (nn mm : Bool) (a b : Ds) (h1 : a.ws.length ≤ 1048576) (h2 : b.ws.length ≤ 1048576) (num den : Int) (h : ¬ mixOK a b num den) : Con Try.prog 44 true [.agg (dRow nn a), .agg (dRow mm b), .int .i64 num, .int .i64 den] dNo [] :=
  con44_all nn mm a b h1 h2 num den _ [] _ rfl plain_nil ⟨fun hy => absurd hy h, fun _ => ⟨rfl, rfl, rfl⟩⟩
theorem con45_yes (nn mm : Bool) (a b : Ds) (h1 : a.ws.length ≤ 1048576) (h2 : b.ws.length ≤ 1048576) (num den : Int) (h : mixOK a b num den) : Con Try.prog 45 true [.agg (dRow nn a), .agg (dRow mm b), .int .i64 num, .int .i64 den] (dYes (mkO (mixF a b) (mixL a b num den))) [(mkO (mixF a b) (mixL a b num den)).ws.map iRow] :=
  con45_all nn mm a b h1 h2 num den _ _ _ rfl (plain_map iRow_plain _) ⟨fun _ => ⟨rfl, rfl, rfl⟩, fun hn => absurd h hn⟩
theorem con45_no (nn mm : Bool) (a b : Ds) (h1 : a.ws.length ≤ 1048576) (h2 : b.ws.length ≤ 1048576) (num den : Int) (h : ¬ mixOK a b num den) : Con Try.prog 45 true [.agg (dRow nn a), .agg (dRow mm b), .int .i64 num, .int .i64 den] dNo [] :=
  con45_all nn mm a b h1 h2 num den _ [] _ rfl plain_nil ⟨fun hy => absurd hy h, fun _ => ⟨rfl, rfl, rfl⟩⟩
theorem con13 (nn mm : Bool) (a b : Ds) (h1 : a.ws.length ≤ 9223372036854775807) (h2 : b.ws.length ≤ 9223372036854775807) (num den : Int) : Con Try.prog 13 true [.agg (dRow nn a), .agg (dRow mm b), .int .i64 num, .int .i64 den] (.bool true) [] := by
  refine con_of_wp mixed fun13 (by simp) [] plain_nil ?_
  unfold ac13 ro13
  simp only [zipT]
  have ca := con16 nn a h1 1048576 (by decide) (by decide)
  by_cases hs : (a.ws.length : Int) ≤ 1048576
  · rw [if_pos hs] at ca
    have cb := con16 mm b h2 (1048576 - (a.ws.length : Int)) (by omega) (by omega)
    by_cases ht : (b.ws.length : Int) ≤ 1048576 - (a.ws.length : Int)
    · rw [if_pos ht] at cb
      have hs' : a.ws.length ≤ 1048576 := by omega
      have ht' : b.ws.length ≤ 1048576 := by omega
      have c1 := con18 nn a hs'
      have c1b := con18 mm b ht'
      have c4 := con20_same true true a hs'
      have c4b := con20_same true true b ht'
      have sa := fun k h0 h1 h nr r => @sh33 a k hs' h0 h1 h nr r
      have sb := fun k h0 h1 h nr r => @sh33 b k ht' h0 h1 h nr r
      by_cases hG : mixOK a b num den
      · have c2 := con44_yes true true a b hs' ht' num den hG
        have c3 := con45_yes true true a b hs' ht' num den hG
        have hl := hG.2.2.len
        generalize mkO (mixF a b) (mixL a b num den) = e at *
        have hd : e.ws.length ≤ 1048576 := by omega
        have c5 := con20_same true true e hd
        have c6 := con34 true e.f e.ws.length 1 hd (by decide) (by decide)
        have sm := fun h nr r => @sh33 e 1 hd (by decide) (by decide) h nr r
        clear hG
        obtain ⟨fa, wa⟩ := a
        obtain ⟨fb, wb⟩ := b
        obtain ⟨g, vs⟩ := e
        unfold dYes dRow at *
        simp only at *
        repeat' (first
          | refine wC_dregE ?_ | refine wG_call ca rfl rfl ?_ | refine wG_call cb rfl rfl ?_ | refine wG_call1 c1 rfl rfl ?_ | refine wG_call1 c1b rfl rfl ?_ | refine wG_call1 c3 (ag_is rfl rfl rfl iRow_plain (ag_is rfl rfl rfl iRow_plain (ag_int rfl (ag_int rfl ag_nil)))) rfl ?_ | refine wG_call c5 (ag_is rfl rfl rfl iRow_plain (ag_is rfl rfl rfl iRow_plain ag_nil)) rfl ?_ | refine wG_call c6 (ag_is rfl rfl (mks_len _ _).symm iRow_plain (ag_int rfl ag_nil)) rfl ?_
          | refine wE_call1 c1 rfl rfl rfl ?_ | refine wE_call1 c1b rfl rfl rfl ?_ | refine wE_call1 c2 (ag_is rfl rfl rfl iRow_plain (ag_is rfl rfl rfl iRow_plain (ag_int rfl (ag_int rfl ag_nil)))) rfl (rd_is rfl rfl iRow_plain (rd_is rfl rfl iRow_plain (rd_pl rfl (rd_pl rfl rd_nil)))) ?_ | refine wE_call1 c3 (ag_is rfl rfl rfl iRow_plain (ag_is rfl rfl rfl iRow_plain (ag_int rfl (ag_int rfl ag_nil)))) rfl (rd_is rfl rfl iRow_plain (rd_is rfl rfl iRow_plain (rd_pl rfl (rd_pl rfl rd_nil)))) ?_ | refine wE_call c4 (ag_is rfl rfl rfl iRow_plain (ag_is rfl rfl rfl iRow_plain ag_nil)) rfl rfl ?_ | refine wE_call c4b (ag_is rfl rfl rfl iRow_plain (ag_is rfl rfl rfl iRow_plain ag_nil)) rfl rfl ?_ | refine wE_call c5 (ag_is rfl rfl rfl iRow_plain (ag_is rfl rfl rfl iRow_plain ag_nil)) rfl rfl ?_
          | (refine wG_callS (f := 33) (sa _ (by omega) (by omega) _ _ _ rfl ?_) rfl ?_ <;> (repeat' (first | exact ltrI _ _ | exact ltrC _ _ | exact ltrI [] _ | exact wfH_nil | refine wfH_cons (by decide) ?_ ?_ | refine wfH_none ?_ | exact ltr_dec rfl)))
          | (refine wG_callS (f := 33) (sb _ (by omega) (by omega) _ _ _ rfl ?_) rfl ?_ <;> (repeat' (first | exact ltrI _ _ | exact ltrC _ _ | exact ltrI [] _ | exact wfH_nil | refine wfH_cons (by decide) ?_ ?_ | refine wfH_none ?_ | exact ltr_dec rfl)))
          | (refine wG_callS (f := 33) (sm _ _ _ rfl ?_) rfl ?_ <;> (repeat' (first | exact ltrI _ _ | exact ltrC _ _ | exact ltrI [] _ | exact wfH_nil | refine wfH_cons (by decide) ?_ ?_ | refine wfH_none ?_ | exact ltr_dec rfl)))
          | (first
    | refine wC_a rfl ?_
    | refine q_s rfl ?_
    | refine q_b rfl ?_
    | refine wG_nil ?_
    | refine wG_g rfl ?_
    | refine wG_pure (o_len_vwm rfl) ?_
    | refine wG_pure (o_not_d rfl) ?_
    | refine wG_p rfl (by first | exact rfl | omega) ?_
    | refine wG_pure (o_not rfl) ?_
    | refine wG_pure (e_ia_vw0 rfl rfl (by omega) rfl) ?_
    | refine wG_pure (e_ia_vwp rfl rfl (by omega) rfl) ?_
    | refine wG_pure (e_ia_vwm rfl rfl (by omega) (by omega) rfl) ?_
    | refine wG_pure (e_ia_vwi rfl rfl (by omega) rfl) ?_
    | refine wG_pure (e_ia_vwn rfl rfl (by omega) (by omega) rfl) ?_
    | refine wG_n rfl rfl ?_
    | refine wG_u rfl rfl ?_
    | refine wG_new (o_mks rfl rfl (by omega) (by decide)) ?_) | (first
    | refine wE_nil rfl ?_
    | refine wE_gy rfl ?_
    | refine wE_gn rfl rfl rfl ?_
    | refine wE_gu rfl rfl ?_
    | refine wE_gnn rfl rfl rfl ?_
    | refine wE_v (o_len_vwm rfl) rfl ?_
    | refine wE_v (o_not_d rfl) rfl ?_
    | refine wE_p rfl (by first | exact rfl | omega) rfl ?_
    | refine wE_v (o_not rfl) rfl ?_
    | refine wE_v (e_ia_vw0 rfl rfl (by omega) rfl) rfl ?_
    | refine wE_v (e_ia_vwp rfl rfl (by omega) rfl) rfl ?_
    | refine wE_v (e_ia_vwm rfl rfl (by omega) (by omega) rfl) rfl ?_
    | refine wE_v (e_ia_vwi rfl rfl (by omega) rfl) rfl ?_
    | refine wE_v (e_ia_vwn rfl rfl (by omega) (by omega) rfl) rfl ?_
    | refine wE_n rfl rfl rfl ?_
    | refine wE_u rfl rfl rfl ?_
    | refine wE_new (o_mks rfl rfl (by omega) (by decide)) rfl ?_) | (refine wG_gd rfl (fun hgt => ?_) (fun hgf => ?_) <;> (first | simp only [eq_true hgt, decide_true] | simp only [eq_false hgf, decide_false])) | refine wC_cond_d rfl (fun hg => ?_) (fun hg => ?_))
        all_goals (first | exact ret_boolE (.inr rfl) ⟨_, retV_mv rfl, rfl⟩ | (exfalso; omega) | trace_state)
      · have c2 := con44_no true true a b hs' ht' num den hG
        have c3 := con45_no true true a b hs' ht' num den hG
        have c5 := eqD_no
        have c6 := heldD_no
        have c7 := con33_nil 0 1
        clear hG
        obtain ⟨fa, wa⟩ := a
        obtain ⟨fb, wb⟩ := b
        unfold dNo dRow at *
        simp only at *
        repeat' (first
          | refine wC_dregE ?_ | refine wG_call ca rfl rfl ?_ | refine wG_call cb rfl rfl ?_ | refine wG_call1 c1 rfl rfl ?_ | refine wG_call1 c1b rfl rfl ?_ | refine wG_call c3 (ag_is rfl rfl rfl iRow_plain (ag_is rfl rfl rfl iRow_plain (ag_int rfl (ag_int rfl ag_nil)))) rfl ?_ | refine wG_call c5 rfl rfl ?_ | refine wG_call c6 rfl rfl ?_ | refine wG_call c7 rfl rfl ?_
          | refine wE_call1 c1 rfl rfl rfl ?_ | refine wE_call1 c1b rfl rfl rfl ?_ | refine wE_call c2 (ag_is rfl rfl rfl iRow_plain (ag_is rfl rfl rfl iRow_plain (ag_int rfl (ag_int rfl ag_nil)))) rfl (rd_is rfl rfl iRow_plain (rd_is rfl rfl iRow_plain (rd_pl rfl (rd_pl rfl rd_nil)))) ?_ | refine wE_call c3 (ag_is rfl rfl rfl iRow_plain (ag_is rfl rfl rfl iRow_plain (ag_int rfl (ag_int rfl ag_nil)))) rfl (rd_is rfl rfl iRow_plain (rd_is rfl rfl iRow_plain (rd_pl rfl (rd_pl rfl rd_nil)))) ?_ | refine wE_call c4 (ag_is rfl rfl rfl iRow_plain (ag_is rfl rfl rfl iRow_plain ag_nil)) rfl rfl ?_ | refine wE_call c4b (ag_is rfl rfl rfl iRow_plain (ag_is rfl rfl rfl iRow_plain ag_nil)) rfl rfl ?_ | refine wE_call c5 rfl rfl rfl ?_
          | (refine wG_callS (f := 33) (sa _ (by omega) (by omega) _ _ _ rfl ?_) rfl ?_ <;> (repeat' (first | exact ltrI _ _ | exact ltrC _ _ | exact ltrI [] _ | exact wfH_nil | refine wfH_cons (by decide) ?_ ?_ | refine wfH_none ?_ | exact ltr_dec rfl)))
          | (refine wG_callS (f := 33) (sb _ (by omega) (by omega) _ _ _ rfl ?_) rfl ?_ <;> (repeat' (first | exact ltrI _ _ | exact ltrC _ _ | exact ltrI [] _ | exact wfH_nil | refine wfH_cons (by decide) ?_ ?_ | refine wfH_none ?_ | exact ltr_dec rfl)))
          | (first
    | refine wC_a rfl ?_
    | refine q_s rfl ?_
    | refine q_b rfl ?_
    | refine wG_nil ?_
    | refine wG_g rfl ?_
    | refine wG_pure (o_len_vwm rfl) ?_
    | refine wG_pure (o_not_d rfl) ?_
    | refine wG_p rfl (by first | exact rfl | omega) ?_
    | refine wG_pure (o_not rfl) ?_
    | refine wG_pure (e_ia_vw0 rfl rfl (by omega) rfl) ?_
    | refine wG_pure (e_ia_vwp rfl rfl (by omega) rfl) ?_
    | refine wG_pure (e_ia_vwm rfl rfl (by omega) (by omega) rfl) ?_
    | refine wG_pure (e_ia_vwi rfl rfl (by omega) rfl) ?_
    | refine wG_pure (e_ia_vwn rfl rfl (by omega) (by omega) rfl) ?_
    | refine wG_n rfl rfl ?_
    | refine wG_u rfl rfl ?_
    | refine wG_new (o_mks rfl rfl (by omega) (by decide)) ?_) | (first
    | refine wE_nil rfl ?_
    | refine wE_gy rfl ?_
    | refine wE_gn rfl rfl rfl ?_
    | refine wE_gu rfl rfl ?_
    | refine wE_gnn rfl rfl rfl ?_
    | refine wE_v (o_len_vwm rfl) rfl ?_
    | refine wE_v (o_not_d rfl) rfl ?_
    | refine wE_p rfl (by first | exact rfl | omega) rfl ?_
    | refine wE_v (o_not rfl) rfl ?_
    | refine wE_v (e_ia_vw0 rfl rfl (by omega) rfl) rfl ?_
    | refine wE_v (e_ia_vwp rfl rfl (by omega) rfl) rfl ?_
    | refine wE_v (e_ia_vwm rfl rfl (by omega) (by omega) rfl) rfl ?_
    | refine wE_v (e_ia_vwi rfl rfl (by omega) rfl) rfl ?_
    | refine wE_v (e_ia_vwn rfl rfl (by omega) (by omega) rfl) rfl ?_
    | refine wE_n rfl rfl rfl ?_
    | refine wE_u rfl rfl rfl ?_
    | refine wE_new (o_mks rfl rfl (by omega) (by decide)) rfl ?_) | (refine wG_gd rfl (fun hgt => ?_) (fun hgf => ?_) <;> (first | simp only [eq_true hgt, decide_true] | simp only [eq_false hgf, decide_false])) | refine wC_cond_d rfl (fun hg => ?_) (fun hg => ?_))
        all_goals (first | exact ret_boolE (.inr rfl) ⟨_, retV_mv rfl, rfl⟩ | (exfalso; omega) | trace_state)
    · rw [if_neg ht] at cb
      repeat' (first | refine wG_call ca rfl rfl ?_ | refine wG_call cb rfl rfl ?_ | (first
    | refine wC_a rfl ?_
    | refine q_s rfl ?_
    | refine q_b rfl ?_
    | refine wG_nil ?_
    | refine wG_g rfl ?_
    | refine wG_pure (o_len_vwm rfl) ?_
    | refine wG_pure (o_not_d rfl) ?_
    | refine wG_p rfl (by first | exact rfl | omega) ?_
    | refine wG_pure (o_not rfl) ?_
    | refine wG_pure (e_ia_vw0 rfl rfl (by omega) rfl) ?_
    | refine wG_pure (e_ia_vwp rfl rfl (by omega) rfl) ?_
    | refine wG_pure (e_ia_vwm rfl rfl (by omega) (by omega) rfl) ?_
    | refine wG_pure (e_ia_vwi rfl rfl (by omega) rfl) ?_
    | refine wG_pure (e_ia_vwn rfl rfl (by omega) (by omega) rfl) ?_
    | refine wG_n rfl rfl ?_
    | refine wG_u rfl rfl ?_
    | refine wG_new (o_mks rfl rfl (by omega) (by decide)) ?_) | (refine wG_gd rfl (fun hgt => ?_) (fun hgf => ?_) <;> (first | simp only [eq_true hgt, decide_true] | simp only [eq_false hgf, decide_false])) | refine wC_cond_d rfl (fun hg => ?_) (fun hg => ?_))
      all_goals (first | exact ret_boolE (.inr rfl) ⟨_, retV_mv rfl, rfl⟩ | (exfalso; omega))
  · rw [if_neg hs] at ca
    repeat (first | refine wG_call ca rfl rfl ?_ | (first
    | refine wC_a rfl ?_
    | refine q_s rfl ?_
    | refine q_b rfl ?_
    | refine wG_nil ?_
    | refine wG_g rfl ?_
    | refine wG_pure (o_len_vwm rfl) ?_
    | refine wG_pure (o_not_d rfl) ?_
    | refine wG_p rfl (by first | exact rfl | omega) ?_
    | refine wG_pure (o_not rfl) ?_
    | refine wG_pure (e_ia_vw0 rfl rfl (by omega) rfl) ?_
    | refine wG_pure (e_ia_vwp rfl rfl (by omega) rfl) ?_
    | refine wG_pure (e_ia_vwm rfl rfl (by omega) (by omega) rfl) ?_
    | refine wG_pure (e_ia_vwi rfl rfl (by omega) rfl) ?_
    | refine wG_pure (e_ia_vwn rfl rfl (by omega) (by omega) rfl) ?_
    | refine wG_n rfl rfl ?_
    | refine wG_u rfl rfl ?_
    | refine wG_new (o_mks rfl rfl (by omega) (by decide)) ?_))
    exact ret_boolE (.inr rfl) ⟨_, retV_mv rfl, rfl⟩
end Go.Proofs.Ytdljklicegcbpaa.Dst
