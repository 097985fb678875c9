/- The weight of a year: both sides, and the body of the law. -/
import Derived.Test.YtdljklicegcbpaaDwaA
namespace Go.Proofs.Ytdljklicegcbpaa.Dst
open Go Go.Proofs.Ytdljklicegcbpaa.Ab Go.Proofs.Ytdljklicegcbpaa.Il
attribute [local irreducible] wpO wpC wpDr wpQ wpG wpE stepA seqQ blkQ Ret ev
set_option maxRecDepth 10000
set_option maxHeartbeats 4000000
set_option linter.unusedSimpArgs false
set_option linter.unusedVariables false
def ac4 : AC := (.seq (.reg [⟨(some 2), none, (.box 2 true (.t 0))⟩, ⟨(some 4), none, (.mv (.c (.bool false)))⟩]) (.seq (.reg [⟨(some 5), none, (.mv (.c (.int .i64 1048576)))⟩]) (.seq (.reg [⟨(some 13), none, (.ld true 2 (.t 2))⟩, ⟨(some 14), none, (.mv (.t 5))⟩, ⟨(some 15), none, (.call 16 [(.t 13), (.t 14)])⟩, ⟨(some 5), none, (.mv (.t 15))⟩]) (.seq (.seq (.reg [⟨(some 16), none, (.mv (.t 5))⟩, ⟨(some 17), none, (.bin .lss (.t 16) (.c (.int .i64 0)))⟩]) (.cond (.t 17) (.seq (.reg [⟨(some 4), none, (.mv (.c (.bool true)))⟩]) .ret) .skip)) (.seq (.reg [⟨(some 19), none, (.ld true 2 (.t 2))⟩, ⟨(some 20), none, (.call 18 [(.t 19)])⟩, ⟨(some 21), none, (.mv (.t 1))⟩, ⟨(some 22), none, (.call 21 [(.t 20), (.t 21)])⟩, ⟨(some 18), none, (.mv (.t 22))⟩, ⟨(some 23), none, (.ext (.t 18) 0)⟩, ⟨(some 24), none, (.ext (.t 18) 1)⟩, ⟨(some 25), none, (.ext (.t 18) 2)⟩, ⟨(some 6), none, (.mv (.t 23))⟩, ⟨(some 7), none, (.mv (.t 24))⟩, ⟨(some 8), none, (.mv (.t 25))⟩]) (.seq (.reg [⟨(some 26), none, (.ld true 2 (.t 2))⟩, ⟨(some 27), none, (.call 18 [(.t 26)])⟩, ⟨(some 9), none, (.alloc [(.int .i64 0), .nilS])⟩, ⟨none, none, (.st 2 (.t 9) (.t 27))⟩]) (.seq (.reg [⟨(some 29), none, (.ld true 2 (.t 9))⟩, ⟨(some 30), none, (.mv (.t 1))⟩, ⟨(some 31), none, (.call 22 [(.t 29), (.t 30)])⟩, ⟨(some 28), none, (.mv (.t 31))⟩, ⟨(some 32), none, (.ext (.t 28) 0)⟩, ⟨(some 33), none, (.ext (.t 28) 1)⟩, ⟨(some 34), none, (.ext (.t 28) 2)⟩, ⟨(some 10), none, (.mv (.t 32))⟩, ⟨(some 11), none, (.mv (.t 33))⟩, ⟨(some 12), none, (.mv (.t 34))⟩]) (.seq (.seq (.reg [⟨(some 35), none, (.mv (.t 10))⟩, ⟨(some 36), none, (.mv (.t 6))⟩, ⟨(some 37), none, (.bin .neq (.t 35) (.t 36))⟩, ⟨(some 38), none, (.mv (.t 37))⟩, ⟨(some 39), (some (38, false)), (.mv (.t 11))⟩, ⟨(some 40), (some (38, false)), (.mv (.t 7))⟩, ⟨(some 41), (some (38, false)), (.bin .neq (.t 39) (.t 40))⟩, ⟨(some 42), none, (.pick (.t 38) (.c (.bool true)) (.t 41))⟩, ⟨(some 43), none, (.mv (.t 42))⟩, ⟨(some 44), (some (43, false)), (.mv (.t 12))⟩, ⟨(some 45), (some (43, false)), (.mv (.t 8))⟩, ⟨(some 46), (some (43, false)), (.bool2 true (.t 44) (.t 45))⟩, ⟨(some 47), none, (.pick (.t 43) (.c (.bool true)) (.t 46))⟩]) (.cond (.t 47) (.seq (.reg [⟨(some 4), none, (.mv (.c (.bool false)))⟩]) .ret) .skip)) (.seq (.seq (.dreg [⟨(some 48), none, (.ld true 2 (.t 9))⟩, ⟨(some 49), none, (.ld true 2 (.t 2))⟩, ⟨(some 50), none, (.call 18 [(.t 49)])⟩, ⟨(some 51), none, (.call 20 [(.t 48), (.t 50)])⟩, ⟨(some 52), none, (.un .not (.t 51))⟩] [[], [], [1], [0, 1, 2], [0, 1, 2, 3]]) (.cond (.t 52) (.seq (.reg [⟨(some 4), none, (.mv (.c (.bool false)))⟩]) .ret) .skip)) (.seq (.reg [⟨(some 4), none, (.mv (.c (.bool true)))⟩]) .ret))))))))))
def ro4 : List AOp := [(.mv (.t 4))]
theorem fun4 : Fun Try.prog 4 53 ac4 ro4 := ⟨Try.f4, _, Try.func4, by kernel_rfl, rfl, rfl, by kernel_rfl, by kernel_rfl, by decide⟩
def ac21 : AC := (.seq (.reg [⟨(some 2), none, (.box 2 true (.t 0))⟩, ⟨(some 4), none, (.mv (.c (.int .i64 0)))⟩, ⟨(some 5), none, (.mv (.c (.int .i64 0)))⟩, ⟨(some 6), none, (.mv (.c (.bool false)))⟩]) (.seq (.seq (.reg [⟨(some 7), none, (.ld true 2 (.t 2))⟩, ⟨(some 8), none, (.call 60 [(.t 7)])⟩, ⟨(some 9), none, (.un .not (.t 8))⟩, ⟨(some 10), none, (.mv (.t 9))⟩, ⟨(some 11), (some (10, false)), (.mv (.t 1))⟩, ⟨(some 12), (some (10, false)), (.call 67 [(.t 11), (.c (.int .i64 (-20000))), (.c (.int .i64 2100))])⟩, ⟨(some 13), (some (10, false)), (.un .not (.t 12))⟩, ⟨(some 14), none, (.pick (.t 10) (.c (.bool true)) (.t 13))⟩]) (.cond (.t 14) (.seq (.reg [⟨(some 4), none, (.mv (.c (.int .i64 0)))⟩, ⟨(some 5), none, (.mv (.c (.int .i64 0)))⟩, ⟨(some 6), none, (.mv (.c (.bool false)))⟩]) .ret) .skip)) (.seq (.dreg [⟨(some 15), none, (.ld true 2 (.t 2))⟩, ⟨(some 16), none, (.mv (.t 1))⟩, ⟨(some 17), none, (.call 68 [(.t 15), (.t 16)])⟩, ⟨(some 18), none, (.fa 1 (.t 2))⟩, ⟨(some 19), none, (.ld false 1 (.t 18))⟩, ⟨(some 20), none, (.call 69 [(.t 19)])⟩, ⟨(some 4), none, (.mv (.t 17))⟩, ⟨(some 5), none, (.mv (.t 20))⟩, ⟨(some 6), none, (.mv (.c (.bool true)))⟩] [[], [], [0, 1], [], [3], [0, 1, 2, 3, 4], [0, 1, 2, 3, 4, 5], [0, 1, 2, 3, 4, 5, 6], [0, 1, 2, 3, 4, 5, 6, 7]]) .ret)))
def ro21 : List AOp := [(.mv (.t 4)), (.mv (.t 5)), (.mv (.t 6))]
theorem fun21 : Fun Try.prog 21 21 ac21 ro21 := ⟨Try.f21, _, Try.func21, by kernel_rfl, rfl, rfl, by kernel_rfl, by kernel_rfl, by decide⟩
def ac22 : AC := (.seq (.reg [⟨(some 2), none, (.box 2 true (.t 0))⟩, ⟨(some 4), none, (.mv (.c (.int .i64 0)))⟩, ⟨(some 5), none, (.mv (.c (.int .i64 0)))⟩, ⟨(some 6), none, (.mv (.c (.bool false)))⟩]) (.seq (.seq (.reg [⟨(some 7), none, (.ld true 2 (.t 2))⟩, ⟨(some 8), none, (.call 19 [(.t 7)])⟩, ⟨(some 9), none, (.un .not (.t 8))⟩, ⟨(some 10), none, (.mv (.t 9))⟩, ⟨(some 11), (some (10, false)), (.mv (.t 1))⟩, ⟨(some 12), (some (10, false)), (.call 61 [(.t 11)])⟩, ⟨(some 13), (some (10, false)), (.un .not (.t 12))⟩, ⟨(some 14), none, (.pick (.t 10) (.c (.bool true)) (.t 13))⟩]) (.cond (.t 14) (.seq (.reg [⟨(some 4), none, (.mv (.c (.int .i64 0)))⟩, ⟨(some 5), none, (.mv (.c (.int .i64 0)))⟩, ⟨(some 6), none, (.mv (.c (.bool false)))⟩]) .ret) .skip)) (.seq (.dreg [⟨(some 15), none, (.ld true 2 (.t 2))⟩, ⟨(some 16), none, (.mv (.t 1))⟩, ⟨(some 17), none, (.call 70 [(.t 15), (.t 16)])⟩, ⟨(some 18), none, (.ld true 2 (.t 2))⟩, ⟨(some 19), none, (.call 71 [(.t 18)])⟩, ⟨(some 4), none, (.mv (.t 17))⟩, ⟨(some 5), none, (.mv (.t 19))⟩, ⟨(some 6), none, (.mv (.c (.bool true)))⟩] [[], [], [0, 1], [], [0, 1, 2, 3], [0, 1, 2, 3, 4], [0, 1, 2, 3, 4, 5], [0, 1, 2, 3, 4, 5, 6]]) .ret)))
def ro22 : List AOp := [(.mv (.t 4)), (.mv (.t 5)), (.mv (.t 6))]
theorem fun22 : Fun Try.prog 22 20 ac22 ro22 := ⟨Try.f22, _, Try.func22, by kernel_rfl, rfl, rfl, by kernel_rfl, by kernel_rfl, by decide⟩

def wOK (d : Ds) (year : Int) : Prop := GoodD d ∧ (-20000 ≤ year ∧ year ≤ 2100)
open Classical in
noncomputable def wA (d : Ds) (year : Int) : Int := if wOK d year then atY d year else 0
open Classical in
noncomputable def wB (d : Ds) (year : Int) : Int := if wOK d year then total d else 0
open Classical in
theorem con21 (nn : Bool) (d : Ds) (hlen : d.ws.length ≤ 1048576) (year : Int) : Con Try.prog 21 true [.agg (dRow nn d), .int .i64 year] (.tup [.int .i64 (wA d year), .int .i64 (wB d year), .bool (decide (wOK d year))]) [] := by
  refine con_of_wp mixed fun21 (by simp) [] plain_nil ?_
  unfold ac21 ro21 wA wB
  simp only [zipT]
  have c1 := con60 nn d hlen
  have c2 := con67 year (-20000) 2100
  by_cases hG : GoodD d
  · rw [decide_eq_true hG] at c1
    have c3 := con68 nn d hG year
    have c4 := con69 nn d.ws (by have := hG.1; omega) hG.bnd (by decide) (by have := hG.1; omega)
    by_cases hy : -20000 ≤ year ∧ year ≤ 2100
    · rw [decide_eq_true hy] at c2
      have hw : wOK d year := ⟨hG, hy⟩
      rw [if_pos hw, if_pos hw, decide_eq_true hw]
      unfold dRow at *
      repeat (first | refine wG_call c1 rfl rfl ?_ | refine wG_call c2 rfl rfl ?_ | refine wG_call c3 rfl rfl ?_ | refine wG_call c4 rfl rfl ?_ | (first
    | refine wC_seq ?_
    | refine wC_reg ?_
    | refine wC_dregq rfl ?_
    | refine wC_dregE ?_
    | refine wC_skip ?_
    | refine wC_blk ?_
    | refine wC_exit ?_
    | refine wC_ret ?_
    | refine q_seq_n ?_
    | refine q_seq_x ?_
    | refine q_seq_r ?_
    | refine q_blk_n ?_
    | refine q_blk_r ?_
    | refine q_blk_x ?_
    | refine q_blk_o rfl ?_
    | refine wG_nil ?_
    | refine wG_gy rfl ?_
    | refine wG_gn rfl rfl ?_
    | refine wG_gu rfl ?_
    | refine wC_cond_t rfl ?_
    | refine wC_cond_f rfl ?_
    | refine wG_pure (o_mv rfl) ?_
    | refine wG_pure (o_pick_t rfl rfl) ?_
    | refine wG_pure (o_pick_f rfl rfl) ?_
    | refine wG_pure (o_ldf_pt rfl rfl rfl rfl) ?_
    | refine wG_pure (o_ldt_pt rfl rfl rfl rfl rfl) ?_
    | refine wG_pure (o_ldf_vp rfl) ?_
    | refine wG_pure (o_ldt_vp rfl rfl rfl) ?_
    | refine wG_pure (o_fa_pt rfl) ?_
    | refine wG_pure (o_fa_vp rfl rfl) ?_
    | refine wG_pure (o_nck_pt rfl) ?_
    | refine wG_pure (o_nck_vp rfl) ?_
    | refine wG_pure (o_nck_fn rfl) ?_
    | refine wG_pure (e_ia_vw0 rfl rfl (by omega) rfl) ?_
    | refine wG_pure (e_ia_vwp rfl rfl (by omega) rfl) ?_
    | refine wG_pure (e_ia_vwm rfl rfl (by omega) (by omega) rfl) ?_
    | refine wG_pure (e_ia_vwi rfl rfl (by omega) rfl) ?_
    | refine wG_pure (e_ia_vwn rfl rfl (by omega) (by omega) rfl) ?_
    | refine wG_pure (e_add rfl rfl (by omega) (by omega)) ?_
    | refine wG_pure (e_sub rfl rfl (by omega) (by omega)) ?_
    | refine wG_pure (e_mul rfl rfl (by omega) (by omega)) ?_
    | refine wG_pure (o_lss rfl rfl) ?_
    | refine wG_pure (o_leq rfl rfl) ?_
    | refine wG_pure (o_gtr rfl rfl) ?_
    | refine wG_pure (o_geq rfl rfl) ?_
    | refine wG_pure (o_eql rfl rfl) ?_
    | refine wG_pure (o_neq rfl rfl) ?_
    | refine wG_pure (o_not_d rfl) ?_
    | refine wG_pure (o_not rfl) ?_
    | refine wG_pure (o_beq rfl rfl) ?_
    | refine wG_pure (o_bne rfl rfl) ?_
    | refine wG_pure (o_build rfl) ?_
    | refine wG_pure (o_isnil_vw rfl rfl) ?_
    | refine wG_pure (o_isnil_sl rfl rfl) ?_
    | refine wG_pure (o_isnil_nil rfl rfl) ?_
    | refine wG_pure (o_len_sl rfl) ?_
    | refine wG_pure (o_len_vwm rfl) ?_
    | refine wG_pure (o_len_vw rfl) ?_
    | refine wG_pure (o_len_nil rfl) ?_
    | refine wG_pure (o_slen rfl) ?_
    | refine wG_pure (o_fldf rfl rfl) ?_
    | refine wG_pure (o_fldt rfl rfl rfl) ?_
    | refine wG_pure (o_ext rfl rfl) ?_
    | refine wG_pure (o_mx rfl rfl) ?_
    | refine wG_pure (o_mn rfl rfl) ?_
    | refine wG_pure (o_neg rfl (by omega) (by omega)) ?_
    | refine wG_new (o_alloc) ?_
    | refine wG_new (o_bsl rfl) ?_
    | refine wG_new (o_box_agg rfl rfl) ?_
    | refine wG_new (o_mks rfl rfl (by omega) (by decide)) ?_
    | refine wG_new (o_box1 rfl) ?_
    | refine wG_upd (o_st_agg rfl rfl rfl rfl rfl rfl rfl) ?_
    | refine wG_upd (o_st1 rfl rfl rfl rfl rfl rfl) ?_))
      exact ret_3 (.inr rfl) rfl rfl rfl ⟨_, _, _, retV_mv rfl, retV_mv rfl, retV_mv rfl, rfl, rfl, rfl⟩
    · rw [decide_eq_false hy] at c2
      have hw : ¬ wOK d year := fun h => hy h.2
      rw [if_neg hw, if_neg hw, decide_eq_false hw]
      unfold dRow at *
      repeat (first | refine wG_call c1 rfl rfl ?_ | refine wG_call c2 rfl rfl ?_ | (first
    | refine wC_seq ?_
    | refine wC_reg ?_
    | refine wC_dregq rfl ?_
    | refine wC_dregE ?_
    | refine wC_skip ?_
    | refine wC_blk ?_
    | refine wC_exit ?_
    | refine wC_ret ?_
    | refine q_seq_n ?_
    | refine q_seq_x ?_
    | refine q_seq_r ?_
    | refine q_blk_n ?_
    | refine q_blk_r ?_
    | refine q_blk_x ?_
    | refine q_blk_o rfl ?_
    | refine wG_nil ?_
    | refine wG_gy rfl ?_
    | refine wG_gn rfl rfl ?_
    | refine wG_gu rfl ?_
    | refine wC_cond_t rfl ?_
    | refine wC_cond_f rfl ?_
    | refine wG_pure (o_mv rfl) ?_
    | refine wG_pure (o_pick_t rfl rfl) ?_
    | refine wG_pure (o_pick_f rfl rfl) ?_
    | refine wG_pure (o_ldf_pt rfl rfl rfl rfl) ?_
    | refine wG_pure (o_ldt_pt rfl rfl rfl rfl rfl) ?_
    | refine wG_pure (o_ldf_vp rfl) ?_
    | refine wG_pure (o_ldt_vp rfl rfl rfl) ?_
    | refine wG_pure (o_fa_pt rfl) ?_
    | refine wG_pure (o_fa_vp rfl rfl) ?_
    | refine wG_pure (o_nck_pt rfl) ?_
    | refine wG_pure (o_nck_vp rfl) ?_
    | refine wG_pure (o_nck_fn rfl) ?_
    | refine wG_pure (e_ia_vw0 rfl rfl (by omega) rfl) ?_
    | refine wG_pure (e_ia_vwp rfl rfl (by omega) rfl) ?_
    | refine wG_pure (e_ia_vwm rfl rfl (by omega) (by omega) rfl) ?_
    | refine wG_pure (e_ia_vwi rfl rfl (by omega) rfl) ?_
    | refine wG_pure (e_ia_vwn rfl rfl (by omega) (by omega) rfl) ?_
    | refine wG_pure (e_add rfl rfl (by omega) (by omega)) ?_
    | refine wG_pure (e_sub rfl rfl (by omega) (by omega)) ?_
    | refine wG_pure (e_mul rfl rfl (by omega) (by omega)) ?_
    | refine wG_pure (o_lss rfl rfl) ?_
    | refine wG_pure (o_leq rfl rfl) ?_
    | refine wG_pure (o_gtr rfl rfl) ?_
    | refine wG_pure (o_geq rfl rfl) ?_
    | refine wG_pure (o_eql rfl rfl) ?_
    | refine wG_pure (o_neq rfl rfl) ?_
    | refine wG_pure (o_not_d rfl) ?_
    | refine wG_pure (o_not rfl) ?_
    | refine wG_pure (o_beq rfl rfl) ?_
    | refine wG_pure (o_bne rfl rfl) ?_
    | refine wG_pure (o_build rfl) ?_
    | refine wG_pure (o_isnil_vw rfl rfl) ?_
    | refine wG_pure (o_isnil_sl rfl rfl) ?_
    | refine wG_pure (o_isnil_nil rfl rfl) ?_
    | refine wG_pure (o_len_sl rfl) ?_
    | refine wG_pure (o_len_vwm rfl) ?_
    | refine wG_pure (o_len_vw rfl) ?_
    | refine wG_pure (o_len_nil rfl) ?_
    | refine wG_pure (o_slen rfl) ?_
    | refine wG_pure (o_fldf rfl rfl) ?_
    | refine wG_pure (o_fldt rfl rfl rfl) ?_
    | refine wG_pure (o_ext rfl rfl) ?_
    | refine wG_pure (o_mx rfl rfl) ?_
    | refine wG_pure (o_mn rfl rfl) ?_
    | refine wG_pure (o_neg rfl (by omega) (by omega)) ?_
    | refine wG_new (o_alloc) ?_
    | refine wG_new (o_bsl rfl) ?_
    | refine wG_new (o_box_agg rfl rfl) ?_
    | refine wG_new (o_mks rfl rfl (by omega) (by decide)) ?_
    | refine wG_new (o_box1 rfl) ?_
    | refine wG_upd (o_st_agg rfl rfl rfl rfl rfl rfl rfl) ?_
    | refine wG_upd (o_st1 rfl rfl rfl rfl rfl rfl) ?_))
      exact ret_3 (.inr rfl) rfl rfl rfl ⟨_, _, _, retV_mv rfl, retV_mv rfl, retV_mv rfl, rfl, rfl, rfl⟩
  · rw [decide_eq_false hG] at c1
    have hw : ¬ wOK d year := fun h => hG h.1
    rw [if_neg hw, if_neg hw, decide_eq_false hw]
    unfold dRow at *
    repeat (first | refine wG_call c1 rfl rfl ?_ | (first
    | refine wC_seq ?_
    | refine wC_reg ?_
    | refine wC_dregq rfl ?_
    | refine wC_dregE ?_
    | refine wC_skip ?_
    | refine wC_blk ?_
    | refine wC_exit ?_
    | refine wC_ret ?_
    | refine q_seq_n ?_
    | refine q_seq_x ?_
    | refine q_seq_r ?_
    | refine q_blk_n ?_
    | refine q_blk_r ?_
    | refine q_blk_x ?_
    | refine q_blk_o rfl ?_
    | refine wG_nil ?_
    | refine wG_gy rfl ?_
    | refine wG_gn rfl rfl ?_
    | refine wG_gu rfl ?_
    | refine wC_cond_t rfl ?_
    | refine wC_cond_f rfl ?_
    | refine wG_pure (o_mv rfl) ?_
    | refine wG_pure (o_pick_t rfl rfl) ?_
    | refine wG_pure (o_pick_f rfl rfl) ?_
    | refine wG_pure (o_ldf_pt rfl rfl rfl rfl) ?_
    | refine wG_pure (o_ldt_pt rfl rfl rfl rfl rfl) ?_
    | refine wG_pure (o_ldf_vp rfl) ?_
    | refine wG_pure (o_ldt_vp rfl rfl rfl) ?_
    | refine wG_pure (o_fa_pt rfl) ?_
    | refine wG_pure (o_fa_vp rfl rfl) ?_
    | refine wG_pure (o_nck_pt rfl) ?_
    | refine wG_pure (o_nck_vp rfl) ?_
    | refine wG_pure (o_nck_fn rfl) ?_
    | refine wG_pure (e_ia_vw0 rfl rfl (by omega) rfl) ?_
    | refine wG_pure (e_ia_vwp rfl rfl (by omega) rfl) ?_
    | refine wG_pure (e_ia_vwm rfl rfl (by omega) (by omega) rfl) ?_
    | refine wG_pure (e_ia_vwi rfl rfl (by omega) rfl) ?_
    | refine wG_pure (e_ia_vwn rfl rfl (by omega) (by omega) rfl) ?_
    | refine wG_pure (e_add rfl rfl (by omega) (by omega)) ?_
    | refine wG_pure (e_sub rfl rfl (by omega) (by omega)) ?_
    | refine wG_pure (e_mul rfl rfl (by omega) (by omega)) ?_
    | refine wG_pure (o_lss rfl rfl) ?_
    | refine wG_pure (o_leq rfl rfl) ?_
    | refine wG_pure (o_gtr rfl rfl) ?_
    | refine wG_pure (o_geq rfl rfl) ?_
    | refine wG_pure (o_eql rfl rfl) ?_
    | refine wG_pure (o_neq rfl rfl) ?_
    | refine wG_pure (o_not_d rfl) ?_
    | refine wG_pure (o_not rfl) ?_
    | refine wG_pure (o_beq rfl rfl) ?_
    | refine wG_pure (o_bne rfl rfl) ?_
    | refine wG_pure (o_build rfl) ?_
    | refine wG_pure (o_isnil_vw rfl rfl) ?_
    | refine wG_pure (o_isnil_sl rfl rfl) ?_
    | refine wG_pure (o_isnil_nil rfl rfl) ?_
    | refine wG_pure (o_len_sl rfl) ?_
    | refine wG_pure (o_len_vwm rfl) ?_
    | refine wG_pure (o_len_vw rfl) ?_
    | refine wG_pure (o_len_nil rfl) ?_
    | refine wG_pure (o_slen rfl) ?_
    | refine wG_pure (o_fldf rfl rfl) ?_
    | refine wG_pure (o_fldt rfl rfl rfl) ?_
    | refine wG_pure (o_ext rfl rfl) ?_
    | refine wG_pure (o_mx rfl rfl) ?_
    | refine wG_pure (o_mn rfl rfl) ?_
    | refine wG_pure (o_neg rfl (by omega) (by omega)) ?_
    | refine wG_new (o_alloc) ?_
    | refine wG_new (o_bsl rfl) ?_
    | refine wG_new (o_box_agg rfl rfl) ?_
    | refine wG_new (o_mks rfl rfl (by omega) (by decide)) ?_
    | refine wG_new (o_box1 rfl) ?_
    | refine wG_upd (o_st_agg rfl rfl rfl rfl rfl rfl rfl) ?_
    | refine wG_upd (o_st1 rfl rfl rfl rfl rfl rfl) ?_))
    exact ret_3 (.inr rfl) rfl rfl rfl ⟨_, _, _, retV_mv rfl, retV_mv rfl, retV_mv rfl, rfl, rfl, rfl⟩
open Classical in
theorem con22 (nn : Bool) (d : Ds) (hlen : d.ws.length ≤ 1048576) (year : Int) : Con Try.prog 22 true [.agg (dRow nn d), .int .i64 year] (.tup [.int .i64 (wA d year), .int .i64 (wB d year), .bool (decide (wOK d year))]) [] := by
  refine con_of_wp mixed fun22 (by simp) [] plain_nil ?_
  unfold ac22 ro22 wA wB
  simp only [zipT]
  have c1 := con19 nn d hlen
  have c2 := con61 year
  by_cases hG : GoodD d
  · rw [decide_eq_true hG] at c1
    have c3 := con70 nn d hG year
    have c4 := con71 nn d hG
    by_cases hy : -20000 ≤ year ∧ year ≤ 2100
    · rw [decide_eq_true hy] at c2
      have hw : wOK d year := ⟨hG, hy⟩
      rw [if_pos hw, if_pos hw, decide_eq_true hw]
      unfold dRow at *
      repeat (first | refine wG_call c1 rfl rfl ?_ | refine wG_call c2 rfl rfl ?_ | refine wG_call c3 rfl rfl ?_ | refine wG_call c4 rfl rfl ?_ | (first
    | refine wC_seq ?_
    | refine wC_reg ?_
    | refine wC_dregq rfl ?_
    | refine wC_dregE ?_
    | refine wC_skip ?_
    | refine wC_blk ?_
    | refine wC_exit ?_
    | refine wC_ret ?_
    | refine q_seq_n ?_
    | refine q_seq_x ?_
    | refine q_seq_r ?_
    | refine q_blk_n ?_
    | refine q_blk_r ?_
    | refine q_blk_x ?_
    | refine q_blk_o rfl ?_
    | refine wG_nil ?_
    | refine wG_gy rfl ?_
    | refine wG_gn rfl rfl ?_
    | refine wG_gu rfl ?_
    | refine wC_cond_t rfl ?_
    | refine wC_cond_f rfl ?_
    | refine wG_pure (o_mv rfl) ?_
    | refine wG_pure (o_pick_t rfl rfl) ?_
    | refine wG_pure (o_pick_f rfl rfl) ?_
    | refine wG_pure (o_ldf_pt rfl rfl rfl rfl) ?_
    | refine wG_pure (o_ldt_pt rfl rfl rfl rfl rfl) ?_
    | refine wG_pure (o_ldf_vp rfl) ?_
    | refine wG_pure (o_ldt_vp rfl rfl rfl) ?_
    | refine wG_pure (o_fa_pt rfl) ?_
    | refine wG_pure (o_fa_vp rfl rfl) ?_
    | refine wG_pure (o_nck_pt rfl) ?_
    | refine wG_pure (o_nck_vp rfl) ?_
    | refine wG_pure (o_nck_fn rfl) ?_
    | refine wG_pure (e_ia_vw0 rfl rfl (by omega) rfl) ?_
    | refine wG_pure (e_ia_vwp rfl rfl (by omega) rfl) ?_
    | refine wG_pure (e_ia_vwm rfl rfl (by omega) (by omega) rfl) ?_
    | refine wG_pure (e_ia_vwi rfl rfl (by omega) rfl) ?_
    | refine wG_pure (e_ia_vwn rfl rfl (by omega) (by omega) rfl) ?_
    | refine wG_pure (e_add rfl rfl (by omega) (by omega)) ?_
    | refine wG_pure (e_sub rfl rfl (by omega) (by omega)) ?_
    | refine wG_pure (e_mul rfl rfl (by omega) (by omega)) ?_
    | refine wG_pure (o_lss rfl rfl) ?_
    | refine wG_pure (o_leq rfl rfl) ?_
    | refine wG_pure (o_gtr rfl rfl) ?_
    | refine wG_pure (o_geq rfl rfl) ?_
    | refine wG_pure (o_eql rfl rfl) ?_
    | refine wG_pure (o_neq rfl rfl) ?_
    | refine wG_pure (o_not_d rfl) ?_
    | refine wG_pure (o_not rfl) ?_
    | refine wG_pure (o_beq rfl rfl) ?_
    | refine wG_pure (o_bne rfl rfl) ?_
    | refine wG_pure (o_build rfl) ?_
    | refine wG_pure (o_isnil_vw rfl rfl) ?_
    | refine wG_pure (o_isnil_sl rfl rfl) ?_
    | refine wG_pure (o_isnil_nil rfl rfl) ?_
    | refine wG_pure (o_len_sl rfl) ?_
    | refine wG_pure (o_len_vwm rfl) ?_
    | refine wG_pure (o_len_vw rfl) ?_
    | refine wG_pure (o_len_nil rfl) ?_
    | refine wG_pure (o_slen rfl) ?_
    | refine wG_pure (o_fldf rfl rfl) ?_
    | refine wG_pure (o_fldt rfl rfl rfl) ?_
    | refine wG_pure (o_ext rfl rfl) ?_
    | refine wG_pure (o_mx rfl rfl) ?_
    | refine wG_pure (o_mn rfl rfl) ?_
    | refine wG_pure (o_neg rfl (by omega) (by omega)) ?_
    | refine wG_new (o_alloc) ?_
    | refine wG_new (o_bsl rfl) ?_
    | refine wG_new (o_box_agg rfl rfl) ?_
    | refine wG_new (o_mks rfl rfl (by omega) (by decide)) ?_
    | refine wG_new (o_box1 rfl) ?_
    | refine wG_upd (o_st_agg rfl rfl rfl rfl rfl rfl rfl) ?_
    | refine wG_upd (o_st1 rfl rfl rfl rfl rfl rfl) ?_))
      exact ret_3 (.inr rfl) rfl rfl rfl ⟨_, _, _, retV_mv rfl, retV_mv rfl, retV_mv rfl, rfl, rfl, rfl⟩
    · rw [decide_eq_false hy] at c2
      have hw : ¬ wOK d year := fun h => hy h.2
      rw [if_neg hw, if_neg hw, decide_eq_false hw]
      unfold dRow at *
      repeat (first | refine wG_call c1 rfl rfl ?_ | refine wG_call c2 rfl rfl ?_ | (first
    | refine wC_seq ?_
    | refine wC_reg ?_
    | refine wC_dregq rfl ?_
    | refine wC_dregE ?_
    | refine wC_skip ?_
    | refine wC_blk ?_
    | refine wC_exit ?_
    | refine wC_ret ?_
    | refine q_seq_n ?_
    | refine q_seq_x ?_
    | refine q_seq_r ?_
    | refine q_blk_n ?_
    | refine q_blk_r ?_
    | refine q_blk_x ?_
    | refine q_blk_o rfl ?_
    | refine wG_nil ?_
    | refine wG_gy rfl ?_
    | refine wG_gn rfl rfl ?_
    | refine wG_gu rfl ?_
    | refine wC_cond_t rfl ?_
    | refine wC_cond_f rfl ?_
    | refine wG_pure (o_mv rfl) ?_
    | refine wG_pure (o_pick_t rfl rfl) ?_
    | refine wG_pure (o_pick_f rfl rfl) ?_
    | refine wG_pure (o_ldf_pt rfl rfl rfl rfl) ?_
    | refine wG_pure (o_ldt_pt rfl rfl rfl rfl rfl) ?_
    | refine wG_pure (o_ldf_vp rfl) ?_
    | refine wG_pure (o_ldt_vp rfl rfl rfl) ?_
    | refine wG_pure (o_fa_pt rfl) ?_
    | refine wG_pure (o_fa_vp rfl rfl) ?_
    | refine wG_pure (o_nck_pt rfl) ?_
    | refine wG_pure (o_nck_vp rfl) ?_
    | refine wG_pure (o_nck_fn rfl) ?_
    | refine wG_pure (e_ia_vw0 rfl rfl (by omega) rfl) ?_
    | refine wG_pure (e_ia_vwp rfl rfl (by omega) rfl) ?_
    | refine wG_pure (e_ia_vwm rfl rfl (by omega) (by omega) rfl) ?_
    | refine wG_pure (e_ia_vwi rfl rfl (by omega) rfl) ?_
    | refine wG_pure (e_ia_vwn rfl rfl (by omega) (by omega) rfl) ?_
    | refine wG_pure (e_add rfl rfl (by omega) (by omega)) ?_
    | refine wG_pure (e_sub rfl rfl (by omega) (by omega)) ?_
    | refine wG_pure (e_mul rfl rfl (by omega) (by omega)) ?_
    | refine wG_pure (o_lss rfl rfl) ?_
    | refine wG_pure (o_leq rfl rfl) ?_
    | refine wG_pure (o_gtr rfl rfl) ?_
    | refine wG_pure (o_geq rfl rfl) ?_
    | refine wG_pure (o_eql rfl rfl) ?_
    | refine wG_pure (o_neq rfl rfl) ?_
    | refine wG_pure (o_not_d rfl) ?_
    | refine wG_pure (o_not rfl) ?_
    | refine wG_pure (o_beq rfl rfl) ?_
    | refine wG_pure (o_bne rfl rfl) ?_
    | refine wG_pure (o_build rfl) ?_
    | refine wG_pure (o_isnil_vw rfl rfl) ?_
    | refine wG_pure (o_isnil_sl rfl rfl) ?_
    | refine wG_pure (o_isnil_nil rfl rfl) ?_
    | refine wG_pure (o_len_sl rfl) ?_
    | refine wG_pure (o_len_vwm rfl) ?_
    | refine wG_pure (o_len_vw rfl) ?_
    | refine wG_pure (o_len_nil rfl) ?_
    | refine wG_pure (o_slen rfl) ?_
    | refine wG_pure (o_fldf rfl rfl) ?_
    | refine wG_pure (o_fldt rfl rfl rfl) ?_
    | refine wG_pure (o_ext rfl rfl) ?_
    | refine wG_pure (o_mx rfl rfl) ?_
    | refine wG_pure (o_mn rfl rfl) ?_
    | refine wG_pure (o_neg rfl (by omega) (by omega)) ?_
    | refine wG_new (o_alloc) ?_
    | refine wG_new (o_bsl rfl) ?_
    | refine wG_new (o_box_agg rfl rfl) ?_
    | refine wG_new (o_mks rfl rfl (by omega) (by decide)) ?_
    | refine wG_new (o_box1 rfl) ?_
    | refine wG_upd (o_st_agg rfl rfl rfl rfl rfl rfl rfl) ?_
    | refine wG_upd (o_st1 rfl rfl rfl rfl rfl rfl) ?_))
      exact ret_3 (.inr rfl) rfl rfl rfl ⟨_, _, _, retV_mv rfl, retV_mv rfl, retV_mv rfl, rfl, rfl, rfl⟩
  · rw [decide_eq_false hG] at c1
    have hw : ¬ wOK d year := fun h => hG h.1
    rw [if_neg hw, if_neg hw, decide_eq_false hw]
    unfold dRow at *
    repeat (first | refine wG_call c1 rfl rfl ?_ | (first
    | refine wC_seq ?_
    | refine wC_reg ?_
    | refine wC_dregq rfl ?_
    | refine wC_dregE ?_
    | refine wC_skip ?_
    | refine wC_blk ?_
    | refine wC_exit ?_
    | refine wC_ret ?_
    | refine q_seq_n ?_
    | refine q_seq_x ?_
    | refine q_seq_r ?_
    | refine q_blk_n ?_
    | refine q_blk_r ?_
    | refine q_blk_x ?_
    | refine q_blk_o rfl ?_
    | refine wG_nil ?_
    | refine wG_gy rfl ?_
    | refine wG_gn rfl rfl ?_
    | refine wG_gu rfl ?_
    | refine wC_cond_t rfl ?_
    | refine wC_cond_f rfl ?_
    | refine wG_pure (o_mv rfl) ?_
    | refine wG_pure (o_pick_t rfl rfl) ?_
    | refine wG_pure (o_pick_f rfl rfl) ?_
    | refine wG_pure (o_ldf_pt rfl rfl rfl rfl) ?_
    | refine wG_pure (o_ldt_pt rfl rfl rfl rfl rfl) ?_
    | refine wG_pure (o_ldf_vp rfl) ?_
    | refine wG_pure (o_ldt_vp rfl rfl rfl) ?_
    | refine wG_pure (o_fa_pt rfl) ?_
    | refine wG_pure (o_fa_vp rfl rfl) ?_
    | refine wG_pure (o_nck_pt rfl) ?_
    | refine wG_pure (o_nck_vp rfl) ?_
    | refine wG_pure (o_nck_fn rfl) ?_
    | refine wG_pure (e_ia_vw0 rfl rfl (by omega) rfl) ?_
    | refine wG_pure (e_ia_vwp rfl rfl (by omega) rfl) ?_
    | refine wG_pure (e_ia_vwm rfl rfl (by omega) (by omega) rfl) ?_
    | refine wG_pure (e_ia_vwi rfl rfl (by omega) rfl) ?_
    | refine wG_pure (e_ia_vwn rfl rfl (by omega) (by omega) rfl) ?_
    | refine wG_pure (e_add rfl rfl (by omega) (by omega)) ?_
    | refine wG_pure (e_sub rfl rfl (by omega) (by omega)) ?_
    | refine wG_pure (e_mul rfl rfl (by omega) (by omega)) ?_
    | refine wG_pure (o_lss rfl rfl) ?_
    | refine wG_pure (o_leq rfl rfl) ?_
    | refine wG_pure (o_gtr rfl rfl) ?_
    | refine wG_pure (o_geq rfl rfl) ?_
    | refine wG_pure (o_eql rfl rfl) ?_
    | refine wG_pure (o_neq rfl rfl) ?_
    | refine wG_pure (o_not_d rfl) ?_
    | refine wG_pure (o_not rfl) ?_
    | refine wG_pure (o_beq rfl rfl) ?_
    | refine wG_pure (o_bne rfl rfl) ?_
    | refine wG_pure (o_build rfl) ?_
    | refine wG_pure (o_isnil_vw rfl rfl) ?_
    | refine wG_pure (o_isnil_sl rfl rfl) ?_
    | refine wG_pure (o_isnil_nil rfl rfl) ?_
    | refine wG_pure (o_len_sl rfl) ?_
    | refine wG_pure (o_len_vwm rfl) ?_
    | refine wG_pure (o_len_vw rfl) ?_
    | refine wG_pure (o_len_nil rfl) ?_
    | refine wG_pure (o_slen rfl) ?_
    | refine wG_pure (o_fldf rfl rfl) ?_
    | refine wG_pure (o_fldt rfl rfl rfl) ?_
    | refine wG_pure (o_ext rfl rfl) ?_
    | refine wG_pure (o_mx rfl rfl) ?_
    | refine wG_pure (o_mn rfl rfl) ?_
    | refine wG_pure (o_neg rfl (by omega) (by omega)) ?_
    | refine wG_new (o_alloc) ?_
    | refine wG_new (o_bsl rfl) ?_
    | refine wG_new (o_box_agg rfl rfl) ?_
    | refine wG_new (o_mks rfl rfl (by omega) (by decide)) ?_
    | refine wG_new (o_box1 rfl) ?_
    | refine wG_upd (o_st_agg rfl rfl rfl rfl rfl rfl rfl) ?_
    | refine wG_upd (o_st1 rfl rfl rfl rfl rfl rfl) ?_))
    exact ret_3 (.inr rfl) rfl rfl rfl ⟨_, _, _, retV_mv rfl, retV_mv rfl, retV_mv rfl, rfl, rfl, rfl⟩
open Classical in
theorem con4 (nn : Bool) (d : Ds) (hlen : d.ws.length ≤ 9223372036854775807) (year : Int) : Con Try.prog 4 true [.agg (dRow nn d), .int .i64 year] (.bool true) [] := by
  refine con_of_wp mixed fun4 (by simp) [] plain_nil ?_
  unfold ac4 ro4
  simp only [zipT]
  have c := con16 nn d hlen 1048576 (by decide) (by decide)
  by_cases hs : (d.ws.length : Int) ≤ 1048576
  · rw [if_pos hs] at c
    have hs' : d.ws.length ≤ 1048576 := by omega
    have c1 := con18 nn d hs'
    have c2 := con21 true d hs' year
    have c3 := con22 true d hs' year
    have c4 := con20_same true true d hs'
    generalize decide (wOK d year) = ok at *
    generalize wA d year = va at *
    generalize wB d year = vb at *
    obtain ⟨f, ws⟩ := d
    unfold dRow at *
    simp only at *
    repeat' (first
      | refine wC_dregE ?_ | refine wG_call c rfl rfl ?_ | refine wG_call1 c1 rfl rfl ?_ | refine wG_call c2 (ag_is rfl rfl rfl iRow_plain (ag_int rfl ag_nil)) rfl ?_ | refine wG_call c3 (ag_is rfl rfl rfl iRow_plain (ag_int rfl ag_nil)) rfl ?_ | refine wE_call1 c1 rfl rfl rfl ?_ | refine wE_call c4 (ag_is rfl rfl rfl iRow_plain (ag_is rfl rfl rfl iRow_plain ag_nil)) rfl rfl ?_ | simp only [ne_eq, not_true_eq_false, decide_false] | (first
    | refine wC_seq ?_
    | refine wC_reg ?_
    | refine wC_dregq rfl ?_
    | refine wC_dregE ?_
    | refine wC_skip ?_
    | refine wC_blk ?_
    | refine wC_exit ?_
    | refine wC_ret ?_
    | refine q_seq_n ?_
    | refine q_seq_x ?_
    | refine q_seq_r ?_
    | refine q_blk_n ?_
    | refine q_blk_r ?_
    | refine q_blk_x ?_
    | refine q_blk_o rfl ?_
    | refine wG_nil ?_
    | refine wG_gy rfl ?_
    | refine wG_gn rfl rfl ?_
    | refine wG_gu rfl ?_
    | refine wC_cond_t rfl ?_
    | refine wC_cond_f rfl ?_
    | refine wG_pure (o_mv rfl) ?_
    | refine wG_pure (o_pick_t rfl rfl) ?_
    | refine wG_pure (o_pick_f rfl rfl) ?_
    | refine wG_pure (o_ldf_pt rfl rfl rfl rfl) ?_
    | refine wG_pure (o_ldt_pt rfl rfl rfl rfl rfl) ?_
    | refine wG_pure (o_ldf_vp rfl) ?_
    | refine wG_pure (o_ldt_vp rfl rfl rfl) ?_
    | refine wG_pure (o_fa_pt rfl) ?_
    | refine wG_pure (o_fa_vp rfl rfl) ?_
    | refine wG_pure (o_nck_pt rfl) ?_
    | refine wG_pure (o_nck_vp rfl) ?_
    | refine wG_pure (o_nck_fn rfl) ?_
    | refine wG_pure (e_ia_vw0 rfl rfl (by omega) rfl) ?_
    | refine wG_pure (e_ia_vwp rfl rfl (by omega) rfl) ?_
    | refine wG_pure (e_ia_vwm rfl rfl (by omega) (by omega) rfl) ?_
    | refine wG_pure (e_ia_vwi rfl rfl (by omega) rfl) ?_
    | refine wG_pure (e_ia_vwn rfl rfl (by omega) (by omega) rfl) ?_
    | refine wG_pure (e_add rfl rfl (by omega) (by omega)) ?_
    | refine wG_pure (e_sub rfl rfl (by omega) (by omega)) ?_
    | refine wG_pure (e_mul rfl rfl (by omega) (by omega)) ?_
    | refine wG_pure (o_lss rfl rfl) ?_
    | refine wG_pure (o_leq rfl rfl) ?_
    | refine wG_pure (o_gtr rfl rfl) ?_
    | refine wG_pure (o_geq rfl rfl) ?_
    | refine wG_pure (o_eql rfl rfl) ?_
    | refine wG_pure (o_neq rfl rfl) ?_
    | refine wG_pure (o_not_d rfl) ?_
    | refine wG_pure (o_not rfl) ?_
    | refine wG_pure (o_beq rfl rfl) ?_
    | refine wG_pure (o_bne rfl rfl) ?_
    | refine wG_pure (o_build rfl) ?_
    | refine wG_pure (o_isnil_vw rfl rfl) ?_
    | refine wG_pure (o_isnil_sl rfl rfl) ?_
    | refine wG_pure (o_isnil_nil rfl rfl) ?_
    | refine wG_pure (o_len_sl rfl) ?_
    | refine wG_pure (o_len_vwm rfl) ?_
    | refine wG_pure (o_len_vw rfl) ?_
    | refine wG_pure (o_len_nil rfl) ?_
    | refine wG_pure (o_slen rfl) ?_
    | refine wG_pure (o_fldf rfl rfl) ?_
    | refine wG_pure (o_fldt rfl rfl rfl) ?_
    | refine wG_pure (o_ext rfl rfl) ?_
    | refine wG_pure (o_mx rfl rfl) ?_
    | refine wG_pure (o_mn rfl rfl) ?_
    | refine wG_pure (o_neg rfl (by omega) (by omega)) ?_
    | refine wG_new (o_alloc) ?_
    | refine wG_new (o_bsl rfl) ?_
    | refine wG_new (o_box_agg rfl rfl) ?_
    | refine wG_new (o_mks rfl rfl (by omega) (by decide)) ?_
    | refine wG_new (o_box1 rfl) ?_
    | refine wG_upd (o_st_agg rfl rfl rfl rfl rfl rfl rfl) ?_
    | refine wG_upd (o_st1 rfl rfl rfl rfl rfl rfl) ?_) | (first
    | refine wE_nil rfl ?_
    | refine wE_gy rfl ?_
    | refine wE_gn rfl rfl rfl ?_
    | refine wE_gu rfl rfl ?_
    | refine wE_gnn rfl rfl rfl ?_
    | refine wE_pure0 (o_mv rfl) rfl ?_
    | refine wE_pure (o_mv rfl) rfl ?_
    | refine wE_pure0 (o_pick_t rfl rfl) rfl ?_
    | refine wE_pure (o_pick_t rfl rfl) rfl ?_
    | refine wE_pure0 (o_pick_f rfl rfl) rfl ?_
    | refine wE_pure (o_pick_f rfl rfl) rfl ?_
    | refine wE_pure0 (o_ldf_pt rfl rfl rfl rfl) rfl ?_
    | refine wE_pure (o_ldf_pt rfl rfl rfl rfl) rfl ?_
    | refine wE_pure0 (o_ldt_pt rfl rfl rfl rfl rfl) rfl ?_
    | refine wE_pure (o_ldt_pt rfl rfl rfl rfl rfl) rfl ?_
    | refine wE_pure0 (o_ldf_vp rfl) rfl ?_
    | refine wE_pure (o_ldf_vp rfl) rfl ?_
    | refine wE_pure0 (o_ldt_vp rfl rfl rfl) rfl ?_
    | refine wE_pure (o_ldt_vp rfl rfl rfl) rfl ?_
    | refine wE_pure0 (o_fa_pt rfl) rfl ?_
    | refine wE_pure (o_fa_pt rfl) rfl ?_
    | refine wE_pure0 (o_fa_vp rfl rfl) rfl ?_
    | refine wE_pure (o_fa_vp rfl rfl) rfl ?_
    | refine wE_pure0 (o_nck_pt rfl) rfl ?_
    | refine wE_pure (o_nck_pt rfl) rfl ?_
    | refine wE_pure0 (o_nck_vp rfl) rfl ?_
    | refine wE_pure (o_nck_vp rfl) rfl ?_
    | refine wE_pure0 (o_nck_fn rfl) rfl ?_
    | refine wE_pure (o_nck_fn rfl) rfl ?_
    | refine wE_pure0 (e_ia_vw0 rfl rfl (by omega) rfl) rfl ?_
    | refine wE_pure (e_ia_vw0 rfl rfl (by omega) rfl) rfl ?_
    | refine wE_pure0 (e_ia_vwp rfl rfl (by omega) rfl) rfl ?_
    | refine wE_pure (e_ia_vwp rfl rfl (by omega) rfl) rfl ?_
    | refine wE_pure0 (e_ia_vwm rfl rfl (by omega) (by omega) rfl) rfl ?_
    | refine wE_pure (e_ia_vwm rfl rfl (by omega) (by omega) rfl) rfl ?_
    | refine wE_pure0 (e_ia_vwi rfl rfl (by omega) rfl) rfl ?_
    | refine wE_pure (e_ia_vwi rfl rfl (by omega) rfl) rfl ?_
    | refine wE_pure0 (e_ia_vwn rfl rfl (by omega) (by omega) rfl) rfl ?_
    | refine wE_pure (e_ia_vwn rfl rfl (by omega) (by omega) rfl) rfl ?_
    | refine wE_pure0 (e_add rfl rfl (by omega) (by omega)) rfl ?_
    | refine wE_pure (e_add rfl rfl (by omega) (by omega)) rfl ?_
    | refine wE_pure0 (e_sub rfl rfl (by omega) (by omega)) rfl ?_
    | refine wE_pure (e_sub rfl rfl (by omega) (by omega)) rfl ?_
    | refine wE_pure0 (e_mul rfl rfl (by omega) (by omega)) rfl ?_
    | refine wE_pure (e_mul rfl rfl (by omega) (by omega)) rfl ?_
    | refine wE_pure0 (o_lss rfl rfl) rfl ?_
    | refine wE_pure (o_lss rfl rfl) rfl ?_
    | refine wE_pure0 (o_leq rfl rfl) rfl ?_
    | refine wE_pure (o_leq rfl rfl) rfl ?_
    | refine wE_pure0 (o_gtr rfl rfl) rfl ?_
    | refine wE_pure (o_gtr rfl rfl) rfl ?_
    | refine wE_pure0 (o_geq rfl rfl) rfl ?_
    | refine wE_pure (o_geq rfl rfl) rfl ?_
    | refine wE_pure0 (o_eql rfl rfl) rfl ?_
    | refine wE_pure (o_eql rfl rfl) rfl ?_
    | refine wE_pure0 (o_neq rfl rfl) rfl ?_
    | refine wE_pure (o_neq rfl rfl) rfl ?_
    | refine wE_pure0 (o_not_d rfl) rfl ?_
    | refine wE_pure (o_not_d rfl) rfl ?_
    | refine wE_pure0 (o_not rfl) rfl ?_
    | refine wE_pure (o_not rfl) rfl ?_
    | refine wE_pure0 (o_beq rfl rfl) rfl ?_
    | refine wE_pure (o_beq rfl rfl) rfl ?_
    | refine wE_pure0 (o_bne rfl rfl) rfl ?_
    | refine wE_pure (o_bne rfl rfl) rfl ?_
    | refine wE_pure0 (o_build rfl) rfl ?_
    | refine wE_pure (o_build rfl) rfl ?_
    | refine wE_pure0 (o_isnil_vw rfl rfl) rfl ?_
    | refine wE_pure (o_isnil_vw rfl rfl) rfl ?_
    | refine wE_pure0 (o_isnil_sl rfl rfl) rfl ?_
    | refine wE_pure (o_isnil_sl rfl rfl) rfl ?_
    | refine wE_pure0 (o_isnil_nil rfl rfl) rfl ?_
    | refine wE_pure (o_isnil_nil rfl rfl) rfl ?_
    | refine wE_pure0 (o_len_sl rfl) rfl ?_
    | refine wE_pure (o_len_sl rfl) rfl ?_
    | refine wE_pure0 (o_len_vwm rfl) rfl ?_
    | refine wE_pure (o_len_vwm rfl) rfl ?_
    | refine wE_pure0 (o_len_vw rfl) rfl ?_
    | refine wE_pure (o_len_vw rfl) rfl ?_
    | refine wE_pure0 (o_len_nil rfl) rfl ?_
    | refine wE_pure (o_len_nil rfl) rfl ?_
    | refine wE_pure0 (o_slen rfl) rfl ?_
    | refine wE_pure (o_slen rfl) rfl ?_
    | refine wE_pure0 (o_fldf rfl rfl) rfl ?_
    | refine wE_pure (o_fldf rfl rfl) rfl ?_
    | refine wE_pure0 (o_fldt rfl rfl rfl) rfl ?_
    | refine wE_pure (o_fldt rfl rfl rfl) rfl ?_
    | refine wE_pure0 (o_ext rfl rfl) rfl ?_
    | refine wE_pure (o_ext rfl rfl) rfl ?_
    | refine wE_pure0 (o_mx rfl rfl) rfl ?_
    | refine wE_pure (o_mx rfl rfl) rfl ?_
    | refine wE_pure0 (o_mn rfl rfl) rfl ?_
    | refine wE_pure (o_mn rfl rfl) rfl ?_
    | refine wE_pure0 (o_neg rfl (by omega) (by omega)) rfl ?_
    | refine wE_pure (o_neg rfl (by omega) (by omega)) rfl ?_
    | refine wE_new (o_alloc) rfl ?_
    | refine wE_new (o_bsl rfl) rfl ?_
    | refine wE_new (o_box_agg rfl rfl) rfl ?_
    | refine wE_new (o_mks rfl rfl (by omega) (by decide)) rfl ?_
    | refine wE_new (o_box1 rfl) rfl ?_
    | refine wE_upd (o_st_agg rfl rfl rfl rfl rfl rfl rfl) rfl ?_
    | refine wE_upd (o_st1 rfl rfl rfl rfl rfl rfl) rfl ?_) | (refine wG_gd rfl (fun hgt => ?_) (fun hgf => ?_) <;> (first | simp only [eq_true hgt, decide_true] | simp only [eq_false hgf, decide_false])) | refine wC_cond_d rfl (fun hg => ?_) (fun hg => ?_))
    all_goals (first | exact ret_boolE (.inr rfl) ⟨_, retV_mv rfl, rfl⟩ | (exfalso; omega) | trace_state)
  · rw [if_neg hs] at c
    repeat (first | refine wG_call c rfl rfl ?_ | (first
    | refine wC_seq ?_
    | refine wC_reg ?_
    | refine wC_dregq rfl ?_
    | refine wC_dregE ?_
    | refine wC_skip ?_
    | refine wC_blk ?_
    | refine wC_exit ?_
    | refine wC_ret ?_
    | refine q_seq_n ?_
    | refine q_seq_x ?_
    | refine q_seq_r ?_
    | refine q_blk_n ?_
    | refine q_blk_r ?_
    | refine q_blk_x ?_
    | refine q_blk_o rfl ?_
    | refine wG_nil ?_
    | refine wG_gy rfl ?_
    | refine wG_gn rfl rfl ?_
    | refine wG_gu rfl ?_
    | refine wC_cond_t rfl ?_
    | refine wC_cond_f rfl ?_
    | refine wG_pure (o_mv rfl) ?_
    | refine wG_pure (o_pick_t rfl rfl) ?_
    | refine wG_pure (o_pick_f rfl rfl) ?_
    | refine wG_pure (o_ldf_pt rfl rfl rfl rfl) ?_
    | refine wG_pure (o_ldt_pt rfl rfl rfl rfl rfl) ?_
    | refine wG_pure (o_ldf_vp rfl) ?_
    | refine wG_pure (o_ldt_vp rfl rfl rfl) ?_
    | refine wG_pure (o_fa_pt rfl) ?_
    | refine wG_pure (o_fa_vp rfl rfl) ?_
    | refine wG_pure (o_nck_pt rfl) ?_
    | refine wG_pure (o_nck_vp rfl) ?_
    | refine wG_pure (o_nck_fn rfl) ?_
    | refine wG_pure (e_ia_vw0 rfl rfl (by omega) rfl) ?_
    | refine wG_pure (e_ia_vwp rfl rfl (by omega) rfl) ?_
    | refine wG_pure (e_ia_vwm rfl rfl (by omega) (by omega) rfl) ?_
    | refine wG_pure (e_ia_vwi rfl rfl (by omega) rfl) ?_
    | refine wG_pure (e_ia_vwn rfl rfl (by omega) (by omega) rfl) ?_
    | refine wG_pure (e_add rfl rfl (by omega) (by omega)) ?_
    | refine wG_pure (e_sub rfl rfl (by omega) (by omega)) ?_
    | refine wG_pure (e_mul rfl rfl (by omega) (by omega)) ?_
    | refine wG_pure (o_lss rfl rfl) ?_
    | refine wG_pure (o_leq rfl rfl) ?_
    | refine wG_pure (o_gtr rfl rfl) ?_
    | refine wG_pure (o_geq rfl rfl) ?_
    | refine wG_pure (o_eql rfl rfl) ?_
    | refine wG_pure (o_neq rfl rfl) ?_
    | refine wG_pure (o_not_d rfl) ?_
    | refine wG_pure (o_not rfl) ?_
    | refine wG_pure (o_beq rfl rfl) ?_
    | refine wG_pure (o_bne rfl rfl) ?_
    | refine wG_pure (o_build rfl) ?_
    | refine wG_pure (o_isnil_vw rfl rfl) ?_
    | refine wG_pure (o_isnil_sl rfl rfl) ?_
    | refine wG_pure (o_isnil_nil rfl rfl) ?_
    | refine wG_pure (o_len_sl rfl) ?_
    | refine wG_pure (o_len_vwm rfl) ?_
    | refine wG_pure (o_len_vw rfl) ?_
    | refine wG_pure (o_len_nil rfl) ?_
    | refine wG_pure (o_slen rfl) ?_
    | refine wG_pure (o_fldf rfl rfl) ?_
    | refine wG_pure (o_fldt rfl rfl rfl) ?_
    | refine wG_pure (o_ext rfl rfl) ?_
    | refine wG_pure (o_mx rfl rfl) ?_
    | refine wG_pure (o_mn rfl rfl) ?_
    | refine wG_pure (o_neg rfl (by omega) (by omega)) ?_
    | refine wG_new (o_alloc) ?_
    | refine wG_new (o_bsl rfl) ?_
    | refine wG_new (o_box_agg rfl rfl) ?_
    | refine wG_new (o_mks rfl rfl (by omega) (by decide)) ?_
    | refine wG_new (o_box1 rfl) ?_
    | refine wG_upd (o_st_agg rfl rfl rfl rfl rfl rfl rfl) ?_
    | refine wG_upd (o_st1 rfl rfl rfl rfl rfl rfl) ?_))
    exact ret_boolE (.inr rfl) ⟨_, retV_mv rfl, rfl⟩
end Go.Proofs.Ytdljklicegcbpaa.Dst
