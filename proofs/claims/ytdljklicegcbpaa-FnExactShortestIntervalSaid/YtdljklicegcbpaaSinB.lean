/- The body of the law on shortest intervals. -/
import Derived.Test.YtdljklicegcbpaaSinA
namespace Go.Proofs.Ytdljklicegcbpaa.Dst
open Go Go.Proofs.Ytdljklicegcbpaa.Ab Go.Proofs.Ytdljklicegcbpaa.Il
attribute [local irreducible] wpO wpC wpDr wpQ wpG wpE stepA seqQ blkQ Ret ev
set_option maxRecDepth 10000
set_option maxHeartbeats 4000000
set_option linter.unusedSimpArgs false
set_option linter.unusedVariables false
def ac7 : AC := (.seq (.reg [⟨(some 3), none, (.box 2 true (.t 0))⟩, ⟨(some 6), none, (.mv (.c (.bool false)))⟩]) (.seq (.reg [⟨(some 7), none, (.mv (.c (.int .i64 1048576)))⟩]) (.seq (.reg [⟨(some 15), none, (.ld true 2 (.t 3))⟩, ⟨(some 16), none, (.mv (.t 7))⟩, ⟨(some 17), none, (.call 16 [(.t 15), (.t 16)])⟩, ⟨(some 7), none, (.mv (.t 17))⟩]) (.seq (.seq (.reg [⟨(some 18), none, (.mv (.t 7))⟩, ⟨(some 19), none, (.bin .lss (.t 18) (.c (.int .i64 0)))⟩]) (.cond (.t 19) (.seq (.reg [⟨(some 6), none, (.mv (.c (.bool true)))⟩]) .ret) .skip)) (.seq (.reg [⟨(some 21), none, (.ld true 2 (.t 3))⟩, ⟨(some 22), none, (.call 18 [(.t 21)])⟩, ⟨(some 23), none, (.mv (.t 1))⟩, ⟨(some 24), none, (.mv (.t 2))⟩, ⟨(some 25), none, (.call 27 [(.t 22), (.t 23), (.t 24)])⟩, ⟨(some 20), none, (.mv (.t 25))⟩, ⟨(some 26), none, (.ext (.t 20) 0)⟩, ⟨(some 27), none, (.ext (.t 20) 1)⟩, ⟨(some 28), none, (.ext (.t 20) 2)⟩, ⟨(some 8), none, (.mv (.t 26))⟩, ⟨(some 9), none, (.mv (.t 27))⟩, ⟨(some 10), none, (.mv (.t 28))⟩]) (.seq (.reg [⟨(some 29), none, (.ld true 2 (.t 3))⟩, ⟨(some 30), none, (.call 18 [(.t 29)])⟩, ⟨(some 11), none, (.alloc [(.int .i64 0), .nilS])⟩, ⟨none, none, (.st 2 (.t 11) (.t 30))⟩]) (.seq (.reg [⟨(some 32), none, (.ld true 2 (.t 11))⟩, ⟨(some 33), none, (.mv (.t 1))⟩, ⟨(some 34), none, (.mv (.t 2))⟩, ⟨(some 35), none, (.call 28 [(.t 32), (.t 33), (.t 34)])⟩, ⟨(some 31), none, (.mv (.t 35))⟩, ⟨(some 36), none, (.ext (.t 31) 0)⟩, ⟨(some 37), none, (.ext (.t 31) 1)⟩, ⟨(some 38), none, (.ext (.t 31) 2)⟩, ⟨(some 12), none, (.mv (.t 36))⟩, ⟨(some 13), none, (.mv (.t 37))⟩, ⟨(some 14), none, (.mv (.t 38))⟩]) (.seq (.seq (.reg [⟨(some 39), none, (.mv (.t 12))⟩, ⟨(some 40), none, (.mv (.t 8))⟩, ⟨(some 41), none, (.bin .neq (.t 39) (.t 40))⟩, ⟨(some 42), none, (.mv (.t 41))⟩, ⟨(some 43), (some (42, false)), (.mv (.t 13))⟩, ⟨(some 44), (some (42, false)), (.mv (.t 9))⟩, ⟨(some 45), (some (42, false)), (.bin .neq (.t 43) (.t 44))⟩, ⟨(some 46), none, (.pick (.t 42) (.c (.bool true)) (.t 45))⟩, ⟨(some 47), none, (.mv (.t 46))⟩, ⟨(some 48), (some (47, false)), (.mv (.t 14))⟩, ⟨(some 49), (some (47, false)), (.mv (.t 10))⟩, ⟨(some 50), (some (47, false)), (.bool2 true (.t 48) (.t 49))⟩, ⟨(some 51), none, (.pick (.t 47) (.c (.bool true)) (.t 50))⟩]) (.cond (.t 51) (.seq (.reg [⟨(some 6), none, (.mv (.c (.bool false)))⟩]) .ret) .skip)) (.seq (.seq (.dreg [⟨(some 52), none, (.ld true 2 (.t 11))⟩, ⟨(some 53), none, (.ld true 2 (.t 3))⟩, ⟨(some 54), none, (.call 18 [(.t 53)])⟩, ⟨(some 55), none, (.call 20 [(.t 52), (.t 54)])⟩, ⟨(some 56), none, (.un .not (.t 55))⟩] [[], [], [1], [0, 1, 2], [0, 1, 2, 3]]) (.cond (.t 56) (.seq (.reg [⟨(some 6), none, (.mv (.c (.bool false)))⟩]) .ret) .skip)) (.seq (.reg [⟨(some 6), none, (.mv (.c (.bool true)))⟩]) .ret))))))))))
def ro7 : List AOp := [(.mv (.t 6))]
theorem fun7 : Fun Try.prog 7 57 ac7 ro7 := ⟨Try.f7, _, Try.func7, by kernel_rfl, rfl, rfl, by kernel_rfl, by kernel_rfl, by decide⟩
theorem con7 (nn : Bool) (d : Ds) (hlen : d.ws.length ≤ 9223372036854775807) (num den : Int) : Con Try.prog 7 true [.agg (dRow nn d), .int .i64 num, .int .i64 den] (.bool true) [] := by
  refine con_of_wp mixed fun7 (by simp) [] plain_nil ?_
  unfold ac7 ro7
  simp only [zipT]
  have c := con16 nn d hlen 1048576 (by decide) (by decide)
  by_cases hs : (d.ws.length : Int) ≤ 1048576
  · rw [if_pos hs] at c
    have hs' : d.ws.length ≤ 1048576 := by omega
    have c1 := con18 nn d hs'
    obtain ⟨va, vb, ok, c2, c3⟩ := sin_same d hs' num den
    have c2 := c2 true
    have c3 := c3 true
    have c4 := con20_same true true d hs'
    obtain ⟨f, ws⟩ := d
    unfold dRow at *
    simp only at *
    repeat' (first
      | refine wC_dregE ?_ | refine wG_call c rfl rfl ?_ | refine wG_call1 c1 rfl rfl ?_ | refine wG_call c2 (ag_is rfl rfl rfl iRow_plain (ag_int rfl (ag_int rfl ag_nil))) rfl ?_ | refine wG_call c3 (ag_is rfl rfl rfl iRow_plain (ag_int rfl (ag_int rfl ag_nil))) rfl ?_ | refine wE_call1 c1 rfl rfl rfl ?_ | refine wE_call c4 (ag_is rfl rfl rfl iRow_plain (ag_is rfl rfl rfl iRow_plain ag_nil)) rfl rfl ?_ | simp only [ne_eq, not_true_eq_false, decide_false] | (first
    | refine wC_seq ?_
    | refine wC_reg ?_
    | refine wC_dregq rfl ?_
    | refine wC_dregE ?_
    | refine wC_skip ?_
    | refine wC_blk ?_
    | refine wC_exit ?_
    | refine wC_ret ?_
    | refine q_seq_n ?_
    | refine q_seq_x ?_
    | refine q_seq_r ?_
    | refine q_blk_n ?_
    | refine q_blk_r ?_
    | refine q_blk_x ?_
    | refine q_blk_o rfl ?_
    | refine wG_nil ?_
    | refine wG_gy rfl ?_
    | refine wG_gn rfl rfl ?_
    | refine wG_gu rfl ?_
    | refine wC_cond_t rfl ?_
    | refine wC_cond_f rfl ?_
    | refine wG_pure (o_mv rfl) ?_
    | refine wG_pure (o_pick_t rfl rfl) ?_
    | refine wG_pure (o_pick_f rfl rfl) ?_
    | refine wG_pure (o_ldf_pt rfl rfl rfl rfl) ?_
    | refine wG_pure (o_ldt_pt rfl rfl rfl rfl rfl) ?_
    | refine wG_pure (o_ldf_vp rfl) ?_
    | refine wG_pure (o_ldt_vp rfl rfl rfl) ?_
    | refine wG_pure (o_fa_pt rfl) ?_
    | refine wG_pure (o_fa_vp rfl rfl) ?_
    | refine wG_pure (o_nck_pt rfl) ?_
    | refine wG_pure (o_nck_vp rfl) ?_
    | refine wG_pure (o_nck_fn rfl) ?_
    | refine wG_pure (e_ia_vw0 rfl rfl (by omega) rfl) ?_
    | refine wG_pure (e_ia_vwp rfl rfl (by omega) rfl) ?_
    | refine wG_pure (e_ia_vwm rfl rfl (by omega) (by omega) rfl) ?_
    | refine wG_pure (e_ia_vwi rfl rfl (by omega) rfl) ?_
    | refine wG_pure (e_ia_vwn rfl rfl (by omega) (by omega) rfl) ?_
    | refine wG_pure (e_add rfl rfl (by omega) (by omega)) ?_
    | refine wG_pure (e_sub rfl rfl (by omega) (by omega)) ?_
    | refine wG_pure (e_mul rfl rfl (by omega) (by omega)) ?_
    | refine wG_pure (o_lss rfl rfl) ?_
    | refine wG_pure (o_leq rfl rfl) ?_
    | refine wG_pure (o_gtr rfl rfl) ?_
    | refine wG_pure (o_geq rfl rfl) ?_
    | refine wG_pure (o_eql rfl rfl) ?_
    | refine wG_pure (o_neq rfl rfl) ?_
    | refine wG_pure (o_not_d rfl) ?_
    | refine wG_pure (o_not rfl) ?_
    | refine wG_pure (o_beq rfl rfl) ?_
    | refine wG_pure (o_bne rfl rfl) ?_
    | refine wG_pure (o_build rfl) ?_
    | refine wG_pure (o_mkf rfl) ?_
    | refine wG_pure (o_isnil_vw rfl rfl) ?_
    | refine wG_pure (o_isnil_sl rfl rfl) ?_
    | refine wG_pure (o_isnil_nil rfl rfl) ?_
    | refine wG_pure (o_len_sl rfl) ?_
    | refine wG_pure (o_len_vwm rfl) ?_
    | refine wG_pure (o_len_vw rfl) ?_
    | refine wG_pure (o_len_nil rfl) ?_
    | refine wG_pure (o_slen rfl) ?_
    | refine wG_pure (o_fldf rfl rfl) ?_
    | refine wG_pure (o_fldt rfl rfl rfl) ?_
    | refine wG_pure (o_ext rfl rfl) ?_
    | refine wG_pure (o_mx rfl rfl) ?_
    | refine wG_pure (o_mn rfl rfl) ?_
    | refine wG_pure (o_neg rfl (by omega) (by omega)) ?_
    | refine wG_new (o_alloc) ?_
    | refine wG_new (o_bsl rfl) ?_
    | refine wG_new (o_box_agg rfl rfl) ?_
    | refine wG_new (o_mks rfl rfl (by omega) (by decide)) ?_
    | refine wG_new (o_box1 rfl) ?_
    | refine wG_upd (o_st_agg rfl rfl rfl rfl rfl rfl rfl) ?_
    | refine wG_upd (o_st1 rfl rfl rfl rfl rfl rfl) ?_) | (first
    | refine wE_nil rfl ?_
    | refine wE_gy rfl ?_
    | refine wE_gn rfl rfl rfl ?_
    | refine wE_gu rfl rfl ?_
    | refine wE_gnn rfl rfl rfl ?_
    | refine wE_pure0 (o_mv rfl) rfl ?_
    | refine wE_pure (o_mv rfl) rfl ?_
    | refine wE_pure0 (o_pick_t rfl rfl) rfl ?_
    | refine wE_pure (o_pick_t rfl rfl) rfl ?_
    | refine wE_pure0 (o_pick_f rfl rfl) rfl ?_
    | refine wE_pure (o_pick_f rfl rfl) rfl ?_
    | refine wE_pure0 (o_ldf_pt rfl rfl rfl rfl) rfl ?_
    | refine wE_pure (o_ldf_pt rfl rfl rfl rfl) rfl ?_
    | refine wE_pure0 (o_ldt_pt rfl rfl rfl rfl rfl) rfl ?_
    | refine wE_pure (o_ldt_pt rfl rfl rfl rfl rfl) rfl ?_
    | refine wE_pure0 (o_ldf_vp rfl) rfl ?_
    | refine wE_pure (o_ldf_vp rfl) rfl ?_
    | refine wE_pure0 (o_ldt_vp rfl rfl rfl) rfl ?_
    | refine wE_pure (o_ldt_vp rfl rfl rfl) rfl ?_
    | refine wE_pure0 (o_fa_pt rfl) rfl ?_
    | refine wE_pure (o_fa_pt rfl) rfl ?_
    | refine wE_pure0 (o_fa_vp rfl rfl) rfl ?_
    | refine wE_pure (o_fa_vp rfl rfl) rfl ?_
    | refine wE_pure0 (o_nck_pt rfl) rfl ?_
    | refine wE_pure (o_nck_pt rfl) rfl ?_
    | refine wE_pure0 (o_nck_vp rfl) rfl ?_
    | refine wE_pure (o_nck_vp rfl) rfl ?_
    | refine wE_pure0 (o_nck_fn rfl) rfl ?_
    | refine wE_pure (o_nck_fn rfl) rfl ?_
    | refine wE_pure0 (e_ia_vw0 rfl rfl (by omega) rfl) rfl ?_
    | refine wE_pure (e_ia_vw0 rfl rfl (by omega) rfl) rfl ?_
    | refine wE_pure0 (e_ia_vwp rfl rfl (by omega) rfl) rfl ?_
    | refine wE_pure (e_ia_vwp rfl rfl (by omega) rfl) rfl ?_
    | refine wE_pure0 (e_ia_vwm rfl rfl (by omega) (by omega) rfl) rfl ?_
    | refine wE_pure (e_ia_vwm rfl rfl (by omega) (by omega) rfl) rfl ?_
    | refine wE_pure0 (e_ia_vwi rfl rfl (by omega) rfl) rfl ?_
    | refine wE_pure (e_ia_vwi rfl rfl (by omega) rfl) rfl ?_
    | refine wE_pure0 (e_ia_vwn rfl rfl (by omega) (by omega) rfl) rfl ?_
    | refine wE_pure (e_ia_vwn rfl rfl (by omega) (by omega) rfl) rfl ?_
    | refine wE_pure0 (e_add rfl rfl (by omega) (by omega)) rfl ?_
    | refine wE_pure (e_add rfl rfl (by omega) (by omega)) rfl ?_
    | refine wE_pure0 (e_sub rfl rfl (by omega) (by omega)) rfl ?_
    | refine wE_pure (e_sub rfl rfl (by omega) (by omega)) rfl ?_
    | refine wE_pure0 (e_mul rfl rfl (by omega) (by omega)) rfl ?_
    | refine wE_pure (e_mul rfl rfl (by omega) (by omega)) rfl ?_
    | refine wE_pure0 (o_lss rfl rfl) rfl ?_
    | refine wE_pure (o_lss rfl rfl) rfl ?_
    | refine wE_pure0 (o_leq rfl rfl) rfl ?_
    | refine wE_pure (o_leq rfl rfl) rfl ?_
    | refine wE_pure0 (o_gtr rfl rfl) rfl ?_
    | refine wE_pure (o_gtr rfl rfl) rfl ?_
    | refine wE_pure0 (o_geq rfl rfl) rfl ?_
    | refine wE_pure (o_geq rfl rfl) rfl ?_
    | refine wE_pure0 (o_eql rfl rfl) rfl ?_
    | refine wE_pure (o_eql rfl rfl) rfl ?_
    | refine wE_pure0 (o_neq rfl rfl) rfl ?_
    | refine wE_pure (o_neq rfl rfl) rfl ?_
    | refine wE_pure0 (o_not_d rfl) rfl ?_
    | refine wE_pure (o_not_d rfl) rfl ?_
    | refine wE_pure0 (o_not rfl) rfl ?_
    | refine wE_pure (o_not rfl) rfl ?_
    | refine wE_pure0 (o_beq rfl rfl) rfl ?_
    | refine wE_pure (o_beq rfl rfl) rfl ?_
    | refine wE_pure0 (o_bne rfl rfl) rfl ?_
    | refine wE_pure (o_bne rfl rfl) rfl ?_
    | refine wE_pure0 (o_build rfl) rfl ?_
    | refine wE_pure (o_build rfl) rfl ?_
    | refine wE_pure0 (o_mkf rfl) rfl ?_
    | refine wE_pure (o_mkf rfl) rfl ?_
    | refine wE_pure0 (o_isnil_vw rfl rfl) rfl ?_
    | refine wE_pure (o_isnil_vw rfl rfl) rfl ?_
    | refine wE_pure0 (o_isnil_sl rfl rfl) rfl ?_
    | refine wE_pure (o_isnil_sl rfl rfl) rfl ?_
    | refine wE_pure0 (o_isnil_nil rfl rfl) rfl ?_
    | refine wE_pure (o_isnil_nil rfl rfl) rfl ?_
    | refine wE_pure0 (o_len_sl rfl) rfl ?_
    | refine wE_pure (o_len_sl rfl) rfl ?_
    | refine wE_pure0 (o_len_vwm rfl) rfl ?_
    | refine wE_pure (o_len_vwm rfl) rfl ?_
    | refine wE_pure0 (o_len_vw rfl) rfl ?_
    | refine wE_pure (o_len_vw rfl) rfl ?_
    | refine wE_pure0 (o_len_nil rfl) rfl ?_
    | refine wE_pure (o_len_nil rfl) rfl ?_
    | refine wE_pure0 (o_slen rfl) rfl ?_
    | refine wE_pure (o_slen rfl) rfl ?_
    | refine wE_pure0 (o_fldf rfl rfl) rfl ?_
    | refine wE_pure (o_fldf rfl rfl) rfl ?_
    | refine wE_pure0 (o_fldt rfl rfl rfl) rfl ?_
    | refine wE_pure (o_fldt rfl rfl rfl) rfl ?_
    | refine wE_pure0 (o_ext rfl rfl) rfl ?_
    | refine wE_pure (o_ext rfl rfl) rfl ?_
    | refine wE_pure0 (o_mx rfl rfl) rfl ?_
    | refine wE_pure (o_mx rfl rfl) rfl ?_
    | refine wE_pure0 (o_mn rfl rfl) rfl ?_
    | refine wE_pure (o_mn rfl rfl) rfl ?_
    | refine wE_pure0 (o_neg rfl (by omega) (by omega)) rfl ?_
    | refine wE_pure (o_neg rfl (by omega) (by omega)) rfl ?_
    | refine wE_new (o_alloc) rfl ?_
    | refine wE_new (o_bsl rfl) rfl ?_
    | refine wE_new (o_box_agg rfl rfl) rfl ?_
    | refine wE_new (o_mks rfl rfl (by omega) (by decide)) rfl ?_
    | refine wE_new (o_box1 rfl) rfl ?_
    | refine wE_upd (o_st_agg rfl rfl rfl rfl rfl rfl rfl) rfl ?_
    | refine wE_upd (o_st1 rfl rfl rfl rfl rfl rfl) rfl ?_) | (refine wG_gd rfl (fun hgt => ?_) (fun hgf => ?_) <;> (first | simp only [eq_true hgt, decide_true] | simp only [eq_false hgf, decide_false])) | refine wC_cond_d rfl (fun hg => ?_) (fun hg => ?_))
    all_goals (first | exact ret_boolE (.inr rfl) ⟨_, retV_mv rfl, rfl⟩ | (exfalso; omega) | trace_state)
  · rw [if_neg hs] at c
    repeat (first | refine wG_call c rfl rfl ?_ | (first
    | refine wC_seq ?_
    | refine wC_reg ?_
    | refine wC_dregq rfl ?_
    | refine wC_dregE ?_
    | refine wC_skip ?_
    | refine wC_blk ?_
    | refine wC_exit ?_
    | refine wC_ret ?_
    | refine q_seq_n ?_
    | refine q_seq_x ?_
    | refine q_seq_r ?_
    | refine q_blk_n ?_
    | refine q_blk_r ?_
    | refine q_blk_x ?_
    | refine q_blk_o rfl ?_
    | refine wG_nil ?_
    | refine wG_gy rfl ?_
    | refine wG_gn rfl rfl ?_
    | refine wG_gu rfl ?_
    | refine wC_cond_t rfl ?_
    | refine wC_cond_f rfl ?_
    | refine wG_pure (o_mv rfl) ?_
    | refine wG_pure (o_pick_t rfl rfl) ?_
    | refine wG_pure (o_pick_f rfl rfl) ?_
    | refine wG_pure (o_ldf_pt rfl rfl rfl rfl) ?_
    | refine wG_pure (o_ldt_pt rfl rfl rfl rfl rfl) ?_
    | refine wG_pure (o_ldf_vp rfl) ?_
    | refine wG_pure (o_ldt_vp rfl rfl rfl) ?_
    | refine wG_pure (o_fa_pt rfl) ?_
    | refine wG_pure (o_fa_vp rfl rfl) ?_
    | refine wG_pure (o_nck_pt rfl) ?_
    | refine wG_pure (o_nck_vp rfl) ?_
    | refine wG_pure (o_nck_fn rfl) ?_
    | refine wG_pure (e_ia_vw0 rfl rfl (by omega) rfl) ?_
    | refine wG_pure (e_ia_vwp rfl rfl (by omega) rfl) ?_
    | refine wG_pure (e_ia_vwm rfl rfl (by omega) (by omega) rfl) ?_
    | refine wG_pure (e_ia_vwi rfl rfl (by omega) rfl) ?_
    | refine wG_pure (e_ia_vwn rfl rfl (by omega) (by omega) rfl) ?_
    | refine wG_pure (e_add rfl rfl (by omega) (by omega)) ?_
    | refine wG_pure (e_sub rfl rfl (by omega) (by omega)) ?_
    | refine wG_pure (e_mul rfl rfl (by omega) (by omega)) ?_
    | refine wG_pure (o_lss rfl rfl) ?_
    | refine wG_pure (o_leq rfl rfl) ?_
    | refine wG_pure (o_gtr rfl rfl) ?_
    | refine wG_pure (o_geq rfl rfl) ?_
    | refine wG_pure (o_eql rfl rfl) ?_
    | refine wG_pure (o_neq rfl rfl) ?_
    | refine wG_pure (o_not_d rfl) ?_
    | refine wG_pure (o_not rfl) ?_
    | refine wG_pure (o_beq rfl rfl) ?_
    | refine wG_pure (o_bne rfl rfl) ?_
    | refine wG_pure (o_build rfl) ?_
    | refine wG_pure (o_mkf rfl) ?_
    | refine wG_pure (o_isnil_vw rfl rfl) ?_
    | refine wG_pure (o_isnil_sl rfl rfl) ?_
    | refine wG_pure (o_isnil_nil rfl rfl) ?_
    | refine wG_pure (o_len_sl rfl) ?_
    | refine wG_pure (o_len_vwm rfl) ?_
    | refine wG_pure (o_len_vw rfl) ?_
    | refine wG_pure (o_len_nil rfl) ?_
    | refine wG_pure (o_slen rfl) ?_
    | refine wG_pure (o_fldf rfl rfl) ?_
    | refine wG_pure (o_fldt rfl rfl rfl) ?_
    | refine wG_pure (o_ext rfl rfl) ?_
    | refine wG_pure (o_mx rfl rfl) ?_
    | refine wG_pure (o_mn rfl rfl) ?_
    | refine wG_pure (o_neg rfl (by omega) (by omega)) ?_
    | refine wG_new (o_alloc) ?_
    | refine wG_new (o_bsl rfl) ?_
    | refine wG_new (o_box_agg rfl rfl) ?_
    | refine wG_new (o_mks rfl rfl (by omega) (by decide)) ?_
    | refine wG_new (o_box1 rfl) ?_
    | refine wG_upd (o_st_agg rfl rfl rfl rfl rfl rfl rfl) ?_
    | refine wG_upd (o_st1 rfl rfl rfl rfl rfl rfl) ?_))
    exact ret_boolE (.inr rfl) ⟨_, retV_mv rfl, rfl⟩
end Go.Proofs.Ytdljklicegcbpaa.Dst
