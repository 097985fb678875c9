/- The law on the mean of measurements: its body gives true, for every list that a machine holds. -/
import Derived.Test.YtkbgadipkihifaaCmbC
namespace Go.Proofs.Ytkbgadipkihifaa.Msr
open Go Go.Proofs.Ytkbgadipkihifaa.Ab
attribute [local irreducible] wpO wpC wpDr wpQ wpG stepA seqQ blkQ Ret ev
set_option maxRecDepth 10000
set_option linter.unusedSimpArgs false
set_option linter.unusedVariables false

theorem con4 (nn : Bool) (xs : List Ms) (hlen : xs.length ≤ 9223372036854775807) : Con Try.prog 4 true [.vw nn (xs.map msRow)] (.bool true) [] := by
  refine con_of_wp mixed fun4 (by simp) [] plain_nil ?_
  unfold ac4 ro4
  simp only [zipT]
  have c15 := con15 nn xs hlen 1048576 (by decide) (by decide)
  by_cases hs : xs.length ≤ 1048576
  · rw [if_pos (by omega)] at c15
    repeat (first | refine wG_call c15 rfl rfl ?_ | (first
    | refine wC_seq ?_
    | refine wC_reg ?_
    | refine wC_dreg ?_
    | refine wC_skip ?_
    | refine wC_blk ?_
    | refine wC_exit ?_
    | refine wC_ret ?_
    | refine q_seq_n ?_
    | refine q_seq_x ?_
    | refine q_seq_r ?_
    | refine q_blk_n ?_
    | refine q_blk_r ?_
    | refine q_blk_x ?_
    | refine q_blk_o rfl ?_
    | refine wG_nil ?_
    | refine wG_gy rfl ?_
    | refine wG_gn rfl rfl ?_
    | refine wC_cond_t rfl ?_
    | refine wC_cond_f rfl ?_
    | refine wG_pure (o_mv_int rfl) ?_
    | refine wG_pure (o_mv_bool rfl) ?_
    | refine wG_pure (o_mv_sl rfl) ?_
    | refine wG_pure (o_mv_pt rfl) ?_
    | refine wG_pure (o_mv_vw rfl) ?_
    | refine wG_pure (o_mv_vp rfl) ?_
    | refine wG_pure (o_mv_agg rfl) ?_
    | refine wG_pure (o_mv_nilS rfl) ?_
    | refine wG_pure (o_mv_str rfl) ?_
    | refine wG_pure (o_mv_fn rfl) ?_
    | refine wG_pure (o_mv_tup rfl) ?_
    | refine wG_pure (o_mv_nilP rfl) ?_
    | refine wG_pure (o_mv_nilF rfl) ?_
    | refine wG_pure (o_ldf_pt rfl rfl rfl rfl) ?_
    | refine wG_pure (o_ldt_pt rfl rfl rfl rfl rfl) ?_
    | refine wG_pure (o_ldf_vp rfl) ?_
    | refine wG_pure (o_ldt_vp rfl rfl rfl) ?_
    | refine wG_pure (o_fa_pt rfl) ?_
    | refine wG_pure (o_fa_vp rfl rfl) ?_
    | refine wG_pure (o_nck_pt rfl) ?_
    | refine wG_pure (o_nck_vp rfl) ?_
    | refine wG_pure (o_nck_fn rfl) ?_
    | refine wG_pure (e_ia_vwi rfl rfl (by omega) rfl) ?_
    | refine wG_pure (e_ia_vwn rfl rfl (by omega) (by omega) rfl) ?_
    | refine wG_pure (e_add rfl rfl (by omega) (by omega)) ?_
    | refine wG_pure (e_sub rfl rfl (by omega) (by omega)) ?_
    | refine wG_pure (e_mul rfl rfl (by omega) (by omega)) ?_
    | refine wG_pure (o_lss rfl rfl) ?_
    | refine wG_pure (o_leq rfl rfl) ?_
    | refine wG_pure (o_gtr rfl rfl) ?_
    | refine wG_pure (o_geq rfl rfl) ?_
    | refine wG_pure (o_eql rfl rfl) ?_
    | refine wG_pure (o_neq rfl rfl) ?_
    | refine wG_pure (o_not_d rfl) ?_
    | refine wG_pure (o_not rfl) ?_
    | refine wG_pure (o_beq rfl rfl) ?_
    | refine wG_pure (o_bne rfl rfl) ?_
    | refine wG_pure (o_pick_t_int rfl rfl) ?_
    | refine wG_pure (o_pick_f_int rfl rfl) ?_
    | refine wG_pure (o_pick_t_bool rfl rfl) ?_
    | refine wG_pure (o_pick_f_bool rfl rfl) ?_
    | refine wG_pure (o_build rfl) ?_
    | refine wG_pure (o_len_sl rfl) ?_
    | refine wG_pure (o_len_vwm rfl) ?_
    | refine wG_pure (o_len_vw rfl) ?_
    | refine wG_pure (o_len_nil rfl) ?_
    | refine wG_pure (o_slen rfl) ?_
    | refine wG_pure (o_fldf rfl rfl) ?_
    | refine wG_pure (o_fldt rfl rfl rfl) ?_
    | refine wG_pure (o_ext rfl rfl) ?_
    | refine wG_pure (o_mx rfl rfl) ?_
    | refine wG_pure (o_mn rfl rfl) ?_
    | refine wG_pure (o_neg rfl (by omega) (by omega)) ?_
    | refine wG_new (o_alloc) ?_
    | refine wG_new (o_box_agg rfl rfl) ?_
    | refine wG_new (o_box_int rfl) ?_
    | refine wG_new (o_box_bool rfl) ?_
    | refine wG_new (o_box_sl rfl) ?_
    | refine wG_new (o_box_pt rfl) ?_
    | refine wG_new (o_box_vw rfl) ?_
    | refine wG_new (o_box_vp rfl) ?_
    | refine wG_new (o_box_nilS rfl) ?_
    | refine wG_new (o_box_str rfl) ?_
    | refine wG_new (o_box_fn rfl) ?_
    | refine wG_new (o_box_nilP rfl) ?_
    | refine wG_new (o_box_nilF rfl) ?_
    | refine wG_new (o_mks rfl rfl (by omega) (by decide)) ?_
    | refine wG_upd (o_st_agg rfl rfl rfl rfl rfl rfl rfl) ?_
    | refine wG_upd (o_st_int rfl rfl rfl rfl rfl rfl) ?_
    | refine wG_upd (o_st_bool rfl rfl rfl rfl rfl rfl) ?_
    | refine wG_upd (o_st_sl rfl rfl rfl rfl rfl rfl) ?_
    | refine wG_upd (o_st_pt rfl rfl rfl rfl rfl rfl) ?_
    | refine wG_upd (o_st_vw rfl rfl rfl rfl rfl rfl) ?_
    | refine wG_upd (o_st_vp rfl rfl rfl rfl rfl rfl) ?_
    | refine wG_upd (o_st_nilS rfl rfl rfl rfl rfl rfl) ?_
    | refine wG_upd (o_st_str rfl rfl rfl rfl rfl rfl) ?_
    | refine wG_upd (o_st_fn rfl rfl rfl rfl rfl rfl) ?_
    | refine wG_upd (o_st_nilP rfl rfl rfl rfl rfl rfl) ?_
    | refine wG_upd (o_st_nilF rfl rfl rfl rfl rfl rfl) ?_))
    refine wC_cond_d rfl (fun h => ?_) (fun h => ?_)
    · omega
    repeat' (first | refine wG_call1 (con17 nn xs hs) rfl rfl ?_ | refine wG_call (con16 true xs hs) (ag_sl rfl rfl rfl msRow_plain ag_nil) rfl ?_ | refine wG_call (con18 true xs hs) (ag_sl rfl rfl rfl msRow_plain ag_nil) rfl ?_ | refine wG_call (con20_same true true xs hs) (ag_sl rfl rfl rfl msRow_plain (ag_sl rfl rfl rfl msRow_plain ag_nil)) rfl ?_ | refine wG_call (con19 (mean xs) (mean xs)) rfl rfl ?_ | (first
    | refine wC_seq ?_
    | refine wC_reg ?_
    | refine wC_dreg ?_
    | refine wC_skip ?_
    | refine wC_blk ?_
    | refine wC_exit ?_
    | refine wC_ret ?_
    | refine q_seq_n ?_
    | refine q_seq_x ?_
    | refine q_seq_r ?_
    | refine q_blk_n ?_
    | refine q_blk_r ?_
    | refine q_blk_x ?_
    | refine q_blk_o rfl ?_
    | refine wG_nil ?_
    | refine wG_gy rfl ?_
    | refine wG_gn rfl rfl ?_
    | refine wC_cond_t rfl ?_
    | refine wC_cond_f rfl ?_
    | refine wG_pure (o_mv_int rfl) ?_
    | refine wG_pure (o_mv_bool rfl) ?_
    | refine wG_pure (o_mv_sl rfl) ?_
    | refine wG_pure (o_mv_pt rfl) ?_
    | refine wG_pure (o_mv_vw rfl) ?_
    | refine wG_pure (o_mv_vp rfl) ?_
    | refine wG_pure (o_mv_agg rfl) ?_
    | refine wG_pure (o_mv_nilS rfl) ?_
    | refine wG_pure (o_mv_str rfl) ?_
    | refine wG_pure (o_mv_fn rfl) ?_
    | refine wG_pure (o_mv_tup rfl) ?_
    | refine wG_pure (o_mv_nilP rfl) ?_
    | refine wG_pure (o_mv_nilF rfl) ?_
    | refine wG_pure (o_ldf_pt rfl rfl rfl rfl) ?_
    | refine wG_pure (o_ldt_pt rfl rfl rfl rfl rfl) ?_
    | refine wG_pure (o_ldf_vp rfl) ?_
    | refine wG_pure (o_ldt_vp rfl rfl rfl) ?_
    | refine wG_pure (o_fa_pt rfl) ?_
    | refine wG_pure (o_fa_vp rfl rfl) ?_
    | refine wG_pure (o_nck_pt rfl) ?_
    | refine wG_pure (o_nck_vp rfl) ?_
    | refine wG_pure (o_nck_fn rfl) ?_
    | refine wG_pure (e_ia_vwi rfl rfl (by omega) rfl) ?_
    | refine wG_pure (e_ia_vwn rfl rfl (by omega) (by omega) rfl) ?_
    | refine wG_pure (e_add rfl rfl (by omega) (by omega)) ?_
    | refine wG_pure (e_sub rfl rfl (by omega) (by omega)) ?_
    | refine wG_pure (e_mul rfl rfl (by omega) (by omega)) ?_
    | refine wG_pure (o_lss rfl rfl) ?_
    | refine wG_pure (o_leq rfl rfl) ?_
    | refine wG_pure (o_gtr rfl rfl) ?_
    | refine wG_pure (o_geq rfl rfl) ?_
    | refine wG_pure (o_eql rfl rfl) ?_
    | refine wG_pure (o_neq rfl rfl) ?_
    | refine wG_pure (o_not_d rfl) ?_
    | refine wG_pure (o_not rfl) ?_
    | refine wG_pure (o_beq rfl rfl) ?_
    | refine wG_pure (o_bne rfl rfl) ?_
    | refine wG_pure (o_pick_t_int rfl rfl) ?_
    | refine wG_pure (o_pick_f_int rfl rfl) ?_
    | refine wG_pure (o_pick_t_bool rfl rfl) ?_
    | refine wG_pure (o_pick_f_bool rfl rfl) ?_
    | refine wG_pure (o_build rfl) ?_
    | refine wG_pure (o_len_sl rfl) ?_
    | refine wG_pure (o_len_vwm rfl) ?_
    | refine wG_pure (o_len_vw rfl) ?_
    | refine wG_pure (o_len_nil rfl) ?_
    | refine wG_pure (o_slen rfl) ?_
    | refine wG_pure (o_fldf rfl rfl) ?_
    | refine wG_pure (o_fldt rfl rfl rfl) ?_
    | refine wG_pure (o_ext rfl rfl) ?_
    | refine wG_pure (o_mx rfl rfl) ?_
    | refine wG_pure (o_mn rfl rfl) ?_
    | refine wG_pure (o_neg rfl (by omega) (by omega)) ?_
    | refine wG_new (o_alloc) ?_
    | refine wG_new (o_box_agg rfl rfl) ?_
    | refine wG_new (o_box_int rfl) ?_
    | refine wG_new (o_box_bool rfl) ?_
    | refine wG_new (o_box_sl rfl) ?_
    | refine wG_new (o_box_pt rfl) ?_
    | refine wG_new (o_box_vw rfl) ?_
    | refine wG_new (o_box_vp rfl) ?_
    | refine wG_new (o_box_nilS rfl) ?_
    | refine wG_new (o_box_str rfl) ?_
    | refine wG_new (o_box_fn rfl) ?_
    | refine wG_new (o_box_nilP rfl) ?_
    | refine wG_new (o_box_nilF rfl) ?_
    | refine wG_new (o_mks rfl rfl (by omega) (by decide)) ?_
    | refine wG_upd (o_st_agg rfl rfl rfl rfl rfl rfl rfl) ?_
    | refine wG_upd (o_st_int rfl rfl rfl rfl rfl rfl) ?_
    | refine wG_upd (o_st_bool rfl rfl rfl rfl rfl rfl) ?_
    | refine wG_upd (o_st_sl rfl rfl rfl rfl rfl rfl) ?_
    | refine wG_upd (o_st_pt rfl rfl rfl rfl rfl rfl) ?_
    | refine wG_upd (o_st_vw rfl rfl rfl rfl rfl rfl) ?_
    | refine wG_upd (o_st_vp rfl rfl rfl rfl rfl rfl) ?_
    | refine wG_upd (o_st_nilS rfl rfl rfl rfl rfl rfl) ?_
    | refine wG_upd (o_st_str rfl rfl rfl rfl rfl rfl) ?_
    | refine wG_upd (o_st_fn rfl rfl rfl rfl rfl rfl) ?_
    | refine wG_upd (o_st_nilP rfl rfl rfl rfl rfl rfl) ?_
    | refine wG_upd (o_st_nilF rfl rfl rfl rfl rfl rfl) ?_) | simp only [ne_eq, not_true_eq_false, decide_false, and_self, decide_true])
    refine ret_boolE (.inr rfl) ?_
    exact ⟨_, retV_mv rfl, rfl⟩
  · rw [if_neg (by omega)] at c15
    repeat (first | refine wG_call c15 rfl rfl ?_ | (first
    | refine wC_seq ?_
    | refine wC_reg ?_
    | refine wC_dreg ?_
    | refine wC_skip ?_
    | refine wC_blk ?_
    | refine wC_exit ?_
    | refine wC_ret ?_
    | refine q_seq_n ?_
    | refine q_seq_x ?_
    | refine q_seq_r ?_
    | refine q_blk_n ?_
    | refine q_blk_r ?_
    | refine q_blk_x ?_
    | refine q_blk_o rfl ?_
    | refine wG_nil ?_
    | refine wG_gy rfl ?_
    | refine wG_gn rfl rfl ?_
    | refine wC_cond_t rfl ?_
    | refine wC_cond_f rfl ?_
    | refine wG_pure (o_mv_int rfl) ?_
    | refine wG_pure (o_mv_bool rfl) ?_
    | refine wG_pure (o_mv_sl rfl) ?_
    | refine wG_pure (o_mv_pt rfl) ?_
    | refine wG_pure (o_mv_vw rfl) ?_
    | refine wG_pure (o_mv_vp rfl) ?_
    | refine wG_pure (o_mv_agg rfl) ?_
    | refine wG_pure (o_mv_nilS rfl) ?_
    | refine wG_pure (o_mv_str rfl) ?_
    | refine wG_pure (o_mv_fn rfl) ?_
    | refine wG_pure (o_mv_tup rfl) ?_
    | refine wG_pure (o_mv_nilP rfl) ?_
    | refine wG_pure (o_mv_nilF rfl) ?_
    | refine wG_pure (o_ldf_pt rfl rfl rfl rfl) ?_
    | refine wG_pure (o_ldt_pt rfl rfl rfl rfl rfl) ?_
    | refine wG_pure (o_ldf_vp rfl) ?_
    | refine wG_pure (o_ldt_vp rfl rfl rfl) ?_
    | refine wG_pure (o_fa_pt rfl) ?_
    | refine wG_pure (o_fa_vp rfl rfl) ?_
    | refine wG_pure (o_nck_pt rfl) ?_
    | refine wG_pure (o_nck_vp rfl) ?_
    | refine wG_pure (o_nck_fn rfl) ?_
    | refine wG_pure (e_ia_vwi rfl rfl (by omega) rfl) ?_
    | refine wG_pure (e_ia_vwn rfl rfl (by omega) (by omega) rfl) ?_
    | refine wG_pure (e_add rfl rfl (by omega) (by omega)) ?_
    | refine wG_pure (e_sub rfl rfl (by omega) (by omega)) ?_
    | refine wG_pure (e_mul rfl rfl (by omega) (by omega)) ?_
    | refine wG_pure (o_lss rfl rfl) ?_
    | refine wG_pure (o_leq rfl rfl) ?_
    | refine wG_pure (o_gtr rfl rfl) ?_
    | refine wG_pure (o_geq rfl rfl) ?_
    | refine wG_pure (o_eql rfl rfl) ?_
    | refine wG_pure (o_neq rfl rfl) ?_
    | refine wG_pure (o_not_d rfl) ?_
    | refine wG_pure (o_not rfl) ?_
    | refine wG_pure (o_beq rfl rfl) ?_
    | refine wG_pure (o_bne rfl rfl) ?_
    | refine wG_pure (o_pick_t_int rfl rfl) ?_
    | refine wG_pure (o_pick_f_int rfl rfl) ?_
    | refine wG_pure (o_pick_t_bool rfl rfl) ?_
    | refine wG_pure (o_pick_f_bool rfl rfl) ?_
    | refine wG_pure (o_build rfl) ?_
    | refine wG_pure (o_len_sl rfl) ?_
    | refine wG_pure (o_len_vwm rfl) ?_
    | refine wG_pure (o_len_vw rfl) ?_
    | refine wG_pure (o_len_nil rfl) ?_
    | refine wG_pure (o_slen rfl) ?_
    | refine wG_pure (o_fldf rfl rfl) ?_
    | refine wG_pure (o_fldt rfl rfl rfl) ?_
    | refine wG_pure (o_ext rfl rfl) ?_
    | refine wG_pure (o_mx rfl rfl) ?_
    | refine wG_pure (o_mn rfl rfl) ?_
    | refine wG_pure (o_neg rfl (by omega) (by omega)) ?_
    | refine wG_new (o_alloc) ?_
    | refine wG_new (o_box_agg rfl rfl) ?_
    | refine wG_new (o_box_int rfl) ?_
    | refine wG_new (o_box_bool rfl) ?_
    | refine wG_new (o_box_sl rfl) ?_
    | refine wG_new (o_box_pt rfl) ?_
    | refine wG_new (o_box_vw rfl) ?_
    | refine wG_new (o_box_vp rfl) ?_
    | refine wG_new (o_box_nilS rfl) ?_
    | refine wG_new (o_box_str rfl) ?_
    | refine wG_new (o_box_fn rfl) ?_
    | refine wG_new (o_box_nilP rfl) ?_
    | refine wG_new (o_box_nilF rfl) ?_
    | refine wG_new (o_mks rfl rfl (by omega) (by decide)) ?_
    | refine wG_upd (o_st_agg rfl rfl rfl rfl rfl rfl rfl) ?_
    | refine wG_upd (o_st_int rfl rfl rfl rfl rfl rfl) ?_
    | refine wG_upd (o_st_bool rfl rfl rfl rfl rfl rfl) ?_
    | refine wG_upd (o_st_sl rfl rfl rfl rfl rfl rfl) ?_
    | refine wG_upd (o_st_pt rfl rfl rfl rfl rfl rfl) ?_
    | refine wG_upd (o_st_vw rfl rfl rfl rfl rfl rfl) ?_
    | refine wG_upd (o_st_vp rfl rfl rfl rfl rfl rfl) ?_
    | refine wG_upd (o_st_nilS rfl rfl rfl rfl rfl rfl) ?_
    | refine wG_upd (o_st_str rfl rfl rfl rfl rfl rfl) ?_
    | refine wG_upd (o_st_fn rfl rfl rfl rfl rfl rfl) ?_
    | refine wG_upd (o_st_nilP rfl rfl rfl rfl rfl rfl) ?_
    | refine wG_upd (o_st_nilF rfl rfl rfl rfl rfl rfl) ?_))
    refine ret_boolE (.inr rfl) ?_
    exact ⟨_, retV_mv rfl, rfl⟩
end Go.Proofs.Ytkbgadipkihifaa.Msr
