/- Whether measurements are such: what the small functions of both sides give. -/
import Derived.Test.YtkbgadipkihifaaMsrA
namespace Go.Proofs.Ytkbgadipkihifaa.Msr
open Go Go.Proofs.Ytkbgadipkihifaa.Ab
attribute [local irreducible] wpO wpC wpDr wpQ wpG stepA seqQ blkQ Ret ev
set_option maxRecDepth 10000
set_option linter.unusedSimpArgs false
set_option linter.unusedVariables false

theorem con50 (x a b : Int) : Con Try.prog 50 true [.int .i64 x, .int .i64 a, .int .i64 b] (.bool (decide (a ≤ x ∧ x ≤ b))) [] := by
  refine con_of_wp mixed fun50 (by simp) [] plain_nil ?_
  unfold ac50 ro50
  simp only [zipT]
  repeat' (first | (first
    | refine wC_seq ?_
    | refine wC_reg ?_
    | refine wC_dreg ?_
    | refine wC_skip ?_
    | refine wC_blk ?_
    | refine wC_exit ?_
    | refine wC_ret ?_
    | refine q_seq_n ?_
    | refine q_seq_x ?_
    | refine q_seq_r ?_
    | refine q_blk_n ?_
    | refine q_blk_r ?_
    | refine q_blk_x ?_
    | refine q_blk_o rfl ?_
    | refine wG_nil ?_
    | refine wG_gy rfl ?_
    | refine wG_gn rfl rfl ?_
    | refine wC_cond_t rfl ?_
    | refine wC_cond_f rfl ?_
    | refine wG_pure (o_mv_int rfl) ?_
    | refine wG_pure (o_mv_bool rfl) ?_
    | refine wG_pure (o_mv_sl rfl) ?_
    | refine wG_pure (o_mv_pt rfl) ?_
    | refine wG_pure (o_mv_vw rfl) ?_
    | refine wG_pure (o_mv_vp rfl) ?_
    | refine wG_pure (o_mv_agg rfl) ?_
    | refine wG_pure (o_mv_nilS rfl) ?_
    | refine wG_pure (o_mv_str rfl) ?_
    | refine wG_pure (o_mv_fn rfl) ?_
    | refine wG_pure (o_mv_tup rfl) ?_
    | refine wG_pure (o_mv_nilP rfl) ?_
    | refine wG_pure (o_mv_nilF rfl) ?_
    | refine wG_pure (o_ldf_pt rfl rfl rfl rfl) ?_
    | refine wG_pure (o_ldt_pt rfl rfl rfl rfl rfl) ?_
    | refine wG_pure (o_ldf_vp rfl) ?_
    | refine wG_pure (o_ldt_vp rfl rfl rfl) ?_
    | refine wG_pure (o_fa_pt rfl) ?_
    | refine wG_pure (o_fa_vp rfl rfl) ?_
    | refine wG_pure (o_nck_pt rfl) ?_
    | refine wG_pure (o_nck_vp rfl) ?_
    | refine wG_pure (o_nck_fn rfl) ?_
    | refine wG_pure (e_ia_vwi rfl rfl (by omega) rfl) ?_
    | refine wG_pure (e_ia_vwn rfl rfl (by omega) (by omega) rfl) ?_
    | refine wG_pure (e_add rfl rfl (by omega) (by omega)) ?_
    | refine wG_pure (e_sub rfl rfl (by omega) (by omega)) ?_
    | refine wG_pure (e_mul rfl rfl (by omega) (by omega)) ?_
    | refine wG_pure (o_lss rfl rfl) ?_
    | refine wG_pure (o_leq rfl rfl) ?_
    | refine wG_pure (o_gtr rfl rfl) ?_
    | refine wG_pure (o_geq rfl rfl) ?_
    | refine wG_pure (o_eql rfl rfl) ?_
    | refine wG_pure (o_neq rfl rfl) ?_
    | refine wG_pure (o_not_d rfl) ?_
    | refine wG_pure (o_not rfl) ?_
    | refine wG_pure (o_beq rfl rfl) ?_
    | refine wG_pure (o_bne rfl rfl) ?_
    | refine wG_pure (o_pick_t_int rfl rfl) ?_
    | refine wG_pure (o_pick_f_int rfl rfl) ?_
    | refine wG_pure (o_pick_t_bool rfl rfl) ?_
    | refine wG_pure (o_pick_f_bool rfl rfl) ?_
    | refine wG_pure (o_build rfl) ?_
    | refine wG_pure (o_len_sl rfl) ?_
    | refine wG_pure (o_len_vwm rfl) ?_
    | refine wG_pure (o_len_vw rfl) ?_
    | refine wG_pure (o_len_nil rfl) ?_
    | refine wG_pure (o_slen rfl) ?_
    | refine wG_pure (o_fldf rfl rfl) ?_
    | refine wG_pure (o_fldt rfl rfl rfl) ?_
    | refine wG_pure (o_ext rfl rfl) ?_
    | refine wG_pure (o_mx rfl rfl) ?_
    | refine wG_pure (o_mn rfl rfl) ?_
    | refine wG_pure (o_neg rfl (by omega) (by omega)) ?_
    | refine wG_new (o_alloc) ?_
    | refine wG_new (o_box_agg rfl rfl) ?_
    | refine wG_new (o_box_int rfl) ?_
    | refine wG_new (o_box_bool rfl) ?_
    | refine wG_new (o_box_sl rfl) ?_
    | refine wG_new (o_box_pt rfl) ?_
    | refine wG_new (o_box_vw rfl) ?_
    | refine wG_new (o_box_vp rfl) ?_
    | refine wG_new (o_box_nilS rfl) ?_
    | refine wG_new (o_box_str rfl) ?_
    | refine wG_new (o_box_fn rfl) ?_
    | refine wG_new (o_box_nilP rfl) ?_
    | refine wG_new (o_box_nilF rfl) ?_
    | refine wG_new (o_mks rfl rfl (by omega) (by decide)) ?_
    | refine wG_upd (o_st_agg rfl rfl rfl rfl rfl rfl rfl) ?_
    | refine wG_upd (o_st_int rfl rfl rfl rfl rfl rfl) ?_
    | refine wG_upd (o_st_bool rfl rfl rfl rfl rfl rfl) ?_
    | refine wG_upd (o_st_sl rfl rfl rfl rfl rfl rfl) ?_
    | refine wG_upd (o_st_pt rfl rfl rfl rfl rfl rfl) ?_
    | refine wG_upd (o_st_vw rfl rfl rfl rfl rfl rfl) ?_
    | refine wG_upd (o_st_vp rfl rfl rfl rfl rfl rfl) ?_
    | refine wG_upd (o_st_nilS rfl rfl rfl rfl rfl rfl) ?_
    | refine wG_upd (o_st_str rfl rfl rfl rfl rfl rfl) ?_
    | refine wG_upd (o_st_fn rfl rfl rfl rfl rfl rfl) ?_
    | refine wG_upd (o_st_nilP rfl rfl rfl rfl rfl rfl) ?_
    | refine wG_upd (o_st_nilF rfl rfl rfl rfl rfl rfl) ?_) | (refine wG_gd rfl (fun hgt => ?_) (fun hgf => ?_) <;> (first | simp only [eq_true hgt, decide_true] | simp only [eq_false hgf, decide_false])) | refine wC_cond_d rfl (fun hg => ?_) (fun hg => ?_))
  all_goals (refine ret_boolE (.inr rfl) ?_; refine ⟨_, retV_mv rfl, ?_⟩; simp [*])
theorem con38 (x a b : Int) : Con Try.prog 38 true [.int .i64 x, .int .i64 a, .int .i64 b] (.bool (decide (a ≤ x ∧ x ≤ b))) [] := by
  refine con_of_wp mixed fun38 (by simp) [] plain_nil ?_
  unfold ac38 ro38
  simp only [zipT]
  repeat' (first | (first
    | refine wC_seq ?_
    | refine wC_reg ?_
    | refine wC_dreg ?_
    | refine wC_skip ?_
    | refine wC_blk ?_
    | refine wC_exit ?_
    | refine wC_ret ?_
    | refine q_seq_n ?_
    | refine q_seq_x ?_
    | refine q_seq_r ?_
    | refine q_blk_n ?_
    | refine q_blk_r ?_
    | refine q_blk_x ?_
    | refine q_blk_o rfl ?_
    | refine wG_nil ?_
    | refine wG_gy rfl ?_
    | refine wG_gn rfl rfl ?_
    | refine wC_cond_t rfl ?_
    | refine wC_cond_f rfl ?_
    | refine wG_pure (o_mv_int rfl) ?_
    | refine wG_pure (o_mv_bool rfl) ?_
    | refine wG_pure (o_mv_sl rfl) ?_
    | refine wG_pure (o_mv_pt rfl) ?_
    | refine wG_pure (o_mv_vw rfl) ?_
    | refine wG_pure (o_mv_vp rfl) ?_
    | refine wG_pure (o_mv_agg rfl) ?_
    | refine wG_pure (o_mv_nilS rfl) ?_
    | refine wG_pure (o_mv_str rfl) ?_
    | refine wG_pure (o_mv_fn rfl) ?_
    | refine wG_pure (o_mv_tup rfl) ?_
    | refine wG_pure (o_mv_nilP rfl) ?_
    | refine wG_pure (o_mv_nilF rfl) ?_
    | refine wG_pure (o_ldf_pt rfl rfl rfl rfl) ?_
    | refine wG_pure (o_ldt_pt rfl rfl rfl rfl rfl) ?_
    | refine wG_pure (o_ldf_vp rfl) ?_
    | refine wG_pure (o_ldt_vp rfl rfl rfl) ?_
    | refine wG_pure (o_fa_pt rfl) ?_
    | refine wG_pure (o_fa_vp rfl rfl) ?_
    | refine wG_pure (o_nck_pt rfl) ?_
    | refine wG_pure (o_nck_vp rfl) ?_
    | refine wG_pure (o_nck_fn rfl) ?_
    | refine wG_pure (e_ia_vwi rfl rfl (by omega) rfl) ?_
    | refine wG_pure (e_ia_vwn rfl rfl (by omega) (by omega) rfl) ?_
    | refine wG_pure (e_add rfl rfl (by omega) (by omega)) ?_
    | refine wG_pure (e_sub rfl rfl (by omega) (by omega)) ?_
    | refine wG_pure (e_mul rfl rfl (by omega) (by omega)) ?_
    | refine wG_pure (o_lss rfl rfl) ?_
    | refine wG_pure (o_leq rfl rfl) ?_
    | refine wG_pure (o_gtr rfl rfl) ?_
    | refine wG_pure (o_geq rfl rfl) ?_
    | refine wG_pure (o_eql rfl rfl) ?_
    | refine wG_pure (o_neq rfl rfl) ?_
    | refine wG_pure (o_not_d rfl) ?_
    | refine wG_pure (o_not rfl) ?_
    | refine wG_pure (o_beq rfl rfl) ?_
    | refine wG_pure (o_bne rfl rfl) ?_
    | refine wG_pure (o_pick_t_int rfl rfl) ?_
    | refine wG_pure (o_pick_f_int rfl rfl) ?_
    | refine wG_pure (o_pick_t_bool rfl rfl) ?_
    | refine wG_pure (o_pick_f_bool rfl rfl) ?_
    | refine wG_pure (o_build rfl) ?_
    | refine wG_pure (o_len_sl rfl) ?_
    | refine wG_pure (o_len_vwm rfl) ?_
    | refine wG_pure (o_len_vw rfl) ?_
    | refine wG_pure (o_len_nil rfl) ?_
    | refine wG_pure (o_slen rfl) ?_
    | refine wG_pure (o_fldf rfl rfl) ?_
    | refine wG_pure (o_fldt rfl rfl rfl) ?_
    | refine wG_pure (o_ext rfl rfl) ?_
    | refine wG_pure (o_mx rfl rfl) ?_
    | refine wG_pure (o_mn rfl rfl) ?_
    | refine wG_pure (o_neg rfl (by omega) (by omega)) ?_
    | refine wG_new (o_alloc) ?_
    | refine wG_new (o_box_agg rfl rfl) ?_
    | refine wG_new (o_box_int rfl) ?_
    | refine wG_new (o_box_bool rfl) ?_
    | refine wG_new (o_box_sl rfl) ?_
    | refine wG_new (o_box_pt rfl) ?_
    | refine wG_new (o_box_vw rfl) ?_
    | refine wG_new (o_box_vp rfl) ?_
    | refine wG_new (o_box_nilS rfl) ?_
    | refine wG_new (o_box_str rfl) ?_
    | refine wG_new (o_box_fn rfl) ?_
    | refine wG_new (o_box_nilP rfl) ?_
    | refine wG_new (o_box_nilF rfl) ?_
    | refine wG_new (o_mks rfl rfl (by omega) (by decide)) ?_
    | refine wG_upd (o_st_agg rfl rfl rfl rfl rfl rfl rfl) ?_
    | refine wG_upd (o_st_int rfl rfl rfl rfl rfl rfl) ?_
    | refine wG_upd (o_st_bool rfl rfl rfl rfl rfl rfl) ?_
    | refine wG_upd (o_st_sl rfl rfl rfl rfl rfl rfl) ?_
    | refine wG_upd (o_st_pt rfl rfl rfl rfl rfl rfl) ?_
    | refine wG_upd (o_st_vw rfl rfl rfl rfl rfl rfl) ?_
    | refine wG_upd (o_st_vp rfl rfl rfl rfl rfl rfl) ?_
    | refine wG_upd (o_st_nilS rfl rfl rfl rfl rfl rfl) ?_
    | refine wG_upd (o_st_str rfl rfl rfl rfl rfl rfl) ?_
    | refine wG_upd (o_st_fn rfl rfl rfl rfl rfl rfl) ?_
    | refine wG_upd (o_st_nilP rfl rfl rfl rfl rfl rfl) ?_
    | refine wG_upd (o_st_nilF rfl rfl rfl rfl rfl rfl) ?_) | (refine wG_gd rfl (fun hgt => ?_) (fun hgf => ?_) <;> (first | simp only [eq_true hgt, decide_true] | simp only [eq_false hgf, decide_false])) | refine wC_cond_d rfl (fun hg => ?_) (fun hg => ?_))
  all_goals (refine ret_boolE (.inr rfl) ?_; refine ⟨_, retV_mv rfl, ?_⟩; simp [*])

def okM (p : Ms) : Prop := (0 ≤ p.a ∧ p.a ≤ 60000) ∧ (1 ≤ p.e ∧ p.e ≤ 1000)
instance (p : Ms) : Decidable (okM p) := by unfold okM; exact inferInstance
theorem con52 (p : Ms) : Con Try.prog 52 true [.agg (msRow p)] (.bool (decide (okM p))) [] := by
  refine con_of_wp mixed fun52 (by simp) [] plain_nil ?_
  unfold ac52 ro52
  simp only [zipT]
  repeat' (first | refine wG_call (con50 _ _ _) rfl rfl ?_ | (first
    | refine wC_seq ?_
    | refine wC_reg ?_
    | refine wC_dreg ?_
    | refine wC_skip ?_
    | refine wC_blk ?_
    | refine wC_exit ?_
    | refine wC_ret ?_
    | refine q_seq_n ?_
    | refine q_seq_x ?_
    | refine q_seq_r ?_
    | refine q_blk_n ?_
    | refine q_blk_r ?_
    | refine q_blk_x ?_
    | refine q_blk_o rfl ?_
    | refine wG_nil ?_
    | refine wG_gy rfl ?_
    | refine wG_gn rfl rfl ?_
    | refine wC_cond_t rfl ?_
    | refine wC_cond_f rfl ?_
    | refine wG_pure (o_mv_int rfl) ?_
    | refine wG_pure (o_mv_bool rfl) ?_
    | refine wG_pure (o_mv_sl rfl) ?_
    | refine wG_pure (o_mv_pt rfl) ?_
    | refine wG_pure (o_mv_vw rfl) ?_
    | refine wG_pure (o_mv_vp rfl) ?_
    | refine wG_pure (o_mv_agg rfl) ?_
    | refine wG_pure (o_mv_nilS rfl) ?_
    | refine wG_pure (o_mv_str rfl) ?_
    | refine wG_pure (o_mv_fn rfl) ?_
    | refine wG_pure (o_mv_tup rfl) ?_
    | refine wG_pure (o_mv_nilP rfl) ?_
    | refine wG_pure (o_mv_nilF rfl) ?_
    | refine wG_pure (o_ldf_pt rfl rfl rfl rfl) ?_
    | refine wG_pure (o_ldt_pt rfl rfl rfl rfl rfl) ?_
    | refine wG_pure (o_ldf_vp rfl) ?_
    | refine wG_pure (o_ldt_vp rfl rfl rfl) ?_
    | refine wG_pure (o_fa_pt rfl) ?_
    | refine wG_pure (o_fa_vp rfl rfl) ?_
    | refine wG_pure (o_nck_pt rfl) ?_
    | refine wG_pure (o_nck_vp rfl) ?_
    | refine wG_pure (o_nck_fn rfl) ?_
    | refine wG_pure (e_ia_vwi rfl rfl (by omega) rfl) ?_
    | refine wG_pure (e_ia_vwn rfl rfl (by omega) (by omega) rfl) ?_
    | refine wG_pure (e_add rfl rfl (by omega) (by omega)) ?_
    | refine wG_pure (e_sub rfl rfl (by omega) (by omega)) ?_
    | refine wG_pure (e_mul rfl rfl (by omega) (by omega)) ?_
    | refine wG_pure (o_lss rfl rfl) ?_
    | refine wG_pure (o_leq rfl rfl) ?_
    | refine wG_pure (o_gtr rfl rfl) ?_
    | refine wG_pure (o_geq rfl rfl) ?_
    | refine wG_pure (o_eql rfl rfl) ?_
    | refine wG_pure (o_neq rfl rfl) ?_
    | refine wG_pure (o_not_d rfl) ?_
    | refine wG_pure (o_not rfl) ?_
    | refine wG_pure (o_beq rfl rfl) ?_
    | refine wG_pure (o_bne rfl rfl) ?_
    | refine wG_pure (o_pick_t_int rfl rfl) ?_
    | refine wG_pure (o_pick_f_int rfl rfl) ?_
    | refine wG_pure (o_pick_t_bool rfl rfl) ?_
    | refine wG_pure (o_pick_f_bool rfl rfl) ?_
    | refine wG_pure (o_build rfl) ?_
    | refine wG_pure (o_len_sl rfl) ?_
    | refine wG_pure (o_len_vwm rfl) ?_
    | refine wG_pure (o_len_vw rfl) ?_
    | refine wG_pure (o_len_nil rfl) ?_
    | refine wG_pure (o_slen rfl) ?_
    | refine wG_pure (o_fldf rfl rfl) ?_
    | refine wG_pure (o_fldt rfl rfl rfl) ?_
    | refine wG_pure (o_ext rfl rfl) ?_
    | refine wG_pure (o_mx rfl rfl) ?_
    | refine wG_pure (o_mn rfl rfl) ?_
    | refine wG_pure (o_neg rfl (by omega) (by omega)) ?_
    | refine wG_new (o_alloc) ?_
    | refine wG_new (o_box_agg rfl rfl) ?_
    | refine wG_new (o_box_int rfl) ?_
    | refine wG_new (o_box_bool rfl) ?_
    | refine wG_new (o_box_sl rfl) ?_
    | refine wG_new (o_box_pt rfl) ?_
    | refine wG_new (o_box_vw rfl) ?_
    | refine wG_new (o_box_vp rfl) ?_
    | refine wG_new (o_box_nilS rfl) ?_
    | refine wG_new (o_box_str rfl) ?_
    | refine wG_new (o_box_fn rfl) ?_
    | refine wG_new (o_box_nilP rfl) ?_
    | refine wG_new (o_box_nilF rfl) ?_
    | refine wG_new (o_mks rfl rfl (by omega) (by decide)) ?_
    | refine wG_upd (o_st_agg rfl rfl rfl rfl rfl rfl rfl) ?_
    | refine wG_upd (o_st_int rfl rfl rfl rfl rfl rfl) ?_
    | refine wG_upd (o_st_bool rfl rfl rfl rfl rfl rfl) ?_
    | refine wG_upd (o_st_sl rfl rfl rfl rfl rfl rfl) ?_
    | refine wG_upd (o_st_pt rfl rfl rfl rfl rfl rfl) ?_
    | refine wG_upd (o_st_vw rfl rfl rfl rfl rfl rfl) ?_
    | refine wG_upd (o_st_vp rfl rfl rfl rfl rfl rfl) ?_
    | refine wG_upd (o_st_nilS rfl rfl rfl rfl rfl rfl) ?_
    | refine wG_upd (o_st_str rfl rfl rfl rfl rfl rfl) ?_
    | refine wG_upd (o_st_fn rfl rfl rfl rfl rfl rfl) ?_
    | refine wG_upd (o_st_nilP rfl rfl rfl rfl rfl rfl) ?_
    | refine wG_upd (o_st_nilF rfl rfl rfl rfl rfl rfl) ?_) | (refine wG_gd rfl (fun hgt => ?_) (fun hgf => ?_) <;> (first | simp only [eq_true hgt, decide_true] | simp only [eq_false hgf, decide_false])) | refine wC_cond_d rfl (fun hg => ?_) (fun hg => ?_))
  all_goals (refine ret_boolE (.inr rfl) ?_; refine ⟨_, retV_mv rfl, ?_⟩; simp [okM, *])
theorem con55 (p : Ms) : Con Try.prog 55 true [.agg (msRow p)] (.bool (decide (okM p))) [] := by
  refine con_of_wp mixed fun55 (by simp) [] plain_nil ?_
  unfold ac55 ro55
  simp only [zipT]
  repeat' (first | refine wG_call (con38 _ _ _) rfl rfl ?_ | (first
    | refine wC_seq ?_
    | refine wC_reg ?_
    | refine wC_dreg ?_
    | refine wC_skip ?_
    | refine wC_blk ?_
    | refine wC_exit ?_
    | refine wC_ret ?_
    | refine q_seq_n ?_
    | refine q_seq_x ?_
    | refine q_seq_r ?_
    | refine q_blk_n ?_
    | refine q_blk_r ?_
    | refine q_blk_x ?_
    | refine q_blk_o rfl ?_
    | refine wG_nil ?_
    | refine wG_gy rfl ?_
    | refine wG_gn rfl rfl ?_
    | refine wC_cond_t rfl ?_
    | refine wC_cond_f rfl ?_
    | refine wG_pure (o_mv_int rfl) ?_
    | refine wG_pure (o_mv_bool rfl) ?_
    | refine wG_pure (o_mv_sl rfl) ?_
    | refine wG_pure (o_mv_pt rfl) ?_
    | refine wG_pure (o_mv_vw rfl) ?_
    | refine wG_pure (o_mv_vp rfl) ?_
    | refine wG_pure (o_mv_agg rfl) ?_
    | refine wG_pure (o_mv_nilS rfl) ?_
    | refine wG_pure (o_mv_str rfl) ?_
    | refine wG_pure (o_mv_fn rfl) ?_
    | refine wG_pure (o_mv_tup rfl) ?_
    | refine wG_pure (o_mv_nilP rfl) ?_
    | refine wG_pure (o_mv_nilF rfl) ?_
    | refine wG_pure (o_ldf_pt rfl rfl rfl rfl) ?_
    | refine wG_pure (o_ldt_pt rfl rfl rfl rfl rfl) ?_
    | refine wG_pure (o_ldf_vp rfl) ?_
    | refine wG_pure (o_ldt_vp rfl rfl rfl) ?_
    | refine wG_pure (o_fa_pt rfl) ?_
    | refine wG_pure (o_fa_vp rfl rfl) ?_
    | refine wG_pure (o_nck_pt rfl) ?_
    | refine wG_pure (o_nck_vp rfl) ?_
    | refine wG_pure (o_nck_fn rfl) ?_
    | refine wG_pure (e_ia_vwi rfl rfl (by omega) rfl) ?_
    | refine wG_pure (e_ia_vwn rfl rfl (by omega) (by omega) rfl) ?_
    | refine wG_pure (e_add rfl rfl (by omega) (by omega)) ?_
    | refine wG_pure (e_sub rfl rfl (by omega) (by omega)) ?_
    | refine wG_pure (e_mul rfl rfl (by omega) (by omega)) ?_
    | refine wG_pure (o_lss rfl rfl) ?_
    | refine wG_pure (o_leq rfl rfl) ?_
    | refine wG_pure (o_gtr rfl rfl) ?_
    | refine wG_pure (o_geq rfl rfl) ?_
    | refine wG_pure (o_eql rfl rfl) ?_
    | refine wG_pure (o_neq rfl rfl) ?_
    | refine wG_pure (o_not_d rfl) ?_
    | refine wG_pure (o_not rfl) ?_
    | refine wG_pure (o_beq rfl rfl) ?_
    | refine wG_pure (o_bne rfl rfl) ?_
    | refine wG_pure (o_pick_t_int rfl rfl) ?_
    | refine wG_pure (o_pick_f_int rfl rfl) ?_
    | refine wG_pure (o_pick_t_bool rfl rfl) ?_
    | refine wG_pure (o_pick_f_bool rfl rfl) ?_
    | refine wG_pure (o_build rfl) ?_
    | refine wG_pure (o_len_sl rfl) ?_
    | refine wG_pure (o_len_vwm rfl) ?_
    | refine wG_pure (o_len_vw rfl) ?_
    | refine wG_pure (o_len_nil rfl) ?_
    | refine wG_pure (o_slen rfl) ?_
    | refine wG_pure (o_fldf rfl rfl) ?_
    | refine wG_pure (o_fldt rfl rfl rfl) ?_
    | refine wG_pure (o_ext rfl rfl) ?_
    | refine wG_pure (o_mx rfl rfl) ?_
    | refine wG_pure (o_mn rfl rfl) ?_
    | refine wG_pure (o_neg rfl (by omega) (by omega)) ?_
    | refine wG_new (o_alloc) ?_
    | refine wG_new (o_box_agg rfl rfl) ?_
    | refine wG_new (o_box_int rfl) ?_
    | refine wG_new (o_box_bool rfl) ?_
    | refine wG_new (o_box_sl rfl) ?_
    | refine wG_new (o_box_pt rfl) ?_
    | refine wG_new (o_box_vw rfl) ?_
    | refine wG_new (o_box_vp rfl) ?_
    | refine wG_new (o_box_nilS rfl) ?_
    | refine wG_new (o_box_str rfl) ?_
    | refine wG_new (o_box_fn rfl) ?_
    | refine wG_new (o_box_nilP rfl) ?_
    | refine wG_new (o_box_nilF rfl) ?_
    | refine wG_new (o_mks rfl rfl (by omega) (by decide)) ?_
    | refine wG_upd (o_st_agg rfl rfl rfl rfl rfl rfl rfl) ?_
    | refine wG_upd (o_st_int rfl rfl rfl rfl rfl rfl) ?_
    | refine wG_upd (o_st_bool rfl rfl rfl rfl rfl rfl) ?_
    | refine wG_upd (o_st_sl rfl rfl rfl rfl rfl rfl) ?_
    | refine wG_upd (o_st_pt rfl rfl rfl rfl rfl rfl) ?_
    | refine wG_upd (o_st_vw rfl rfl rfl rfl rfl rfl) ?_
    | refine wG_upd (o_st_vp rfl rfl rfl rfl rfl rfl) ?_
    | refine wG_upd (o_st_nilS rfl rfl rfl rfl rfl rfl) ?_
    | refine wG_upd (o_st_str rfl rfl rfl rfl rfl rfl) ?_
    | refine wG_upd (o_st_fn rfl rfl rfl rfl rfl rfl) ?_
    | refine wG_upd (o_st_nilP rfl rfl rfl rfl rfl rfl) ?_
    | refine wG_upd (o_st_nilF rfl rfl rfl rfl rfl rfl) ?_) | (refine wG_gd rfl (fun hgt => ?_) (fun hgf => ?_) <;> (first | simp only [eq_true hgt, decide_true] | simp only [eq_false hgf, decide_false])) | refine wC_cond_d rfl (fun hg => ?_) (fun hg => ?_))
  all_goals (refine ret_boolE (.inr rfl) ?_; refine ⟨_, retV_mv rfl, ?_⟩; simp [okM, *])

theorem con54 (p : Ms) : Con Try.prog 54 true [.agg (msRow p)] (.bool (decide (¬ okM p))) [] := by
  refine con_of_wp mixed fun54 (by simp) [] plain_nil ?_
  unfold ac54 ro54
  simp only [zipT]
  repeat' (first | refine wG_call (con55 _) rfl rfl ?_ | (first
    | refine wC_seq ?_
    | refine wC_reg ?_
    | refine wC_dreg ?_
    | refine wC_skip ?_
    | refine wC_blk ?_
    | refine wC_exit ?_
    | refine wC_ret ?_
    | refine q_seq_n ?_
    | refine q_seq_x ?_
    | refine q_seq_r ?_
    | refine q_blk_n ?_
    | refine q_blk_r ?_
    | refine q_blk_x ?_
    | refine q_blk_o rfl ?_
    | refine wG_nil ?_
    | refine wG_gy rfl ?_
    | refine wG_gn rfl rfl ?_
    | refine wC_cond_t rfl ?_
    | refine wC_cond_f rfl ?_
    | refine wG_pure (o_mv_int rfl) ?_
    | refine wG_pure (o_mv_bool rfl) ?_
    | refine wG_pure (o_mv_sl rfl) ?_
    | refine wG_pure (o_mv_pt rfl) ?_
    | refine wG_pure (o_mv_vw rfl) ?_
    | refine wG_pure (o_mv_vp rfl) ?_
    | refine wG_pure (o_mv_agg rfl) ?_
    | refine wG_pure (o_mv_nilS rfl) ?_
    | refine wG_pure (o_mv_str rfl) ?_
    | refine wG_pure (o_mv_fn rfl) ?_
    | refine wG_pure (o_mv_tup rfl) ?_
    | refine wG_pure (o_mv_nilP rfl) ?_
    | refine wG_pure (o_mv_nilF rfl) ?_
    | refine wG_pure (o_ldf_pt rfl rfl rfl rfl) ?_
    | refine wG_pure (o_ldt_pt rfl rfl rfl rfl rfl) ?_
    | refine wG_pure (o_ldf_vp rfl) ?_
    | refine wG_pure (o_ldt_vp rfl rfl rfl) ?_
    | refine wG_pure (o_fa_pt rfl) ?_
    | refine wG_pure (o_fa_vp rfl rfl) ?_
    | refine wG_pure (o_nck_pt rfl) ?_
    | refine wG_pure (o_nck_vp rfl) ?_
    | refine wG_pure (o_nck_fn rfl) ?_
    | refine wG_pure (e_ia_vwi rfl rfl (by omega) rfl) ?_
    | refine wG_pure (e_ia_vwn rfl rfl (by omega) (by omega) rfl) ?_
    | refine wG_pure (e_add rfl rfl (by omega) (by omega)) ?_
    | refine wG_pure (e_sub rfl rfl (by omega) (by omega)) ?_
    | refine wG_pure (e_mul rfl rfl (by omega) (by omega)) ?_
    | refine wG_pure (o_lss rfl rfl) ?_
    | refine wG_pure (o_leq rfl rfl) ?_
    | refine wG_pure (o_gtr rfl rfl) ?_
    | refine wG_pure (o_geq rfl rfl) ?_
    | refine wG_pure (o_eql rfl rfl) ?_
    | refine wG_pure (o_neq rfl rfl) ?_
    | refine wG_pure (o_not_d rfl) ?_
    | refine wG_pure (o_not rfl) ?_
    | refine wG_pure (o_beq rfl rfl) ?_
    | refine wG_pure (o_bne rfl rfl) ?_
    | refine wG_pure (o_pick_t_int rfl rfl) ?_
    | refine wG_pure (o_pick_f_int rfl rfl) ?_
    | refine wG_pure (o_pick_t_bool rfl rfl) ?_
    | refine wG_pure (o_pick_f_bool rfl rfl) ?_
    | refine wG_pure (o_build rfl) ?_
    | refine wG_pure (o_len_sl rfl) ?_
    | refine wG_pure (o_len_vwm rfl) ?_
    | refine wG_pure (o_len_vw rfl) ?_
    | refine wG_pure (o_len_nil rfl) ?_
    | refine wG_pure (o_slen rfl) ?_
    | refine wG_pure (o_fldf rfl rfl) ?_
    | refine wG_pure (o_fldt rfl rfl rfl) ?_
    | refine wG_pure (o_ext rfl rfl) ?_
    | refine wG_pure (o_mx rfl rfl) ?_
    | refine wG_pure (o_mn rfl rfl) ?_
    | refine wG_pure (o_neg rfl (by omega) (by omega)) ?_
    | refine wG_new (o_alloc) ?_
    | refine wG_new (o_box_agg rfl rfl) ?_
    | refine wG_new (o_box_int rfl) ?_
    | refine wG_new (o_box_bool rfl) ?_
    | refine wG_new (o_box_sl rfl) ?_
    | refine wG_new (o_box_pt rfl) ?_
    | refine wG_new (o_box_vw rfl) ?_
    | refine wG_new (o_box_vp rfl) ?_
    | refine wG_new (o_box_nilS rfl) ?_
    | refine wG_new (o_box_str rfl) ?_
    | refine wG_new (o_box_fn rfl) ?_
    | refine wG_new (o_box_nilP rfl) ?_
    | refine wG_new (o_box_nilF rfl) ?_
    | refine wG_new (o_mks rfl rfl (by omega) (by decide)) ?_
    | refine wG_upd (o_st_agg rfl rfl rfl rfl rfl rfl rfl) ?_
    | refine wG_upd (o_st_int rfl rfl rfl rfl rfl rfl) ?_
    | refine wG_upd (o_st_bool rfl rfl rfl rfl rfl rfl) ?_
    | refine wG_upd (o_st_sl rfl rfl rfl rfl rfl rfl) ?_
    | refine wG_upd (o_st_pt rfl rfl rfl rfl rfl rfl) ?_
    | refine wG_upd (o_st_vw rfl rfl rfl rfl rfl rfl) ?_
    | refine wG_upd (o_st_vp rfl rfl rfl rfl rfl rfl) ?_
    | refine wG_upd (o_st_nilS rfl rfl rfl rfl rfl rfl) ?_
    | refine wG_upd (o_st_str rfl rfl rfl rfl rfl rfl) ?_
    | refine wG_upd (o_st_fn rfl rfl rfl rfl rfl rfl) ?_
    | refine wG_upd (o_st_nilP rfl rfl rfl rfl rfl rfl) ?_
    | refine wG_upd (o_st_nilF rfl rfl rfl rfl rfl rfl) ?_) | (refine wG_gd rfl (fun hgt => ?_) (fun hgf => ?_) <;> (first | simp only [eq_true hgt, decide_true] | simp only [eq_false hgf, decide_false])) | refine wC_cond_d rfl (fun hg => ?_) (fun hg => ?_))
  all_goals (refine ret_boolE (.inr rfl) ?_; refine ⟨_, retV_mv rfl, ?_⟩; simp [*])
/-- The first that is none. -/
def bad (xs : List Ms) : Int := if (∀ j, j < xs.length → okM (xs.getD j default)) then -1 else (xs.findIdx fun p => decide (¬ okM p) : Nat)
theorem con58 (nn : Bool) (xs : List Ms) (hlen : xs.length ≤ 1048576) : Con Try.prog 58 true [.vw nn (xs.map msRow), .fn 54 []] (.int .i64 (bad xs)) [] := by
  refine con_of_wp mixed fun58 (by simp) [] plain_nil ?_
  unfold ac58 ro58
  simp only [zipT]
  repeat (first
    | refine wC_seq ?_
    | refine wC_reg ?_
    | refine wC_dreg ?_
    | refine wC_skip ?_
    | refine wC_blk ?_
    | refine wC_exit ?_
    | refine wC_ret ?_
    | refine q_seq_n ?_
    | refine q_seq_x ?_
    | refine q_seq_r ?_
    | refine q_blk_n ?_
    | refine q_blk_r ?_
    | refine q_blk_x ?_
    | refine q_blk_o rfl ?_
    | refine wG_nil ?_
    | refine wG_gy rfl ?_
    | refine wG_gn rfl rfl ?_
    | refine wC_cond_t rfl ?_
    | refine wC_cond_f rfl ?_
    | refine wG_pure (o_mv_int rfl) ?_
    | refine wG_pure (o_mv_bool rfl) ?_
    | refine wG_pure (o_mv_sl rfl) ?_
    | refine wG_pure (o_mv_pt rfl) ?_
    | refine wG_pure (o_mv_vw rfl) ?_
    | refine wG_pure (o_mv_vp rfl) ?_
    | refine wG_pure (o_mv_agg rfl) ?_
    | refine wG_pure (o_mv_nilS rfl) ?_
    | refine wG_pure (o_mv_str rfl) ?_
    | refine wG_pure (o_mv_fn rfl) ?_
    | refine wG_pure (o_mv_tup rfl) ?_
    | refine wG_pure (o_mv_nilP rfl) ?_
    | refine wG_pure (o_mv_nilF rfl) ?_
    | refine wG_pure (o_ldf_pt rfl rfl rfl rfl) ?_
    | refine wG_pure (o_ldt_pt rfl rfl rfl rfl rfl) ?_
    | refine wG_pure (o_ldf_vp rfl) ?_
    | refine wG_pure (o_ldt_vp rfl rfl rfl) ?_
    | refine wG_pure (o_fa_pt rfl) ?_
    | refine wG_pure (o_fa_vp rfl rfl) ?_
    | refine wG_pure (o_nck_pt rfl) ?_
    | refine wG_pure (o_nck_vp rfl) ?_
    | refine wG_pure (o_nck_fn rfl) ?_
    | refine wG_pure (e_ia_vwi rfl rfl (by omega) rfl) ?_
    | refine wG_pure (e_ia_vwn rfl rfl (by omega) (by omega) rfl) ?_
    | refine wG_pure (e_add rfl rfl (by omega) (by omega)) ?_
    | refine wG_pure (e_sub rfl rfl (by omega) (by omega)) ?_
    | refine wG_pure (e_mul rfl rfl (by omega) (by omega)) ?_
    | refine wG_pure (o_lss rfl rfl) ?_
    | refine wG_pure (o_leq rfl rfl) ?_
    | refine wG_pure (o_gtr rfl rfl) ?_
    | refine wG_pure (o_geq rfl rfl) ?_
    | refine wG_pure (o_eql rfl rfl) ?_
    | refine wG_pure (o_neq rfl rfl) ?_
    | refine wG_pure (o_not_d rfl) ?_
    | refine wG_pure (o_not rfl) ?_
    | refine wG_pure (o_beq rfl rfl) ?_
    | refine wG_pure (o_bne rfl rfl) ?_
    | refine wG_pure (o_pick_t_int rfl rfl) ?_
    | refine wG_pure (o_pick_f_int rfl rfl) ?_
    | refine wG_pure (o_pick_t_bool rfl rfl) ?_
    | refine wG_pure (o_pick_f_bool rfl rfl) ?_
    | refine wG_pure (o_build rfl) ?_
    | refine wG_pure (o_len_sl rfl) ?_
    | refine wG_pure (o_len_vwm rfl) ?_
    | refine wG_pure (o_len_vw rfl) ?_
    | refine wG_pure (o_len_nil rfl) ?_
    | refine wG_pure (o_slen rfl) ?_
    | refine wG_pure (o_fldf rfl rfl) ?_
    | refine wG_pure (o_fldt rfl rfl rfl) ?_
    | refine wG_pure (o_ext rfl rfl) ?_
    | refine wG_pure (o_mx rfl rfl) ?_
    | refine wG_pure (o_mn rfl rfl) ?_
    | refine wG_pure (o_neg rfl (by omega) (by omega)) ?_
    | refine wG_new (o_alloc) ?_
    | refine wG_new (o_box_agg rfl rfl) ?_
    | refine wG_new (o_box_int rfl) ?_
    | refine wG_new (o_box_bool rfl) ?_
    | refine wG_new (o_box_sl rfl) ?_
    | refine wG_new (o_box_pt rfl) ?_
    | refine wG_new (o_box_vw rfl) ?_
    | refine wG_new (o_box_vp rfl) ?_
    | refine wG_new (o_box_nilS rfl) ?_
    | refine wG_new (o_box_str rfl) ?_
    | refine wG_new (o_box_fn rfl) ?_
    | refine wG_new (o_box_nilP rfl) ?_
    | refine wG_new (o_box_nilF rfl) ?_
    | refine wG_new (o_mks rfl rfl (by omega) (by decide)) ?_
    | refine wG_upd (o_st_agg rfl rfl rfl rfl rfl rfl rfl) ?_
    | refine wG_upd (o_st_int rfl rfl rfl rfl rfl rfl) ?_
    | refine wG_upd (o_st_bool rfl rfl rfl rfl rfl rfl) ?_
    | refine wG_upd (o_st_sl rfl rfl rfl rfl rfl rfl) ?_
    | refine wG_upd (o_st_pt rfl rfl rfl rfl rfl rfl) ?_
    | refine wG_upd (o_st_vw rfl rfl rfl rfl rfl rfl) ?_
    | refine wG_upd (o_st_vp rfl rfl rfl rfl rfl rfl) ?_
    | refine wG_upd (o_st_nilS rfl rfl rfl rfl rfl rfl) ?_
    | refine wG_upd (o_st_str rfl rfl rfl rfl rfl rfl) ?_
    | refine wG_upd (o_st_fn rfl rfl rfl rfl rfl rfl) ?_
    | refine wG_upd (o_st_nilP rfl rfl rfl rfl rfl rfl) ?_
    | refine wG_upd (o_st_nilF rfl rfl rfl rfl rfl rfl) ?_)
  refine wC_loop Nat (fun i => ⟨[(0, .vw nn (xs.map msRow)), (1, .fn 54 []), (7, .int .i64 (xs.length : Int)), (8, .int .i64 (i : Int))], [], 0⟩) (fun i => i ≤ xs.length ∧ ∀ j, j < i → okM (xs.getD j default)) (fun i => xs.length - i) 0 ⟨Nat.zero_le _, fun j hj => absurd hj (Nat.not_lt_zero _)⟩ ?_ (fun _ _ => Nat.le_refl _) ?_
  · simp [LeP, leT, leH, lk, AV.ltr, ltrL]
  rintro i ⟨hi, hok⟩
  repeat (first
    | refine wC_seq ?_
    | refine wC_reg ?_
    | refine wC_dreg ?_
    | refine wC_skip ?_
    | refine wC_blk ?_
    | refine wC_exit ?_
    | refine wC_ret ?_
    | refine q_seq_n ?_
    | refine q_seq_x ?_
    | refine q_seq_r ?_
    | refine q_blk_n ?_
    | refine q_blk_r ?_
    | refine q_blk_x ?_
    | refine q_blk_o rfl ?_
    | refine wG_nil ?_
    | refine wG_gy rfl ?_
    | refine wG_gn rfl rfl ?_
    | refine wC_cond_t rfl ?_
    | refine wC_cond_f rfl ?_
    | refine wG_pure (o_mv_int rfl) ?_
    | refine wG_pure (o_mv_bool rfl) ?_
    | refine wG_pure (o_mv_sl rfl) ?_
    | refine wG_pure (o_mv_pt rfl) ?_
    | refine wG_pure (o_mv_vw rfl) ?_
    | refine wG_pure (o_mv_vp rfl) ?_
    | refine wG_pure (o_mv_agg rfl) ?_
    | refine wG_pure (o_mv_nilS rfl) ?_
    | refine wG_pure (o_mv_str rfl) ?_
    | refine wG_pure (o_mv_fn rfl) ?_
    | refine wG_pure (o_mv_tup rfl) ?_
    | refine wG_pure (o_mv_nilP rfl) ?_
    | refine wG_pure (o_mv_nilF rfl) ?_
    | refine wG_pure (o_ldf_pt rfl rfl rfl rfl) ?_
    | refine wG_pure (o_ldt_pt rfl rfl rfl rfl rfl) ?_
    | refine wG_pure (o_ldf_vp rfl) ?_
    | refine wG_pure (o_ldt_vp rfl rfl rfl) ?_
    | refine wG_pure (o_fa_pt rfl) ?_
    | refine wG_pure (o_fa_vp rfl rfl) ?_
    | refine wG_pure (o_nck_pt rfl) ?_
    | refine wG_pure (o_nck_vp rfl) ?_
    | refine wG_pure (o_nck_fn rfl) ?_
    | refine wG_pure (e_ia_vwi rfl rfl (by omega) rfl) ?_
    | refine wG_pure (e_ia_vwn rfl rfl (by omega) (by omega) rfl) ?_
    | refine wG_pure (e_add rfl rfl (by omega) (by omega)) ?_
    | refine wG_pure (e_sub rfl rfl (by omega) (by omega)) ?_
    | refine wG_pure (e_mul rfl rfl (by omega) (by omega)) ?_
    | refine wG_pure (o_lss rfl rfl) ?_
    | refine wG_pure (o_leq rfl rfl) ?_
    | refine wG_pure (o_gtr rfl rfl) ?_
    | refine wG_pure (o_geq rfl rfl) ?_
    | refine wG_pure (o_eql rfl rfl) ?_
    | refine wG_pure (o_neq rfl rfl) ?_
    | refine wG_pure (o_not_d rfl) ?_
    | refine wG_pure (o_not rfl) ?_
    | refine wG_pure (o_beq rfl rfl) ?_
    | refine wG_pure (o_bne rfl rfl) ?_
    | refine wG_pure (o_pick_t_int rfl rfl) ?_
    | refine wG_pure (o_pick_f_int rfl rfl) ?_
    | refine wG_pure (o_pick_t_bool rfl rfl) ?_
    | refine wG_pure (o_pick_f_bool rfl rfl) ?_
    | refine wG_pure (o_build rfl) ?_
    | refine wG_pure (o_len_sl rfl) ?_
    | refine wG_pure (o_len_vwm rfl) ?_
    | refine wG_pure (o_len_vw rfl) ?_
    | refine wG_pure (o_len_nil rfl) ?_
    | refine wG_pure (o_slen rfl) ?_
    | refine wG_pure (o_fldf rfl rfl) ?_
    | refine wG_pure (o_fldt rfl rfl rfl) ?_
    | refine wG_pure (o_ext rfl rfl) ?_
    | refine wG_pure (o_mx rfl rfl) ?_
    | refine wG_pure (o_mn rfl rfl) ?_
    | refine wG_pure (o_neg rfl (by omega) (by omega)) ?_
    | refine wG_new (o_alloc) ?_
    | refine wG_new (o_box_agg rfl rfl) ?_
    | refine wG_new (o_box_int rfl) ?_
    | refine wG_new (o_box_bool rfl) ?_
    | refine wG_new (o_box_sl rfl) ?_
    | refine wG_new (o_box_pt rfl) ?_
    | refine wG_new (o_box_vw rfl) ?_
    | refine wG_new (o_box_vp rfl) ?_
    | refine wG_new (o_box_nilS rfl) ?_
    | refine wG_new (o_box_str rfl) ?_
    | refine wG_new (o_box_fn rfl) ?_
    | refine wG_new (o_box_nilP rfl) ?_
    | refine wG_new (o_box_nilF rfl) ?_
    | refine wG_new (o_mks rfl rfl (by omega) (by decide)) ?_
    | refine wG_upd (o_st_agg rfl rfl rfl rfl rfl rfl rfl) ?_
    | refine wG_upd (o_st_int rfl rfl rfl rfl rfl rfl) ?_
    | refine wG_upd (o_st_bool rfl rfl rfl rfl rfl rfl) ?_
    | refine wG_upd (o_st_sl rfl rfl rfl rfl rfl rfl) ?_
    | refine wG_upd (o_st_pt rfl rfl rfl rfl rfl rfl) ?_
    | refine wG_upd (o_st_vw rfl rfl rfl rfl rfl rfl) ?_
    | refine wG_upd (o_st_vp rfl rfl rfl rfl rfl rfl) ?_
    | refine wG_upd (o_st_nilS rfl rfl rfl rfl rfl rfl) ?_
    | refine wG_upd (o_st_str rfl rfl rfl rfl rfl rfl) ?_
    | refine wG_upd (o_st_fn rfl rfl rfl rfl rfl rfl) ?_
    | refine wG_upd (o_st_nilP rfl rfl rfl rfl rfl rfl) ?_
    | refine wG_upd (o_st_nilF rfl rfl rfl rfl rfl rfl) ?_)
  refine wC_cond_d rfl (fun h2 => ?_) (fun h2 => ?_)
  · have hi2 : i < xs.length := by omega
    repeat' (first | refine wG_callv rfl (con54 _) rfl rfl ?_ | (first
    | refine wC_seq ?_
    | refine wC_reg ?_
    | refine wC_dreg ?_
    | refine wC_skip ?_
    | refine wC_blk ?_
    | refine wC_exit ?_
    | refine wC_ret ?_
    | refine q_seq_n ?_
    | refine q_seq_x ?_
    | refine q_seq_r ?_
    | refine q_blk_n ?_
    | refine q_blk_r ?_
    | refine q_blk_x ?_
    | refine q_blk_o rfl ?_
    | refine wG_nil ?_
    | refine wG_gy rfl ?_
    | refine wG_gn rfl rfl ?_
    | refine wC_cond_t rfl ?_
    | refine wC_cond_f rfl ?_
    | refine wG_pure (o_mv_int rfl) ?_
    | refine wG_pure (o_mv_bool rfl) ?_
    | refine wG_pure (o_mv_sl rfl) ?_
    | refine wG_pure (o_mv_pt rfl) ?_
    | refine wG_pure (o_mv_vw rfl) ?_
    | refine wG_pure (o_mv_vp rfl) ?_
    | refine wG_pure (o_mv_agg rfl) ?_
    | refine wG_pure (o_mv_nilS rfl) ?_
    | refine wG_pure (o_mv_str rfl) ?_
    | refine wG_pure (o_mv_fn rfl) ?_
    | refine wG_pure (o_mv_tup rfl) ?_
    | refine wG_pure (o_mv_nilP rfl) ?_
    | refine wG_pure (o_mv_nilF rfl) ?_
    | refine wG_pure (o_ldf_pt rfl rfl rfl rfl) ?_
    | refine wG_pure (o_ldt_pt rfl rfl rfl rfl rfl) ?_
    | refine wG_pure (o_ldf_vp rfl) ?_
    | refine wG_pure (o_ldt_vp rfl rfl rfl) ?_
    | refine wG_pure (o_fa_pt rfl) ?_
    | refine wG_pure (o_fa_vp rfl rfl) ?_
    | refine wG_pure (o_nck_pt rfl) ?_
    | refine wG_pure (o_nck_vp rfl) ?_
    | refine wG_pure (o_nck_fn rfl) ?_
    | refine wG_pure (e_ia_vwi rfl rfl (by omega) rfl) ?_
    | refine wG_pure (e_ia_vwn rfl rfl (by omega) (by omega) rfl) ?_
    | refine wG_pure (e_add rfl rfl (by omega) (by omega)) ?_
    | refine wG_pure (e_sub rfl rfl (by omega) (by omega)) ?_
    | refine wG_pure (e_mul rfl rfl (by omega) (by omega)) ?_
    | refine wG_pure (o_lss rfl rfl) ?_
    | refine wG_pure (o_leq rfl rfl) ?_
    | refine wG_pure (o_gtr rfl rfl) ?_
    | refine wG_pure (o_geq rfl rfl) ?_
    | refine wG_pure (o_eql rfl rfl) ?_
    | refine wG_pure (o_neq rfl rfl) ?_
    | refine wG_pure (o_not_d rfl) ?_
    | refine wG_pure (o_not rfl) ?_
    | refine wG_pure (o_beq rfl rfl) ?_
    | refine wG_pure (o_bne rfl rfl) ?_
    | refine wG_pure (o_pick_t_int rfl rfl) ?_
    | refine wG_pure (o_pick_f_int rfl rfl) ?_
    | refine wG_pure (o_pick_t_bool rfl rfl) ?_
    | refine wG_pure (o_pick_f_bool rfl rfl) ?_
    | refine wG_pure (o_build rfl) ?_
    | refine wG_pure (o_len_sl rfl) ?_
    | refine wG_pure (o_len_vwm rfl) ?_
    | refine wG_pure (o_len_vw rfl) ?_
    | refine wG_pure (o_len_nil rfl) ?_
    | refine wG_pure (o_slen rfl) ?_
    | refine wG_pure (o_fldf rfl rfl) ?_
    | refine wG_pure (o_fldt rfl rfl rfl) ?_
    | refine wG_pure (o_ext rfl rfl) ?_
    | refine wG_pure (o_mx rfl rfl) ?_
    | refine wG_pure (o_mn rfl rfl) ?_
    | refine wG_pure (o_neg rfl (by omega) (by omega)) ?_
    | refine wG_new (o_alloc) ?_
    | refine wG_new (o_box_agg rfl rfl) ?_
    | refine wG_new (o_box_int rfl) ?_
    | refine wG_new (o_box_bool rfl) ?_
    | refine wG_new (o_box_sl rfl) ?_
    | refine wG_new (o_box_pt rfl) ?_
    | refine wG_new (o_box_vw rfl) ?_
    | refine wG_new (o_box_vp rfl) ?_
    | refine wG_new (o_box_nilS rfl) ?_
    | refine wG_new (o_box_str rfl) ?_
    | refine wG_new (o_box_fn rfl) ?_
    | refine wG_new (o_box_nilP rfl) ?_
    | refine wG_new (o_box_nilF rfl) ?_
    | refine wG_new (o_mks rfl rfl (by omega) (by decide)) ?_
    | refine wG_upd (o_st_agg rfl rfl rfl rfl rfl rfl rfl) ?_
    | refine wG_upd (o_st_int rfl rfl rfl rfl rfl rfl) ?_
    | refine wG_upd (o_st_bool rfl rfl rfl rfl rfl rfl) ?_
    | refine wG_upd (o_st_sl rfl rfl rfl rfl rfl rfl) ?_
    | refine wG_upd (o_st_pt rfl rfl rfl rfl rfl rfl) ?_
    | refine wG_upd (o_st_vw rfl rfl rfl rfl rfl rfl) ?_
    | refine wG_upd (o_st_vp rfl rfl rfl rfl rfl rfl) ?_
    | refine wG_upd (o_st_nilS rfl rfl rfl rfl rfl rfl) ?_
    | refine wG_upd (o_st_str rfl rfl rfl rfl rfl rfl) ?_
    | refine wG_upd (o_st_fn rfl rfl rfl rfl rfl rfl) ?_
    | refine wG_upd (o_st_nilP rfl rfl rfl rfl rfl rfl) ?_
    | refine wG_upd (o_st_nilF rfl rfl rfl rfl rfl rfl) ?_) | (refine wG_gd rfl (fun hgt => ?_) (fun hgf => ?_) <;> (first | simp only [eq_true hgt, decide_true] | simp only [eq_false hgf, decide_false])) | refine wC_cond_d rfl (fun hg => ?_) (fun hg => ?_))
    · refine ret_intE (.inr rfl) ?_
      refine ⟨_, retV_mv rfl, ?_⟩
      have hb : ¬ okM (xs.getD i default) := ‹_›
      unfold bad
      rw [if_neg (fun hh => hb (hh i hi2))]
      congr 1
      refine ((List.findIdx_eq hi2).2 ⟨?_, fun j hj => ?_⟩).symm
      · simpa [List.getD_eq_getElem?_getD, List.getElem?_eq_getElem hi2] using hb
      · have := hok j hj
        simpa [List.getD_eq_getElem?_getD, List.getElem?_eq_getElem (show j < xs.length by omega)] using this
    · refine ⟨i + 1, ⟨by omega, fun j hj => ?_⟩, by omega, by simp [LeP, leT, leH, lk, AV.ltr, ltrL]⟩
      rcases Nat.lt_or_ge j i with hji | hji
      · exact hok j hji
      · obtain rfl : j = i := by omega
        exact Decidable.not_not.1 ‹_›
  · have hi3 : i = xs.length := by omega
    subst hi3
    repeat (first
    | refine wC_seq ?_
    | refine wC_reg ?_
    | refine wC_dreg ?_
    | refine wC_skip ?_
    | refine wC_blk ?_
    | refine wC_exit ?_
    | refine wC_ret ?_
    | refine q_seq_n ?_
    | refine q_seq_x ?_
    | refine q_seq_r ?_
    | refine q_blk_n ?_
    | refine q_blk_r ?_
    | refine q_blk_x ?_
    | refine q_blk_o rfl ?_
    | refine wG_nil ?_
    | refine wG_gy rfl ?_
    | refine wG_gn rfl rfl ?_
    | refine wC_cond_t rfl ?_
    | refine wC_cond_f rfl ?_
    | refine wG_pure (o_mv_int rfl) ?_
    | refine wG_pure (o_mv_bool rfl) ?_
    | refine wG_pure (o_mv_sl rfl) ?_
    | refine wG_pure (o_mv_pt rfl) ?_
    | refine wG_pure (o_mv_vw rfl) ?_
    | refine wG_pure (o_mv_vp rfl) ?_
    | refine wG_pure (o_mv_agg rfl) ?_
    | refine wG_pure (o_mv_nilS rfl) ?_
    | refine wG_pure (o_mv_str rfl) ?_
    | refine wG_pure (o_mv_fn rfl) ?_
    | refine wG_pure (o_mv_tup rfl) ?_
    | refine wG_pure (o_mv_nilP rfl) ?_
    | refine wG_pure (o_mv_nilF rfl) ?_
    | refine wG_pure (o_ldf_pt rfl rfl rfl rfl) ?_
    | refine wG_pure (o_ldt_pt rfl rfl rfl rfl rfl) ?_
    | refine wG_pure (o_ldf_vp rfl) ?_
    | refine wG_pure (o_ldt_vp rfl rfl rfl) ?_
    | refine wG_pure (o_fa_pt rfl) ?_
    | refine wG_pure (o_fa_vp rfl rfl) ?_
    | refine wG_pure (o_nck_pt rfl) ?_
    | refine wG_pure (o_nck_vp rfl) ?_
    | refine wG_pure (o_nck_fn rfl) ?_
    | refine wG_pure (e_ia_vwi rfl rfl (by omega) rfl) ?_
    | refine wG_pure (e_ia_vwn rfl rfl (by omega) (by omega) rfl) ?_
    | refine wG_pure (e_add rfl rfl (by omega) (by omega)) ?_
    | refine wG_pure (e_sub rfl rfl (by omega) (by omega)) ?_
    | refine wG_pure (e_mul rfl rfl (by omega) (by omega)) ?_
    | refine wG_pure (o_lss rfl rfl) ?_
    | refine wG_pure (o_leq rfl rfl) ?_
    | refine wG_pure (o_gtr rfl rfl) ?_
    | refine wG_pure (o_geq rfl rfl) ?_
    | refine wG_pure (o_eql rfl rfl) ?_
    | refine wG_pure (o_neq rfl rfl) ?_
    | refine wG_pure (o_not_d rfl) ?_
    | refine wG_pure (o_not rfl) ?_
    | refine wG_pure (o_beq rfl rfl) ?_
    | refine wG_pure (o_bne rfl rfl) ?_
    | refine wG_pure (o_pick_t_int rfl rfl) ?_
    | refine wG_pure (o_pick_f_int rfl rfl) ?_
    | refine wG_pure (o_pick_t_bool rfl rfl) ?_
    | refine wG_pure (o_pick_f_bool rfl rfl) ?_
    | refine wG_pure (o_build rfl) ?_
    | refine wG_pure (o_len_sl rfl) ?_
    | refine wG_pure (o_len_vwm rfl) ?_
    | refine wG_pure (o_len_vw rfl) ?_
    | refine wG_pure (o_len_nil rfl) ?_
    | refine wG_pure (o_slen rfl) ?_
    | refine wG_pure (o_fldf rfl rfl) ?_
    | refine wG_pure (o_fldt rfl rfl rfl) ?_
    | refine wG_pure (o_ext rfl rfl) ?_
    | refine wG_pure (o_mx rfl rfl) ?_
    | refine wG_pure (o_mn rfl rfl) ?_
    | refine wG_pure (o_neg rfl (by omega) (by omega)) ?_
    | refine wG_new (o_alloc) ?_
    | refine wG_new (o_box_agg rfl rfl) ?_
    | refine wG_new (o_box_int rfl) ?_
    | refine wG_new (o_box_bool rfl) ?_
    | refine wG_new (o_box_sl rfl) ?_
    | refine wG_new (o_box_pt rfl) ?_
    | refine wG_new (o_box_vw rfl) ?_
    | refine wG_new (o_box_vp rfl) ?_
    | refine wG_new (o_box_nilS rfl) ?_
    | refine wG_new (o_box_str rfl) ?_
    | refine wG_new (o_box_fn rfl) ?_
    | refine wG_new (o_box_nilP rfl) ?_
    | refine wG_new (o_box_nilF rfl) ?_
    | refine wG_new (o_mks rfl rfl (by omega) (by decide)) ?_
    | refine wG_upd (o_st_agg rfl rfl rfl rfl rfl rfl rfl) ?_
    | refine wG_upd (o_st_int rfl rfl rfl rfl rfl rfl) ?_
    | refine wG_upd (o_st_bool rfl rfl rfl rfl rfl rfl) ?_
    | refine wG_upd (o_st_sl rfl rfl rfl rfl rfl rfl) ?_
    | refine wG_upd (o_st_pt rfl rfl rfl rfl rfl rfl) ?_
    | refine wG_upd (o_st_vw rfl rfl rfl rfl rfl rfl) ?_
    | refine wG_upd (o_st_vp rfl rfl rfl rfl rfl rfl) ?_
    | refine wG_upd (o_st_nilS rfl rfl rfl rfl rfl rfl) ?_
    | refine wG_upd (o_st_str rfl rfl rfl rfl rfl rfl) ?_
    | refine wG_upd (o_st_fn rfl rfl rfl rfl rfl rfl) ?_
    | refine wG_upd (o_st_nilP rfl rfl rfl rfl rfl rfl) ?_
    | refine wG_upd (o_st_nilF rfl rfl rfl rfl rfl rfl) ?_)
    refine ret_intE (.inr rfl) ?_
    refine ⟨_, retV_mv rfl, ?_⟩
    unfold bad
    rw [if_pos hok]
end Go.Proofs.Ytkbgadipkihifaa.Msr
