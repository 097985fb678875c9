/- The body of the law on distributions made of weights. -/
import Derived.Test.YtdljklicegcbpaaMakA
namespace Go.Proofs.Ytdljklicegcbpaa.Dst
open Go Go.Proofs.Ytdljklicegcbpaa.Ab Go.Proofs.Ytdljklicegcbpaa.Il
attribute [local irreducible] wpO wpC wpDr wpQ wpG wpE stepA seqQ blkQ Ret ev
set_option maxRecDepth 10000
set_option maxHeartbeats 8000000
set_option linter.unusedSimpArgs false
set_option linter.unusedVariables false
theorem con10 (nn : Bool) (first : Int) (ws : List Int) (hlen : ws.length ≤ 9223372036854775807) : Con Try.prog 10 true [.int .i64 first, .vw nn (ws.map iRow)] (.bool true) [] := by
  refine con_of_wp mixed fun10 (by simp) [] plain_nil ?_
  unfold ac10 ro10
  simp only [zipT]
  have c0 := con59 nn ws hlen 1048576 (by decide) (by decide)
  by_cases hs : (ws.length : Int) ≤ 1048576
  · rw [if_pos hs] at c0
    have hs' : ws.length ≤ 1048576 := by omega
    have c1 := con36 nn ws hs'
    have c4 := con38_same true true ws hs'
    by_cases hG : mdOK first ws
    · have c2 := con35_yes true first ws hs' hG
      have c3 := con37_yes true first ws hs' hG
      have hl := hG.2.2.len
      generalize mkO first ws = d at *
      have hd : d.ws.length ≤ 1048576 := by omega
      have c5 := con20_same true true d hd
      have c6 := con34 true d.f d.ws.length 1 hd (by decide) (by decide)
      obtain ⟨f, vs⟩ := d
      have sm := fun h nr r => @sh33 ⟨f, vs⟩ 1 hd (by decide) (by decide) h nr r
      unfold dYes dRow at *
      simp only at *
      repeat' (first
        | refine wC_dregE ?_ | refine wG_call c0 rfl rfl ?_ | refine wG_call1 c1 rfl rfl ?_ | refine wG_call1 c2 (ag_int rfl (ag_sl rfl rfl rfl iRow_plain ag_nil)) rfl ?_ | refine wG_call1 c3 (ag_int rfl (ag_sl rfl rfl rfl iRow_plain ag_nil)) rfl ?_ | refine wG_call c4 (ag_sl rfl rfl rfl iRow_plain (ag_sl rfl rfl rfl iRow_plain ag_nil)) rfl ?_ | refine wG_call c5 (ag_is rfl rfl rfl iRow_plain (ag_is rfl rfl rfl iRow_plain ag_nil)) rfl ?_ | refine wG_call c6 (ag_is rfl rfl (mks_len _ _).symm iRow_plain (ag_int rfl ag_nil)) rfl ?_
        | refine wE_call1 c1 rfl rfl rfl ?_ | refine wE_call c4 (ag_sl rfl rfl rfl iRow_plain (ag_sl rfl rfl rfl iRow_plain ag_nil)) rfl rfl ?_ | refine wE_call c5 (ag_is rfl rfl rfl iRow_plain (ag_is rfl rfl rfl iRow_plain ag_nil)) rfl rfl ?_
        | (refine wG_callS (f := 39) (sh39 ws 1 (by omega) (by decide) (by decide) rfl ?_) rfl ?_ <;> (repeat' (first | exact ltrI _ _ | exact ltrC _ _ | exact ltrI [] _ | exact wfH_nil | refine wfH_cons (by decide) ?_ ?_ | refine wfH_none ?_ | exact ltr_dec rfl)))
        | (refine wG_callS (f := 33) (sm _ _ _ rfl ?_) rfl ?_ <;> (repeat' (first | exact ltrI _ _ | exact ltrC _ _ | exact ltrI [] _ | exact wfH_nil | refine wfH_cons (by decide) ?_ ?_ | refine wfH_none ?_ | exact ltr_dec rfl)))
        | (first
    | refine wC_seq ?_
    | refine wC_reg ?_
    | refine wC_dregq rfl ?_
    | refine wC_dregE ?_
    | refine wC_skip ?_
    | refine wC_blk ?_
    | refine wC_exit ?_
    | refine wC_ret ?_
    | refine q_seq_n ?_
    | refine q_seq_x ?_
    | refine q_seq_r ?_
    | refine q_blk_n ?_
    | refine q_blk_r ?_
    | refine q_blk_x ?_
    | refine q_blk_o rfl ?_
    | refine wG_nil ?_
    | refine wG_gy rfl ?_
    | refine wG_gn rfl rfl ?_
    | refine wG_gu rfl ?_
    | refine wC_cond_t rfl ?_
    | refine wC_cond_f rfl ?_
    | refine wG_pure (o_mv rfl) ?_
    | refine wG_pure (o_pick_t rfl rfl) ?_
    | refine wG_pure (o_pick_f rfl rfl) ?_
    | refine wG_pure (o_ldf_pt rfl rfl rfl rfl) ?_
    | refine wG_pure (o_ldt_pt rfl rfl rfl rfl rfl) ?_
    | refine wG_pure (o_ldf_vp rfl) ?_
    | refine wG_pure (o_ldt_vp rfl rfl rfl) ?_
    | refine wG_pure (o_fa_pt rfl) ?_
    | refine wG_pure (o_fa_vp rfl rfl) ?_
    | refine wG_pure (o_nck_pt rfl) ?_
    | refine wG_pure (o_nck_vp rfl) ?_
    | refine wG_pure (o_nck_fn rfl) ?_
    | refine wG_pure (e_ia_vw0 rfl rfl (by omega) rfl) ?_
    | refine wG_pure (e_ia_vwp rfl rfl (by omega) rfl) ?_
    | refine wG_pure (e_ia_vwm rfl rfl (by omega) (by omega) rfl) ?_
    | refine wG_pure (e_ia_vwi rfl rfl (by omega) rfl) ?_
    | refine wG_pure (e_ia_vwn rfl rfl (by omega) (by omega) rfl) ?_
    | refine wG_pure (e_add rfl rfl (by omega) (by omega)) ?_
    | refine wG_pure (e_sub rfl rfl (by omega) (by omega)) ?_
    | refine wG_pure (e_mul rfl rfl (by omega) (by omega)) ?_
    | refine wG_pure (o_lss rfl rfl) ?_
    | refine wG_pure (o_leq rfl rfl) ?_
    | refine wG_pure (o_gtr rfl rfl) ?_
    | refine wG_pure (o_geq rfl rfl) ?_
    | refine wG_pure (o_eql rfl rfl) ?_
    | refine wG_pure (o_neq rfl rfl) ?_
    | refine wG_pure (o_not_d rfl) ?_
    | refine wG_pure (o_not rfl) ?_
    | refine wG_pure (o_beq rfl rfl) ?_
    | refine wG_pure (o_bne rfl rfl) ?_
    | refine wG_pure (o_build rfl) ?_
    | refine wG_pure (o_isnil_vw rfl rfl) ?_
    | refine wG_pure (o_isnil_sl rfl rfl) ?_
    | refine wG_pure (o_isnil_nil rfl rfl) ?_
    | refine wG_pure (o_len_sl rfl) ?_
    | refine wG_pure (o_len_vwm rfl) ?_
    | refine wG_pure (o_len_vw rfl) ?_
    | refine wG_pure (o_len_nil rfl) ?_
    | refine wG_pure (o_slen rfl) ?_
    | refine wG_pure (o_fldf rfl rfl) ?_
    | refine wG_pure (o_fldt rfl rfl rfl) ?_
    | refine wG_pure (o_ext rfl rfl) ?_
    | refine wG_pure (o_mx rfl rfl) ?_
    | refine wG_pure (o_mn rfl rfl) ?_
    | refine wG_pure (o_neg rfl (by omega) (by omega)) ?_
    | refine wG_new (o_alloc) ?_
    | refine wG_new (o_bsl rfl) ?_
    | refine wG_new (o_box_agg rfl rfl) ?_
    | refine wG_new (o_mks rfl rfl (by omega) (by decide)) ?_
    | refine wG_new (o_box1 rfl) ?_
    | refine wG_upd (o_st_agg rfl rfl rfl rfl rfl rfl rfl) ?_
    | refine wG_upd (o_st1 rfl rfl rfl rfl rfl rfl) ?_) | (first
    | refine wE_nil rfl ?_
    | refine wE_gy rfl ?_
    | refine wE_gn rfl rfl rfl ?_
    | refine wE_gu rfl rfl ?_
    | refine wE_gnn rfl rfl rfl ?_
    | refine wE_pure0 (o_mv rfl) rfl ?_
    | refine wE_pure (o_mv rfl) rfl ?_
    | refine wE_pure0 (o_pick_t rfl rfl) rfl ?_
    | refine wE_pure (o_pick_t rfl rfl) rfl ?_
    | refine wE_pure0 (o_pick_f rfl rfl) rfl ?_
    | refine wE_pure (o_pick_f rfl rfl) rfl ?_
    | refine wE_pure0 (o_ldf_pt rfl rfl rfl rfl) rfl ?_
    | refine wE_pure (o_ldf_pt rfl rfl rfl rfl) rfl ?_
    | refine wE_pure0 (o_ldt_pt rfl rfl rfl rfl rfl) rfl ?_
    | refine wE_pure (o_ldt_pt rfl rfl rfl rfl rfl) rfl ?_
    | refine wE_pure0 (o_ldf_vp rfl) rfl ?_
    | refine wE_pure (o_ldf_vp rfl) rfl ?_
    | refine wE_pure0 (o_ldt_vp rfl rfl rfl) rfl ?_
    | refine wE_pure (o_ldt_vp rfl rfl rfl) rfl ?_
    | refine wE_pure0 (o_fa_pt rfl) rfl ?_
    | refine wE_pure (o_fa_pt rfl) rfl ?_
    | refine wE_pure0 (o_fa_vp rfl rfl) rfl ?_
    | refine wE_pure (o_fa_vp rfl rfl) rfl ?_
    | refine wE_pure0 (o_nck_pt rfl) rfl ?_
    | refine wE_pure (o_nck_pt rfl) rfl ?_
    | refine wE_pure0 (o_nck_vp rfl) rfl ?_
    | refine wE_pure (o_nck_vp rfl) rfl ?_
    | refine wE_pure0 (o_nck_fn rfl) rfl ?_
    | refine wE_pure (o_nck_fn rfl) rfl ?_
    | refine wE_pure0 (e_ia_vw0 rfl rfl (by omega) rfl) rfl ?_
    | refine wE_pure (e_ia_vw0 rfl rfl (by omega) rfl) rfl ?_
    | refine wE_pure0 (e_ia_vwp rfl rfl (by omega) rfl) rfl ?_
    | refine wE_pure (e_ia_vwp rfl rfl (by omega) rfl) rfl ?_
    | refine wE_pure0 (e_ia_vwm rfl rfl (by omega) (by omega) rfl) rfl ?_
    | refine wE_pure (e_ia_vwm rfl rfl (by omega) (by omega) rfl) rfl ?_
    | refine wE_pure0 (e_ia_vwi rfl rfl (by omega) rfl) rfl ?_
    | refine wE_pure (e_ia_vwi rfl rfl (by omega) rfl) rfl ?_
    | refine wE_pure0 (e_ia_vwn rfl rfl (by omega) (by omega) rfl) rfl ?_
    | refine wE_pure (e_ia_vwn rfl rfl (by omega) (by omega) rfl) rfl ?_
    | refine wE_pure0 (e_add rfl rfl (by omega) (by omega)) rfl ?_
    | refine wE_pure (e_add rfl rfl (by omega) (by omega)) rfl ?_
    | refine wE_pure0 (e_sub rfl rfl (by omega) (by omega)) rfl ?_
    | refine wE_pure (e_sub rfl rfl (by omega) (by omega)) rfl ?_
    | refine wE_pure0 (e_mul rfl rfl (by omega) (by omega)) rfl ?_
    | refine wE_pure (e_mul rfl rfl (by omega) (by omega)) rfl ?_
    | refine wE_pure0 (o_lss rfl rfl) rfl ?_
    | refine wE_pure (o_lss rfl rfl) rfl ?_
    | refine wE_pure0 (o_leq rfl rfl) rfl ?_
    | refine wE_pure (o_leq rfl rfl) rfl ?_
    | refine wE_pure0 (o_gtr rfl rfl) rfl ?_
    | refine wE_pure (o_gtr rfl rfl) rfl ?_
    | refine wE_pure0 (o_geq rfl rfl) rfl ?_
    | refine wE_pure (o_geq rfl rfl) rfl ?_
    | refine wE_pure0 (o_eql rfl rfl) rfl ?_
    | refine wE_pure (o_eql rfl rfl) rfl ?_
    | refine wE_pure0 (o_neq rfl rfl) rfl ?_
    | refine wE_pure (o_neq rfl rfl) rfl ?_
    | refine wE_pure0 (o_not_d rfl) rfl ?_
    | refine wE_pure (o_not_d rfl) rfl ?_
    | refine wE_pure0 (o_not rfl) rfl ?_
    | refine wE_pure (o_not rfl) rfl ?_
    | refine wE_pure0 (o_beq rfl rfl) rfl ?_
    | refine wE_pure (o_beq rfl rfl) rfl ?_
    | refine wE_pure0 (o_bne rfl rfl) rfl ?_
    | refine wE_pure (o_bne rfl rfl) rfl ?_
    | refine wE_pure0 (o_build rfl) rfl ?_
    | refine wE_pure (o_build rfl) rfl ?_
    | refine wE_pure0 (o_isnil_vw rfl rfl) rfl ?_
    | refine wE_pure (o_isnil_vw rfl rfl) rfl ?_
    | refine wE_pure0 (o_isnil_sl rfl rfl) rfl ?_
    | refine wE_pure (o_isnil_sl rfl rfl) rfl ?_
    | refine wE_pure0 (o_isnil_nil rfl rfl) rfl ?_
    | refine wE_pure (o_isnil_nil rfl rfl) rfl ?_
    | refine wE_pure0 (o_len_sl rfl) rfl ?_
    | refine wE_pure (o_len_sl rfl) rfl ?_
    | refine wE_pure0 (o_len_vwm rfl) rfl ?_
    | refine wE_pure (o_len_vwm rfl) rfl ?_
    | refine wE_pure0 (o_len_vw rfl) rfl ?_
    | refine wE_pure (o_len_vw rfl) rfl ?_
    | refine wE_pure0 (o_len_nil rfl) rfl ?_
    | refine wE_pure (o_len_nil rfl) rfl ?_
    | refine wE_pure0 (o_slen rfl) rfl ?_
    | refine wE_pure (o_slen rfl) rfl ?_
    | refine wE_pure0 (o_fldf rfl rfl) rfl ?_
    | refine wE_pure (o_fldf rfl rfl) rfl ?_
    | refine wE_pure0 (o_fldt rfl rfl rfl) rfl ?_
    | refine wE_pure (o_fldt rfl rfl rfl) rfl ?_
    | refine wE_pure0 (o_ext rfl rfl) rfl ?_
    | refine wE_pure (o_ext rfl rfl) rfl ?_
    | refine wE_pure0 (o_mx rfl rfl) rfl ?_
    | refine wE_pure (o_mx rfl rfl) rfl ?_
    | refine wE_pure0 (o_mn rfl rfl) rfl ?_
    | refine wE_pure (o_mn rfl rfl) rfl ?_
    | refine wE_pure0 (o_neg rfl (by omega) (by omega)) rfl ?_
    | refine wE_pure (o_neg rfl (by omega) (by omega)) rfl ?_
    | refine wE_new (o_alloc) rfl ?_
    | refine wE_new (o_bsl rfl) rfl ?_
    | refine wE_new (o_box_agg rfl rfl) rfl ?_
    | refine wE_new (o_mks rfl rfl (by omega) (by decide)) rfl ?_
    | refine wE_new (o_box1 rfl) rfl ?_
    | refine wE_upd (o_st_agg rfl rfl rfl rfl rfl rfl rfl) rfl ?_
    | refine wE_upd (o_st1 rfl rfl rfl rfl rfl rfl) rfl ?_) | (refine wG_gd rfl (fun hgt => ?_) (fun hgf => ?_) <;> (first | simp only [eq_true hgt, decide_true] | simp only [eq_false hgf, decide_false])) | refine wC_cond_d rfl (fun hg => ?_) (fun hg => ?_))
      all_goals (first | exact ret_boolE (.inr rfl) ⟨_, retV_mv rfl, rfl⟩ | (exfalso; omega) | trace_state)
    · have c2 := con35_no true first ws hs' hG
      have c3 := con37_no true first ws hs' hG
      have c5 := eqD_no
      have c6 := heldD_no
      have c7 := con33_nil 0 1
      unfold dNo at *
      repeat' (first
        | refine wC_dregE ?_ | refine wG_call c0 rfl rfl ?_ | refine wG_call1 c1 rfl rfl ?_ | refine wG_call c2 (ag_int rfl (ag_sl rfl rfl rfl iRow_plain ag_nil)) rfl ?_ | refine wG_call c3 (ag_int rfl (ag_sl rfl rfl rfl iRow_plain ag_nil)) rfl ?_ | refine wG_call c4 (ag_sl rfl rfl rfl iRow_plain (ag_sl rfl rfl rfl iRow_plain ag_nil)) rfl ?_ | refine wG_call c5 rfl rfl ?_ | refine wG_call c6 rfl rfl ?_ | refine wG_call c7 rfl rfl ?_
        | refine wE_call1 c1 rfl rfl rfl ?_ | refine wE_call c4 (ag_sl rfl rfl rfl iRow_plain (ag_sl rfl rfl rfl iRow_plain ag_nil)) rfl rfl ?_ | refine wE_call c5 rfl rfl rfl ?_
        | (refine wG_callS (f := 39) (sh39 ws 1 (by omega) (by decide) (by decide) rfl ?_) rfl ?_ <;> (repeat' (first | exact ltrI _ _ | exact ltrC _ _ | exact ltrI [] _ | exact wfH_nil | refine wfH_cons (by decide) ?_ ?_ | refine wfH_none ?_ | exact ltr_dec rfl)))
        | (first
    | refine wC_seq ?_
    | refine wC_reg ?_
    | refine wC_dregq rfl ?_
    | refine wC_dregE ?_
    | refine wC_skip ?_
    | refine wC_blk ?_
    | refine wC_exit ?_
    | refine wC_ret ?_
    | refine q_seq_n ?_
    | refine q_seq_x ?_
    | refine q_seq_r ?_
    | refine q_blk_n ?_
    | refine q_blk_r ?_
    | refine q_blk_x ?_
    | refine q_blk_o rfl ?_
    | refine wG_nil ?_
    | refine wG_gy rfl ?_
    | refine wG_gn rfl rfl ?_
    | refine wG_gu rfl ?_
    | refine wC_cond_t rfl ?_
    | refine wC_cond_f rfl ?_
    | refine wG_pure (o_mv rfl) ?_
    | refine wG_pure (o_pick_t rfl rfl) ?_
    | refine wG_pure (o_pick_f rfl rfl) ?_
    | refine wG_pure (o_ldf_pt rfl rfl rfl rfl) ?_
    | refine wG_pure (o_ldt_pt rfl rfl rfl rfl rfl) ?_
    | refine wG_pure (o_ldf_vp rfl) ?_
    | refine wG_pure (o_ldt_vp rfl rfl rfl) ?_
    | refine wG_pure (o_fa_pt rfl) ?_
    | refine wG_pure (o_fa_vp rfl rfl) ?_
    | refine wG_pure (o_nck_pt rfl) ?_
    | refine wG_pure (o_nck_vp rfl) ?_
    | refine wG_pure (o_nck_fn rfl) ?_
    | refine wG_pure (e_ia_vw0 rfl rfl (by omega) rfl) ?_
    | refine wG_pure (e_ia_vwp rfl rfl (by omega) rfl) ?_
    | refine wG_pure (e_ia_vwm rfl rfl (by omega) (by omega) rfl) ?_
    | refine wG_pure (e_ia_vwi rfl rfl (by omega) rfl) ?_
    | refine wG_pure (e_ia_vwn rfl rfl (by omega) (by omega) rfl) ?_
    | refine wG_pure (e_add rfl rfl (by omega) (by omega)) ?_
    | refine wG_pure (e_sub rfl rfl (by omega) (by omega)) ?_
    | refine wG_pure (e_mul rfl rfl (by omega) (by omega)) ?_
    | refine wG_pure (o_lss rfl rfl) ?_
    | refine wG_pure (o_leq rfl rfl) ?_
    | refine wG_pure (o_gtr rfl rfl) ?_
    | refine wG_pure (o_geq rfl rfl) ?_
    | refine wG_pure (o_eql rfl rfl) ?_
    | refine wG_pure (o_neq rfl rfl) ?_
    | refine wG_pure (o_not_d rfl) ?_
    | refine wG_pure (o_not rfl) ?_
    | refine wG_pure (o_beq rfl rfl) ?_
    | refine wG_pure (o_bne rfl rfl) ?_
    | refine wG_pure (o_build rfl) ?_
    | refine wG_pure (o_isnil_vw rfl rfl) ?_
    | refine wG_pure (o_isnil_sl rfl rfl) ?_
    | refine wG_pure (o_isnil_nil rfl rfl) ?_
    | refine wG_pure (o_len_sl rfl) ?_
    | refine wG_pure (o_len_vwm rfl) ?_
    | refine wG_pure (o_len_vw rfl) ?_
    | refine wG_pure (o_len_nil rfl) ?_
    | refine wG_pure (o_slen rfl) ?_
    | refine wG_pure (o_fldf rfl rfl) ?_
    | refine wG_pure (o_fldt rfl rfl rfl) ?_
    | refine wG_pure (o_ext rfl rfl) ?_
    | refine wG_pure (o_mx rfl rfl) ?_
    | refine wG_pure (o_mn rfl rfl) ?_
    | refine wG_pure (o_neg rfl (by omega) (by omega)) ?_
    | refine wG_new (o_alloc) ?_
    | refine wG_new (o_bsl rfl) ?_
    | refine wG_new (o_box_agg rfl rfl) ?_
    | refine wG_new (o_mks rfl rfl (by omega) (by decide)) ?_
    | refine wG_new (o_box1 rfl) ?_
    | refine wG_upd (o_st_agg rfl rfl rfl rfl rfl rfl rfl) ?_
    | refine wG_upd (o_st1 rfl rfl rfl rfl rfl rfl) ?_) | (first
    | refine wE_nil rfl ?_
    | refine wE_gy rfl ?_
    | refine wE_gn rfl rfl rfl ?_
    | refine wE_gu rfl rfl ?_
    | refine wE_gnn rfl rfl rfl ?_
    | refine wE_pure0 (o_mv rfl) rfl ?_
    | refine wE_pure (o_mv rfl) rfl ?_
    | refine wE_pure0 (o_pick_t rfl rfl) rfl ?_
    | refine wE_pure (o_pick_t rfl rfl) rfl ?_
    | refine wE_pure0 (o_pick_f rfl rfl) rfl ?_
    | refine wE_pure (o_pick_f rfl rfl) rfl ?_
    | refine wE_pure0 (o_ldf_pt rfl rfl rfl rfl) rfl ?_
    | refine wE_pure (o_ldf_pt rfl rfl rfl rfl) rfl ?_
    | refine wE_pure0 (o_ldt_pt rfl rfl rfl rfl rfl) rfl ?_
    | refine wE_pure (o_ldt_pt rfl rfl rfl rfl rfl) rfl ?_
    | refine wE_pure0 (o_ldf_vp rfl) rfl ?_
    | refine wE_pure (o_ldf_vp rfl) rfl ?_
    | refine wE_pure0 (o_ldt_vp rfl rfl rfl) rfl ?_
    | refine wE_pure (o_ldt_vp rfl rfl rfl) rfl ?_
    | refine wE_pure0 (o_fa_pt rfl) rfl ?_
    | refine wE_pure (o_fa_pt rfl) rfl ?_
    | refine wE_pure0 (o_fa_vp rfl rfl) rfl ?_
    | refine wE_pure (o_fa_vp rfl rfl) rfl ?_
    | refine wE_pure0 (o_nck_pt rfl) rfl ?_
    | refine wE_pure (o_nck_pt rfl) rfl ?_
    | refine wE_pure0 (o_nck_vp rfl) rfl ?_
    | refine wE_pure (o_nck_vp rfl) rfl ?_
    | refine wE_pure0 (o_nck_fn rfl) rfl ?_
    | refine wE_pure (o_nck_fn rfl) rfl ?_
    | refine wE_pure0 (e_ia_vw0 rfl rfl (by omega) rfl) rfl ?_
    | refine wE_pure (e_ia_vw0 rfl rfl (by omega) rfl) rfl ?_
    | refine wE_pure0 (e_ia_vwp rfl rfl (by omega) rfl) rfl ?_
    | refine wE_pure (e_ia_vwp rfl rfl (by omega) rfl) rfl ?_
    | refine wE_pure0 (e_ia_vwm rfl rfl (by omega) (by omega) rfl) rfl ?_
    | refine wE_pure (e_ia_vwm rfl rfl (by omega) (by omega) rfl) rfl ?_
    | refine wE_pure0 (e_ia_vwi rfl rfl (by omega) rfl) rfl ?_
    | refine wE_pure (e_ia_vwi rfl rfl (by omega) rfl) rfl ?_
    | refine wE_pure0 (e_ia_vwn rfl rfl (by omega) (by omega) rfl) rfl ?_
    | refine wE_pure (e_ia_vwn rfl rfl (by omega) (by omega) rfl) rfl ?_
    | refine wE_pure0 (e_add rfl rfl (by omega) (by omega)) rfl ?_
    | refine wE_pure (e_add rfl rfl (by omega) (by omega)) rfl ?_
    | refine wE_pure0 (e_sub rfl rfl (by omega) (by omega)) rfl ?_
    | refine wE_pure (e_sub rfl rfl (by omega) (by omega)) rfl ?_
    | refine wE_pure0 (e_mul rfl rfl (by omega) (by omega)) rfl ?_
    | refine wE_pure (e_mul rfl rfl (by omega) (by omega)) rfl ?_
    | refine wE_pure0 (o_lss rfl rfl) rfl ?_
    | refine wE_pure (o_lss rfl rfl) rfl ?_
    | refine wE_pure0 (o_leq rfl rfl) rfl ?_
    | refine wE_pure (o_leq rfl rfl) rfl ?_
    | refine wE_pure0 (o_gtr rfl rfl) rfl ?_
    | refine wE_pure (o_gtr rfl rfl) rfl ?_
    | refine wE_pure0 (o_geq rfl rfl) rfl ?_
    | refine wE_pure (o_geq rfl rfl) rfl ?_
    | refine wE_pure0 (o_eql rfl rfl) rfl ?_
    | refine wE_pure (o_eql rfl rfl) rfl ?_
    | refine wE_pure0 (o_neq rfl rfl) rfl ?_
    | refine wE_pure (o_neq rfl rfl) rfl ?_
    | refine wE_pure0 (o_not_d rfl) rfl ?_
    | refine wE_pure (o_not_d rfl) rfl ?_
    | refine wE_pure0 (o_not rfl) rfl ?_
    | refine wE_pure (o_not rfl) rfl ?_
    | refine wE_pure0 (o_beq rfl rfl) rfl ?_
    | refine wE_pure (o_beq rfl rfl) rfl ?_
    | refine wE_pure0 (o_bne rfl rfl) rfl ?_
    | refine wE_pure (o_bne rfl rfl) rfl ?_
    | refine wE_pure0 (o_build rfl) rfl ?_
    | refine wE_pure (o_build rfl) rfl ?_
    | refine wE_pure0 (o_isnil_vw rfl rfl) rfl ?_
    | refine wE_pure (o_isnil_vw rfl rfl) rfl ?_
    | refine wE_pure0 (o_isnil_sl rfl rfl) rfl ?_
    | refine wE_pure (o_isnil_sl rfl rfl) rfl ?_
    | refine wE_pure0 (o_isnil_nil rfl rfl) rfl ?_
    | refine wE_pure (o_isnil_nil rfl rfl) rfl ?_
    | refine wE_pure0 (o_len_sl rfl) rfl ?_
    | refine wE_pure (o_len_sl rfl) rfl ?_
    | refine wE_pure0 (o_len_vwm rfl) rfl ?_
    | refine wE_pure (o_len_vwm rfl) rfl ?_
    | refine wE_pure0 (o_len_vw rfl) rfl ?_
    | refine wE_pure (o_len_vw rfl) rfl ?_
    | refine wE_pure0 (o_len_nil rfl) rfl ?_
    | refine wE_pure (o_len_nil rfl) rfl ?_
    | refine wE_pure0 (o_slen rfl) rfl ?_
    | refine wE_pure (o_slen rfl) rfl ?_
    | refine wE_pure0 (o_fldf rfl rfl) rfl ?_
    | refine wE_pure (o_fldf rfl rfl) rfl ?_
    | refine wE_pure0 (o_fldt rfl rfl rfl) rfl ?_
    | refine wE_pure (o_fldt rfl rfl rfl) rfl ?_
    | refine wE_pure0 (o_ext rfl rfl) rfl ?_
    | refine wE_pure (o_ext rfl rfl) rfl ?_
    | refine wE_pure0 (o_mx rfl rfl) rfl ?_
    | refine wE_pure (o_mx rfl rfl) rfl ?_
    | refine wE_pure0 (o_mn rfl rfl) rfl ?_
    | refine wE_pure (o_mn rfl rfl) rfl ?_
    | refine wE_pure0 (o_neg rfl (by omega) (by omega)) rfl ?_
    | refine wE_pure (o_neg rfl (by omega) (by omega)) rfl ?_
    | refine wE_new (o_alloc) rfl ?_
    | refine wE_new (o_bsl rfl) rfl ?_
    | refine wE_new (o_box_agg rfl rfl) rfl ?_
    | refine wE_new (o_mks rfl rfl (by omega) (by decide)) rfl ?_
    | refine wE_new (o_box1 rfl) rfl ?_
    | refine wE_upd (o_st_agg rfl rfl rfl rfl rfl rfl rfl) rfl ?_
    | refine wE_upd (o_st1 rfl rfl rfl rfl rfl rfl) rfl ?_) | (refine wG_gd rfl (fun hgt => ?_) (fun hgf => ?_) <;> (first | simp only [eq_true hgt, decide_true] | simp only [eq_false hgf, decide_false])) | refine wC_cond_d rfl (fun hg => ?_) (fun hg => ?_))
      all_goals (first | exact ret_boolE (.inr rfl) ⟨_, retV_mv rfl, rfl⟩ | (exfalso; omega) | trace_state)
  · rw [if_neg hs] at c0
    repeat' (first | refine wG_call c0 rfl rfl ?_ | (first
    | refine wC_seq ?_
    | refine wC_reg ?_
    | refine wC_dregq rfl ?_
    | refine wC_dregE ?_
    | refine wC_skip ?_
    | refine wC_blk ?_
    | refine wC_exit ?_
    | refine wC_ret ?_
    | refine q_seq_n ?_
    | refine q_seq_x ?_
    | refine q_seq_r ?_
    | refine q_blk_n ?_
    | refine q_blk_r ?_
    | refine q_blk_x ?_
    | refine q_blk_o rfl ?_
    | refine wG_nil ?_
    | refine wG_gy rfl ?_
    | refine wG_gn rfl rfl ?_
    | refine wG_gu rfl ?_
    | refine wC_cond_t rfl ?_
    | refine wC_cond_f rfl ?_
    | refine wG_pure (o_mv rfl) ?_
    | refine wG_pure (o_pick_t rfl rfl) ?_
    | refine wG_pure (o_pick_f rfl rfl) ?_
    | refine wG_pure (o_ldf_pt rfl rfl rfl rfl) ?_
    | refine wG_pure (o_ldt_pt rfl rfl rfl rfl rfl) ?_
    | refine wG_pure (o_ldf_vp rfl) ?_
    | refine wG_pure (o_ldt_vp rfl rfl rfl) ?_
    | refine wG_pure (o_fa_pt rfl) ?_
    | refine wG_pure (o_fa_vp rfl rfl) ?_
    | refine wG_pure (o_nck_pt rfl) ?_
    | refine wG_pure (o_nck_vp rfl) ?_
    | refine wG_pure (o_nck_fn rfl) ?_
    | refine wG_pure (e_ia_vw0 rfl rfl (by omega) rfl) ?_
    | refine wG_pure (e_ia_vwp rfl rfl (by omega) rfl) ?_
    | refine wG_pure (e_ia_vwm rfl rfl (by omega) (by omega) rfl) ?_
    | refine wG_pure (e_ia_vwi rfl rfl (by omega) rfl) ?_
    | refine wG_pure (e_ia_vwn rfl rfl (by omega) (by omega) rfl) ?_
    | refine wG_pure (e_add rfl rfl (by omega) (by omega)) ?_
    | refine wG_pure (e_sub rfl rfl (by omega) (by omega)) ?_
    | refine wG_pure (e_mul rfl rfl (by omega) (by omega)) ?_
    | refine wG_pure (o_lss rfl rfl) ?_
    | refine wG_pure (o_leq rfl rfl) ?_
    | refine wG_pure (o_gtr rfl rfl) ?_
    | refine wG_pure (o_geq rfl rfl) ?_
    | refine wG_pure (o_eql rfl rfl) ?_
    | refine wG_pure (o_neq rfl rfl) ?_
    | refine wG_pure (o_not_d rfl) ?_
    | refine wG_pure (o_not rfl) ?_
    | refine wG_pure (o_beq rfl rfl) ?_
    | refine wG_pure (o_bne rfl rfl) ?_
    | refine wG_pure (o_build rfl) ?_
    | refine wG_pure (o_isnil_vw rfl rfl) ?_
    | refine wG_pure (o_isnil_sl rfl rfl) ?_
    | refine wG_pure (o_isnil_nil rfl rfl) ?_
    | refine wG_pure (o_len_sl rfl) ?_
    | refine wG_pure (o_len_vwm rfl) ?_
    | refine wG_pure (o_len_vw rfl) ?_
    | refine wG_pure (o_len_nil rfl) ?_
    | refine wG_pure (o_slen rfl) ?_
    | refine wG_pure (o_fldf rfl rfl) ?_
    | refine wG_pure (o_fldt rfl rfl rfl) ?_
    | refine wG_pure (o_ext rfl rfl) ?_
    | refine wG_pure (o_mx rfl rfl) ?_
    | refine wG_pure (o_mn rfl rfl) ?_
    | refine wG_pure (o_neg rfl (by omega) (by omega)) ?_
    | refine wG_new (o_alloc) ?_
    | refine wG_new (o_bsl rfl) ?_
    | refine wG_new (o_box_agg rfl rfl) ?_
    | refine wG_new (o_mks rfl rfl (by omega) (by decide)) ?_
    | refine wG_new (o_box1 rfl) ?_
    | refine wG_upd (o_st_agg rfl rfl rfl rfl rfl rfl rfl) ?_
    | refine wG_upd (o_st1 rfl rfl rfl rfl rfl rfl) ?_) | (refine wG_gd rfl (fun hgt => ?_) (fun hgf => ?_) <;> (first | simp only [eq_true hgt, decide_true] | simp only [eq_false hgf, decide_false])) | refine wC_cond_d rfl (fun hg => ?_) (fun hg => ?_))
    any_goals (exfalso; omega)
    exact ret_boolE (.inr rfl) ⟨_, retV_mv rfl, rfl⟩
end Go.Proofs.Ytdljklicegcbpaa.Dst
