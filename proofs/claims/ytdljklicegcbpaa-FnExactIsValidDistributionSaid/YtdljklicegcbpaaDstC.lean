/- The body of the law on valid distributions gives true. -/
import Derived.Test.YtdljklicegcbpaaDstB
namespace Go.Proofs.Ytdljklicegcbpaa.Dst
open Go Go.Proofs.Ytdljklicegcbpaa.Ab Go.Proofs.Ytdljklicegcbpaa.Il
attribute [local irreducible] wpO wpC wpDr wpQ wpG wpE stepA seqQ blkQ Ret ev
set_option maxRecDepth 10000
set_option maxHeartbeats 4000000
set_option linter.unusedSimpArgs false
set_option linter.unusedVariables false

def ac3 : AC := (.seq (.reg [⟨(some 1), none, (.box 2 true (.t 0))⟩, ⟨(some 2), none, (.mv (.c (.bool false)))⟩]) (.seq (.reg [⟨(some 3), none, (.mv (.c (.int .i64 1048576)))⟩]) (.seq (.reg [⟨(some 7), none, (.ld true 2 (.t 1))⟩, ⟨(some 8), none, (.mv (.t 3))⟩, ⟨(some 9), none, (.call 16 [(.t 7), (.t 8)])⟩, ⟨(some 3), none, (.mv (.t 9))⟩]) (.seq (.seq (.reg [⟨(some 10), none, (.mv (.t 3))⟩, ⟨(some 11), none, (.bin .lss (.t 10) (.c (.int .i64 0)))⟩]) (.cond (.t 11) (.seq (.reg [⟨(some 2), none, (.mv (.c (.bool true)))⟩]) .ret) .skip)) (.seq (.reg [⟨(some 12), none, (.ld true 2 (.t 1))⟩, ⟨(some 13), none, (.call 18 [(.t 12)])⟩, ⟨(some 14), none, (.call 17 [(.t 13)])⟩, ⟨(some 4), none, (.mv (.t 14))⟩]) (.seq (.reg [⟨(some 15), none, (.ld true 2 (.t 1))⟩, ⟨(some 16), none, (.call 18 [(.t 15)])⟩, ⟨(some 5), none, (.alloc [(.int .i64 0), .nilS])⟩, ⟨none, none, (.st 2 (.t 5) (.t 16))⟩]) (.seq (.reg [⟨(some 17), none, (.ld true 2 (.t 5))⟩, ⟨(some 18), none, (.call 19 [(.t 17)])⟩, ⟨(some 6), none, (.mv (.t 18))⟩]) (.seq (.seq (.reg [⟨(some 19), none, (.mv (.t 6))⟩, ⟨(some 20), none, (.mv (.t 4))⟩, ⟨(some 21), none, (.bool2 true (.t 19) (.t 20))⟩]) (.cond (.t 21) (.seq (.reg [⟨(some 2), none, (.mv (.c (.bool false)))⟩]) .ret) .skip)) (.seq (.seq (.dreg [⟨(some 22), none, (.ld true 2 (.t 5))⟩, ⟨(some 23), none, (.ld true 2 (.t 1))⟩, ⟨(some 24), none, (.call 18 [(.t 23)])⟩, ⟨(some 25), none, (.call 20 [(.t 22), (.t 24)])⟩, ⟨(some 26), none, (.un .not (.t 25))⟩] [[], [], [1], [0, 1, 2], [0, 1, 2, 3]]) (.cond (.t 26) (.seq (.reg [⟨(some 2), none, (.mv (.c (.bool false)))⟩]) .ret) .skip)) (.seq (.reg [⟨(some 2), none, (.mv (.c (.bool true)))⟩]) .ret))))))))))
def ro3 : List AOp := [(.mv (.t 2))]
theorem fun3 : Fun Try.prog 3 27 ac3 ro3 := ⟨Try.f3, _, Try.func3, by kernel_rfl, rfl, rfl, by kernel_rfl, by kernel_rfl, by decide⟩
open Classical in
theorem con3 (nn : Bool) (d : Ds) (hlen : d.ws.length ≤ 9223372036854775807) : Con Try.prog 3 true [.agg (dRow nn d)] (.bool true) [] := by
  refine con_of_wp mixed fun3 (by simp) [] plain_nil ?_
  unfold ac3 ro3
  simp only [zipT]
  have c := con16 nn d hlen 1048576 (by decide) (by decide)
  by_cases hs : (d.ws.length : Int) ≤ 1048576
  · rw [if_pos hs] at c
    have hs' : d.ws.length ≤ 1048576 := by omega
    have c1 := con18 nn d hs'
    have c2 := con17 true d hs'
    have c3 := con19 true d hs'
    have c4 := con20_same true true d hs'
    obtain ⟨f, ws⟩ := d
    unfold dRow at *
    simp only at *
    repeat' (first | refine wC_dregE ?_ | refine wG_call c rfl rfl ?_ | refine wG_call1 c1 rfl rfl ?_ | refine wG_call c2 (ag_is rfl rfl rfl iRow_plain ag_nil) rfl ?_ | refine wG_call c3 (ag_is rfl rfl rfl iRow_plain ag_nil) rfl ?_ | refine wE_call1 c1 rfl rfl rfl ?_ | refine wE_call c4 (ag_is rfl rfl rfl iRow_plain (ag_is rfl rfl rfl iRow_plain ag_nil)) rfl rfl ?_ | simp only [ne_eq, not_true_eq_false, decide_false] | (first
    | refine wC_seq ?_
    | refine wC_reg ?_
    | refine wC_dregq rfl ?_
    | refine wC_dregE ?_
    | refine wC_skip ?_
    | refine wC_blk ?_
    | refine wC_exit ?_
    | refine wC_ret ?_
    | refine q_seq_n ?_
    | refine q_seq_x ?_
    | refine q_seq_r ?_
    | refine q_blk_n ?_
    | refine q_blk_r ?_
    | refine q_blk_x ?_
    | refine q_blk_o rfl ?_
    | refine wG_nil ?_
    | refine wG_gy rfl ?_
    | refine wG_gn rfl rfl ?_
    | refine wC_cond_t rfl ?_
    | refine wC_cond_f rfl ?_
    | refine wG_pure (o_mv_int rfl) ?_
    | refine wG_pure (o_mv_bool rfl) ?_
    | refine wG_pure (o_mv_sl rfl) ?_
    | refine wG_pure (o_mv_pt rfl) ?_
    | refine wG_pure (o_mv_vw rfl) ?_
    | refine wG_pure (o_mv_vp rfl) ?_
    | refine wG_pure (o_mv_agg rfl) ?_
    | refine wG_pure (o_mv_nilS rfl) ?_
    | refine wG_pure (o_mv_str rfl) ?_
    | refine wG_pure (o_mv_fn rfl) ?_
    | refine wG_pure (o_mv_tup rfl) ?_
    | refine wG_pure (o_mv_nilP rfl) ?_
    | refine wG_pure (o_mv_nilF rfl) ?_
    | refine wG_pure (o_ldf_pt rfl rfl rfl rfl) ?_
    | refine wG_pure (o_ldt_pt rfl rfl rfl rfl rfl) ?_
    | refine wG_pure (o_ldf_vp rfl) ?_
    | refine wG_pure (o_ldt_vp rfl rfl rfl) ?_
    | refine wG_pure (o_fa_pt rfl) ?_
    | refine wG_pure (o_fa_vp rfl rfl) ?_
    | refine wG_pure (o_nck_pt rfl) ?_
    | refine wG_pure (o_nck_vp rfl) ?_
    | refine wG_pure (o_nck_fn rfl) ?_
    | refine wG_pure (e_ia_vw0 rfl rfl (by omega) rfl) ?_
    | refine wG_pure (e_ia_vwi rfl rfl (by omega) rfl) ?_
    | refine wG_pure (e_ia_vwp rfl rfl (by omega) rfl) ?_
    | refine wG_pure (e_ia_vwm rfl rfl (by omega) (by omega) rfl) ?_
    | refine wG_pure (e_ia_vwn rfl rfl (by omega) (by omega) rfl) ?_
    | refine wG_pure (e_add rfl rfl (by omega) (by omega)) ?_
    | refine wG_pure (e_sub rfl rfl (by omega) (by omega)) ?_
    | refine wG_pure (e_mul rfl rfl (by omega) (by omega)) ?_
    | refine wG_pure (o_lss rfl rfl) ?_
    | refine wG_pure (o_leq rfl rfl) ?_
    | refine wG_pure (o_gtr rfl rfl) ?_
    | refine wG_pure (o_geq rfl rfl) ?_
    | refine wG_pure (o_eql rfl rfl) ?_
    | refine wG_pure (o_neq rfl rfl) ?_
    | refine wG_pure (o_not_d rfl) ?_
    | refine wG_pure (o_not rfl) ?_
    | refine wG_pure (o_beq rfl rfl) ?_
    | refine wG_pure (o_bne rfl rfl) ?_
    | refine wG_pure (o_pick_t_int rfl rfl) ?_
    | refine wG_pure (o_pick_f_int rfl rfl) ?_
    | refine wG_pure (o_pick_t_bool rfl rfl) ?_
    | refine wG_pure (o_pick_f_bool rfl rfl) ?_
    | refine wG_pure (o_build rfl) ?_
    | refine wG_pure (o_isnil_vw rfl rfl) ?_
    | refine wG_pure (o_isnil_sl rfl rfl) ?_
    | refine wG_pure (o_isnil_nil rfl rfl) ?_
    | refine wG_pure (o_len_sl rfl) ?_
    | refine wG_pure (o_len_vwm rfl) ?_
    | refine wG_pure (o_len_vw rfl) ?_
    | refine wG_pure (o_len_nil rfl) ?_
    | refine wG_pure (o_slen rfl) ?_
    | refine wG_pure (o_fldf rfl rfl) ?_
    | refine wG_pure (o_fldt rfl rfl rfl) ?_
    | refine wG_pure (o_ext rfl rfl) ?_
    | refine wG_pure (o_mx rfl rfl) ?_
    | refine wG_pure (o_mn rfl rfl) ?_
    | refine wG_pure (o_neg rfl (by omega) (by omega)) ?_
    | refine wG_new (o_alloc) ?_
    | refine wG_new (o_bsl rfl) ?_
    | refine wG_new (o_box_agg rfl rfl) ?_
    | refine wG_new (o_box_int rfl) ?_
    | refine wG_new (o_box_bool rfl) ?_
    | refine wG_new (o_box_sl rfl) ?_
    | refine wG_new (o_box_pt rfl) ?_
    | refine wG_new (o_box_vw rfl) ?_
    | refine wG_new (o_box_vp rfl) ?_
    | refine wG_new (o_box_nilS rfl) ?_
    | refine wG_new (o_box_str rfl) ?_
    | refine wG_new (o_box_fn rfl) ?_
    | refine wG_new (o_box_nilP rfl) ?_
    | refine wG_new (o_box_nilF rfl) ?_
    | refine wG_new (o_mks rfl rfl (by omega) (by decide)) ?_
    | refine wG_upd (o_st_agg rfl rfl rfl rfl rfl rfl rfl) ?_
    | refine wG_upd (o_st_int rfl rfl rfl rfl rfl rfl) ?_
    | refine wG_upd (o_st_bool rfl rfl rfl rfl rfl rfl) ?_
    | refine wG_upd (o_st_sl rfl rfl rfl rfl rfl rfl) ?_
    | refine wG_upd (o_st_pt rfl rfl rfl rfl rfl rfl) ?_
    | refine wG_upd (o_st_vw rfl rfl rfl rfl rfl rfl) ?_
    | refine wG_upd (o_st_vp rfl rfl rfl rfl rfl rfl) ?_
    | refine wG_upd (o_st_nilS rfl rfl rfl rfl rfl rfl) ?_
    | refine wG_upd (o_st_str rfl rfl rfl rfl rfl rfl) ?_
    | refine wG_upd (o_st_fn rfl rfl rfl rfl rfl rfl) ?_
    | refine wG_upd (o_st_nilP rfl rfl rfl rfl rfl rfl) ?_
    | refine wG_upd (o_st_nilF rfl rfl rfl rfl rfl rfl) ?_) | (first
    | refine wE_nil rfl ?_
    | refine wE_gy rfl ?_
    | refine wE_gn rfl rfl rfl ?_
    | refine wE_gnn rfl rfl rfl ?_
    | refine wE_pure0 (o_mv_int rfl) rfl ?_
    | refine wE_pure1 (o_mv_int rfl) rfl ?_
    | refine wE_pure (o_mv_int rfl) rfl ?_
    | refine wE_pure0 (o_mv_bool rfl) rfl ?_
    | refine wE_pure1 (o_mv_bool rfl) rfl ?_
    | refine wE_pure (o_mv_bool rfl) rfl ?_
    | refine wE_pure0 (o_mv_sl rfl) rfl ?_
    | refine wE_pure1 (o_mv_sl rfl) rfl ?_
    | refine wE_pure (o_mv_sl rfl) rfl ?_
    | refine wE_pure0 (o_mv_pt rfl) rfl ?_
    | refine wE_pure1 (o_mv_pt rfl) rfl ?_
    | refine wE_pure (o_mv_pt rfl) rfl ?_
    | refine wE_pure0 (o_mv_vw rfl) rfl ?_
    | refine wE_pure1 (o_mv_vw rfl) rfl ?_
    | refine wE_pure (o_mv_vw rfl) rfl ?_
    | refine wE_pure0 (o_mv_vp rfl) rfl ?_
    | refine wE_pure1 (o_mv_vp rfl) rfl ?_
    | refine wE_pure (o_mv_vp rfl) rfl ?_
    | refine wE_pure0 (o_mv_agg rfl) rfl ?_
    | refine wE_pure1 (o_mv_agg rfl) rfl ?_
    | refine wE_pure (o_mv_agg rfl) rfl ?_
    | refine wE_pure0 (o_mv_nilS rfl) rfl ?_
    | refine wE_pure1 (o_mv_nilS rfl) rfl ?_
    | refine wE_pure (o_mv_nilS rfl) rfl ?_
    | refine wE_pure0 (o_mv_str rfl) rfl ?_
    | refine wE_pure1 (o_mv_str rfl) rfl ?_
    | refine wE_pure (o_mv_str rfl) rfl ?_
    | refine wE_pure0 (o_mv_fn rfl) rfl ?_
    | refine wE_pure1 (o_mv_fn rfl) rfl ?_
    | refine wE_pure (o_mv_fn rfl) rfl ?_
    | refine wE_pure0 (o_mv_tup rfl) rfl ?_
    | refine wE_pure1 (o_mv_tup rfl) rfl ?_
    | refine wE_pure (o_mv_tup rfl) rfl ?_
    | refine wE_pure0 (o_mv_nilP rfl) rfl ?_
    | refine wE_pure1 (o_mv_nilP rfl) rfl ?_
    | refine wE_pure (o_mv_nilP rfl) rfl ?_
    | refine wE_pure0 (o_mv_nilF rfl) rfl ?_
    | refine wE_pure1 (o_mv_nilF rfl) rfl ?_
    | refine wE_pure (o_mv_nilF rfl) rfl ?_
    | refine wE_pure0 (o_ldf_pt rfl rfl rfl rfl) rfl ?_
    | refine wE_pure1 (o_ldf_pt rfl rfl rfl rfl) rfl ?_
    | refine wE_pure (o_ldf_pt rfl rfl rfl rfl) rfl ?_
    | refine wE_pure0 (o_ldt_pt rfl rfl rfl rfl rfl) rfl ?_
    | refine wE_pure1 (o_ldt_pt rfl rfl rfl rfl rfl) rfl ?_
    | refine wE_pure (o_ldt_pt rfl rfl rfl rfl rfl) rfl ?_
    | refine wE_pure0 (o_ldf_vp rfl) rfl ?_
    | refine wE_pure1 (o_ldf_vp rfl) rfl ?_
    | refine wE_pure (o_ldf_vp rfl) rfl ?_
    | refine wE_pure0 (o_ldt_vp rfl rfl rfl) rfl ?_
    | refine wE_pure1 (o_ldt_vp rfl rfl rfl) rfl ?_
    | refine wE_pure (o_ldt_vp rfl rfl rfl) rfl ?_
    | refine wE_pure0 (o_fa_pt rfl) rfl ?_
    | refine wE_pure1 (o_fa_pt rfl) rfl ?_
    | refine wE_pure (o_fa_pt rfl) rfl ?_
    | refine wE_pure0 (o_fa_vp rfl rfl) rfl ?_
    | refine wE_pure1 (o_fa_vp rfl rfl) rfl ?_
    | refine wE_pure (o_fa_vp rfl rfl) rfl ?_
    | refine wE_pure0 (o_nck_pt rfl) rfl ?_
    | refine wE_pure1 (o_nck_pt rfl) rfl ?_
    | refine wE_pure (o_nck_pt rfl) rfl ?_
    | refine wE_pure0 (o_nck_vp rfl) rfl ?_
    | refine wE_pure1 (o_nck_vp rfl) rfl ?_
    | refine wE_pure (o_nck_vp rfl) rfl ?_
    | refine wE_pure0 (o_nck_fn rfl) rfl ?_
    | refine wE_pure1 (o_nck_fn rfl) rfl ?_
    | refine wE_pure (o_nck_fn rfl) rfl ?_
    | refine wE_pure0 (e_ia_vw0 rfl rfl (by omega) rfl) rfl ?_
    | refine wE_pure1 (e_ia_vw0 rfl rfl (by omega) rfl) rfl ?_
    | refine wE_pure (e_ia_vw0 rfl rfl (by omega) rfl) rfl ?_
    | refine wE_pure0 (e_ia_vwi rfl rfl (by omega) rfl) rfl ?_
    | refine wE_pure1 (e_ia_vwi rfl rfl (by omega) rfl) rfl ?_
    | refine wE_pure (e_ia_vwi rfl rfl (by omega) rfl) rfl ?_
    | refine wE_pure0 (e_ia_vwp rfl rfl (by omega) rfl) rfl ?_
    | refine wE_pure1 (e_ia_vwp rfl rfl (by omega) rfl) rfl ?_
    | refine wE_pure (e_ia_vwp rfl rfl (by omega) rfl) rfl ?_
    | refine wE_pure0 (e_ia_vwm rfl rfl (by omega) (by omega) rfl) rfl ?_
    | refine wE_pure1 (e_ia_vwm rfl rfl (by omega) (by omega) rfl) rfl ?_
    | refine wE_pure (e_ia_vwm rfl rfl (by omega) (by omega) rfl) rfl ?_
    | refine wE_pure0 (e_ia_vwn rfl rfl (by omega) (by omega) rfl) rfl ?_
    | refine wE_pure1 (e_ia_vwn rfl rfl (by omega) (by omega) rfl) rfl ?_
    | refine wE_pure (e_ia_vwn rfl rfl (by omega) (by omega) rfl) rfl ?_
    | refine wE_pure0 (e_add rfl rfl (by omega) (by omega)) rfl ?_
    | refine wE_pure1 (e_add rfl rfl (by omega) (by omega)) rfl ?_
    | refine wE_pure (e_add rfl rfl (by omega) (by omega)) rfl ?_
    | refine wE_pure0 (e_sub rfl rfl (by omega) (by omega)) rfl ?_
    | refine wE_pure1 (e_sub rfl rfl (by omega) (by omega)) rfl ?_
    | refine wE_pure (e_sub rfl rfl (by omega) (by omega)) rfl ?_
    | refine wE_pure0 (e_mul rfl rfl (by omega) (by omega)) rfl ?_
    | refine wE_pure1 (e_mul rfl rfl (by omega) (by omega)) rfl ?_
    | refine wE_pure (e_mul rfl rfl (by omega) (by omega)) rfl ?_
    | refine wE_pure0 (o_lss rfl rfl) rfl ?_
    | refine wE_pure1 (o_lss rfl rfl) rfl ?_
    | refine wE_pure (o_lss rfl rfl) rfl ?_
    | refine wE_pure0 (o_leq rfl rfl) rfl ?_
    | refine wE_pure1 (o_leq rfl rfl) rfl ?_
    | refine wE_pure (o_leq rfl rfl) rfl ?_
    | refine wE_pure0 (o_gtr rfl rfl) rfl ?_
    | refine wE_pure1 (o_gtr rfl rfl) rfl ?_
    | refine wE_pure (o_gtr rfl rfl) rfl ?_
    | refine wE_pure0 (o_geq rfl rfl) rfl ?_
    | refine wE_pure1 (o_geq rfl rfl) rfl ?_
    | refine wE_pure (o_geq rfl rfl) rfl ?_
    | refine wE_pure0 (o_eql rfl rfl) rfl ?_
    | refine wE_pure1 (o_eql rfl rfl) rfl ?_
    | refine wE_pure (o_eql rfl rfl) rfl ?_
    | refine wE_pure0 (o_neq rfl rfl) rfl ?_
    | refine wE_pure1 (o_neq rfl rfl) rfl ?_
    | refine wE_pure (o_neq rfl rfl) rfl ?_
    | refine wE_pure0 (o_not_d rfl) rfl ?_
    | refine wE_pure1 (o_not_d rfl) rfl ?_
    | refine wE_pure (o_not_d rfl) rfl ?_
    | refine wE_pure0 (o_not rfl) rfl ?_
    | refine wE_pure1 (o_not rfl) rfl ?_
    | refine wE_pure (o_not rfl) rfl ?_
    | refine wE_pure0 (o_beq rfl rfl) rfl ?_
    | refine wE_pure1 (o_beq rfl rfl) rfl ?_
    | refine wE_pure (o_beq rfl rfl) rfl ?_
    | refine wE_pure0 (o_bne rfl rfl) rfl ?_
    | refine wE_pure1 (o_bne rfl rfl) rfl ?_
    | refine wE_pure (o_bne rfl rfl) rfl ?_
    | refine wE_pure0 (o_pick_t_int rfl rfl) rfl ?_
    | refine wE_pure1 (o_pick_t_int rfl rfl) rfl ?_
    | refine wE_pure (o_pick_t_int rfl rfl) rfl ?_
    | refine wE_pure0 (o_pick_f_int rfl rfl) rfl ?_
    | refine wE_pure1 (o_pick_f_int rfl rfl) rfl ?_
    | refine wE_pure (o_pick_f_int rfl rfl) rfl ?_
    | refine wE_pure0 (o_pick_t_bool rfl rfl) rfl ?_
    | refine wE_pure1 (o_pick_t_bool rfl rfl) rfl ?_
    | refine wE_pure (o_pick_t_bool rfl rfl) rfl ?_
    | refine wE_pure0 (o_pick_f_bool rfl rfl) rfl ?_
    | refine wE_pure1 (o_pick_f_bool rfl rfl) rfl ?_
    | refine wE_pure (o_pick_f_bool rfl rfl) rfl ?_
    | refine wE_pure0 (o_build rfl) rfl ?_
    | refine wE_pure1 (o_build rfl) rfl ?_
    | refine wE_pure (o_build rfl) rfl ?_
    | refine wE_pure0 (o_isnil_vw rfl rfl) rfl ?_
    | refine wE_pure1 (o_isnil_vw rfl rfl) rfl ?_
    | refine wE_pure (o_isnil_vw rfl rfl) rfl ?_
    | refine wE_pure0 (o_isnil_sl rfl rfl) rfl ?_
    | refine wE_pure1 (o_isnil_sl rfl rfl) rfl ?_
    | refine wE_pure (o_isnil_sl rfl rfl) rfl ?_
    | refine wE_pure0 (o_isnil_nil rfl rfl) rfl ?_
    | refine wE_pure1 (o_isnil_nil rfl rfl) rfl ?_
    | refine wE_pure (o_isnil_nil rfl rfl) rfl ?_
    | refine wE_pure0 (o_len_sl rfl) rfl ?_
    | refine wE_pure1 (o_len_sl rfl) rfl ?_
    | refine wE_pure (o_len_sl rfl) rfl ?_
    | refine wE_pure0 (o_len_vwm rfl) rfl ?_
    | refine wE_pure1 (o_len_vwm rfl) rfl ?_
    | refine wE_pure (o_len_vwm rfl) rfl ?_
    | refine wE_pure0 (o_len_vw rfl) rfl ?_
    | refine wE_pure1 (o_len_vw rfl) rfl ?_
    | refine wE_pure (o_len_vw rfl) rfl ?_
    | refine wE_pure0 (o_len_nil rfl) rfl ?_
    | refine wE_pure1 (o_len_nil rfl) rfl ?_
    | refine wE_pure (o_len_nil rfl) rfl ?_
    | refine wE_pure0 (o_slen rfl) rfl ?_
    | refine wE_pure1 (o_slen rfl) rfl ?_
    | refine wE_pure (o_slen rfl) rfl ?_
    | refine wE_pure0 (o_fldf rfl rfl) rfl ?_
    | refine wE_pure1 (o_fldf rfl rfl) rfl ?_
    | refine wE_pure (o_fldf rfl rfl) rfl ?_
    | refine wE_pure0 (o_fldt rfl rfl rfl) rfl ?_
    | refine wE_pure1 (o_fldt rfl rfl rfl) rfl ?_
    | refine wE_pure (o_fldt rfl rfl rfl) rfl ?_
    | refine wE_pure0 (o_ext rfl rfl) rfl ?_
    | refine wE_pure1 (o_ext rfl rfl) rfl ?_
    | refine wE_pure (o_ext rfl rfl) rfl ?_
    | refine wE_pure0 (o_mx rfl rfl) rfl ?_
    | refine wE_pure1 (o_mx rfl rfl) rfl ?_
    | refine wE_pure (o_mx rfl rfl) rfl ?_
    | refine wE_pure0 (o_mn rfl rfl) rfl ?_
    | refine wE_pure1 (o_mn rfl rfl) rfl ?_
    | refine wE_pure (o_mn rfl rfl) rfl ?_
    | refine wE_pure0 (o_neg rfl (by omega) (by omega)) rfl ?_
    | refine wE_pure1 (o_neg rfl (by omega) (by omega)) rfl ?_
    | refine wE_pure (o_neg rfl (by omega) (by omega)) rfl ?_
    | refine wE_new (o_alloc) rfl ?_
    | refine wE_new (o_bsl rfl) rfl ?_
    | refine wE_new (o_box_agg rfl rfl) rfl ?_
    | refine wE_new (o_box_int rfl) rfl ?_
    | refine wE_new (o_box_bool rfl) rfl ?_
    | refine wE_new (o_box_sl rfl) rfl ?_
    | refine wE_new (o_box_pt rfl) rfl ?_
    | refine wE_new (o_box_vw rfl) rfl ?_
    | refine wE_new (o_box_vp rfl) rfl ?_
    | refine wE_new (o_box_nilS rfl) rfl ?_
    | refine wE_new (o_box_str rfl) rfl ?_
    | refine wE_new (o_box_fn rfl) rfl ?_
    | refine wE_new (o_box_nilP rfl) rfl ?_
    | refine wE_new (o_box_nilF rfl) rfl ?_
    | refine wE_new (o_mks rfl rfl (by omega) (by decide)) rfl ?_
    | refine wE_upd (o_st_agg rfl rfl rfl rfl rfl rfl rfl) rfl ?_
    | refine wE_upd (o_st_int rfl rfl rfl rfl rfl rfl) rfl ?_
    | refine wE_upd (o_st_bool rfl rfl rfl rfl rfl rfl) rfl ?_
    | refine wE_upd (o_st_sl rfl rfl rfl rfl rfl rfl) rfl ?_
    | refine wE_upd (o_st_pt rfl rfl rfl rfl rfl rfl) rfl ?_
    | refine wE_upd (o_st_vw rfl rfl rfl rfl rfl rfl) rfl ?_
    | refine wE_upd (o_st_vp rfl rfl rfl rfl rfl rfl) rfl ?_
    | refine wE_upd (o_st_nilS rfl rfl rfl rfl rfl rfl) rfl ?_
    | refine wE_upd (o_st_str rfl rfl rfl rfl rfl rfl) rfl ?_
    | refine wE_upd (o_st_fn rfl rfl rfl rfl rfl rfl) rfl ?_
    | refine wE_upd (o_st_nilP rfl rfl rfl rfl rfl rfl) rfl ?_
    | refine wE_upd (o_st_nilF rfl rfl rfl rfl rfl rfl) rfl ?_) | (refine wG_gd rfl (fun hgt => ?_) (fun hgf => ?_) <;> (first | simp only [eq_true hgt, decide_true] | simp only [eq_false hgf, decide_false])) | refine wC_cond_d rfl (fun hg => ?_) (fun hg => ?_))
    all_goals (first | exact ret_boolE (.inr rfl) ⟨_, retV_mv rfl, rfl⟩ | (exfalso; omega) | trace_state)
  · rw [if_neg hs] at c
    repeat (first | refine wG_call c rfl rfl ?_ | (first
    | refine wC_seq ?_
    | refine wC_reg ?_
    | refine wC_dregq rfl ?_
    | refine wC_dregE ?_
    | refine wC_skip ?_
    | refine wC_blk ?_
    | refine wC_exit ?_
    | refine wC_ret ?_
    | refine q_seq_n ?_
    | refine q_seq_x ?_
    | refine q_seq_r ?_
    | refine q_blk_n ?_
    | refine q_blk_r ?_
    | refine q_blk_x ?_
    | refine q_blk_o rfl ?_
    | refine wG_nil ?_
    | refine wG_gy rfl ?_
    | refine wG_gn rfl rfl ?_
    | refine wC_cond_t rfl ?_
    | refine wC_cond_f rfl ?_
    | refine wG_pure (o_mv_int rfl) ?_
    | refine wG_pure (o_mv_bool rfl) ?_
    | refine wG_pure (o_mv_sl rfl) ?_
    | refine wG_pure (o_mv_pt rfl) ?_
    | refine wG_pure (o_mv_vw rfl) ?_
    | refine wG_pure (o_mv_vp rfl) ?_
    | refine wG_pure (o_mv_agg rfl) ?_
    | refine wG_pure (o_mv_nilS rfl) ?_
    | refine wG_pure (o_mv_str rfl) ?_
    | refine wG_pure (o_mv_fn rfl) ?_
    | refine wG_pure (o_mv_tup rfl) ?_
    | refine wG_pure (o_mv_nilP rfl) ?_
    | refine wG_pure (o_mv_nilF rfl) ?_
    | refine wG_pure (o_ldf_pt rfl rfl rfl rfl) ?_
    | refine wG_pure (o_ldt_pt rfl rfl rfl rfl rfl) ?_
    | refine wG_pure (o_ldf_vp rfl) ?_
    | refine wG_pure (o_ldt_vp rfl rfl rfl) ?_
    | refine wG_pure (o_fa_pt rfl) ?_
    | refine wG_pure (o_fa_vp rfl rfl) ?_
    | refine wG_pure (o_nck_pt rfl) ?_
    | refine wG_pure (o_nck_vp rfl) ?_
    | refine wG_pure (o_nck_fn rfl) ?_
    | refine wG_pure (e_ia_vw0 rfl rfl (by omega) rfl) ?_
    | refine wG_pure (e_ia_vwi rfl rfl (by omega) rfl) ?_
    | refine wG_pure (e_ia_vwp rfl rfl (by omega) rfl) ?_
    | refine wG_pure (e_ia_vwm rfl rfl (by omega) (by omega) rfl) ?_
    | refine wG_pure (e_ia_vwn rfl rfl (by omega) (by omega) rfl) ?_
    | refine wG_pure (e_add rfl rfl (by omega) (by omega)) ?_
    | refine wG_pure (e_sub rfl rfl (by omega) (by omega)) ?_
    | refine wG_pure (e_mul rfl rfl (by omega) (by omega)) ?_
    | refine wG_pure (o_lss rfl rfl) ?_
    | refine wG_pure (o_leq rfl rfl) ?_
    | refine wG_pure (o_gtr rfl rfl) ?_
    | refine wG_pure (o_geq rfl rfl) ?_
    | refine wG_pure (o_eql rfl rfl) ?_
    | refine wG_pure (o_neq rfl rfl) ?_
    | refine wG_pure (o_not_d rfl) ?_
    | refine wG_pure (o_not rfl) ?_
    | refine wG_pure (o_beq rfl rfl) ?_
    | refine wG_pure (o_bne rfl rfl) ?_
    | refine wG_pure (o_pick_t_int rfl rfl) ?_
    | refine wG_pure (o_pick_f_int rfl rfl) ?_
    | refine wG_pure (o_pick_t_bool rfl rfl) ?_
    | refine wG_pure (o_pick_f_bool rfl rfl) ?_
    | refine wG_pure (o_build rfl) ?_
    | refine wG_pure (o_isnil_vw rfl rfl) ?_
    | refine wG_pure (o_isnil_sl rfl rfl) ?_
    | refine wG_pure (o_isnil_nil rfl rfl) ?_
    | refine wG_pure (o_len_sl rfl) ?_
    | refine wG_pure (o_len_vwm rfl) ?_
    | refine wG_pure (o_len_vw rfl) ?_
    | refine wG_pure (o_len_nil rfl) ?_
    | refine wG_pure (o_slen rfl) ?_
    | refine wG_pure (o_fldf rfl rfl) ?_
    | refine wG_pure (o_fldt rfl rfl rfl) ?_
    | refine wG_pure (o_ext rfl rfl) ?_
    | refine wG_pure (o_mx rfl rfl) ?_
    | refine wG_pure (o_mn rfl rfl) ?_
    | refine wG_pure (o_neg rfl (by omega) (by omega)) ?_
    | refine wG_new (o_alloc) ?_
    | refine wG_new (o_bsl rfl) ?_
    | refine wG_new (o_box_agg rfl rfl) ?_
    | refine wG_new (o_box_int rfl) ?_
    | refine wG_new (o_box_bool rfl) ?_
    | refine wG_new (o_box_sl rfl) ?_
    | refine wG_new (o_box_pt rfl) ?_
    | refine wG_new (o_box_vw rfl) ?_
    | refine wG_new (o_box_vp rfl) ?_
    | refine wG_new (o_box_nilS rfl) ?_
    | refine wG_new (o_box_str rfl) ?_
    | refine wG_new (o_box_fn rfl) ?_
    | refine wG_new (o_box_nilP rfl) ?_
    | refine wG_new (o_box_nilF rfl) ?_
    | refine wG_new (o_mks rfl rfl (by omega) (by decide)) ?_
    | refine wG_upd (o_st_agg rfl rfl rfl rfl rfl rfl rfl) ?_
    | refine wG_upd (o_st_int rfl rfl rfl rfl rfl rfl) ?_
    | refine wG_upd (o_st_bool rfl rfl rfl rfl rfl rfl) ?_
    | refine wG_upd (o_st_sl rfl rfl rfl rfl rfl rfl) ?_
    | refine wG_upd (o_st_pt rfl rfl rfl rfl rfl rfl) ?_
    | refine wG_upd (o_st_vw rfl rfl rfl rfl rfl rfl) ?_
    | refine wG_upd (o_st_vp rfl rfl rfl rfl rfl rfl) ?_
    | refine wG_upd (o_st_nilS rfl rfl rfl rfl rfl rfl) ?_
    | refine wG_upd (o_st_str rfl rfl rfl rfl rfl rfl) ?_
    | refine wG_upd (o_st_fn rfl rfl rfl rfl rfl rfl) ?_
    | refine wG_upd (o_st_nilP rfl rfl rfl rfl rfl rfl) ?_
    | refine wG_upd (o_st_nilF rfl rfl rfl rfl rfl rfl) ?_))
    exact ret_boolE (.inr rfl) ⟨_, retV_mv rfl, rfl⟩
end Go.Proofs.Ytdljklicegcbpaa.Dst
