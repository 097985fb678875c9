/- CurveAt, of the specification and of the implementation, and the body of its law. -/
import Derived.Test.YtkbgadipkihifaaCatA
import Derived.Test.YtkbgadipkihifaaIvcD
namespace Go.Proofs.Ytkbgadipkihifaa
open Go Go.Proofs.Ytkbgadipkihifaa.Ab
attribute [local irreducible] wpO wpC wpDr wpQ wpG wpE stepA seqQ blkQ Ret ev
set_option maxRecDepth 10000
set_option maxHeartbeats 4000000
set_option linter.unusedSimpArgs false
set_option linter.unusedVariables false

def ac6 : AC := (.seq (.reg [⟨(some 4), none, (.mv (.c (.bool false)))⟩]) (.seq (.reg [⟨(some 5), none, (.mv (.c (.int .i64 1048576)))⟩]) (.seq (.reg [⟨(some 13), none, (.mv (.t 0))⟩, ⟨(some 14), none, (.mv (.t 5))⟩, ⟨(some 15), none, (.call 10 [(.t 13), (.t 14)])⟩, ⟨(some 5), none, (.mv (.t 15))⟩]) (.seq (.seq (.reg [⟨(some 16), none, (.mv (.t 5))⟩, ⟨(some 17), none, (.bin .lss (.t 16) (.c (.int .i64 0)))⟩]) (.cond (.t 17) (.seq (.reg [⟨(some 4), none, (.mv (.c (.bool true)))⟩]) .ret) .skip)) (.seq (.reg [⟨(some 19), none, (.mv (.t 0))⟩, ⟨(some 20), none, (.call 12 [(.t 19)])⟩, ⟨(some 21), none, (.mv (.t 1))⟩, ⟨(some 22), none, (.call 23 [(.t 20), (.t 21)])⟩, ⟨(some 18), none, (.mv (.t 22))⟩, ⟨(some 23), none, (.ext (.t 18) 0)⟩, ⟨(some 24), none, (.ext (.t 18) 1)⟩, ⟨(some 25), none, (.ext (.t 18) 2)⟩, ⟨(some 6), none, (.mv (.t 23))⟩, ⟨(some 7), none, (.mv (.t 24))⟩, ⟨(some 8), none, (.mv (.t 25))⟩]) (.seq (.reg [⟨(some 26), none, (.mv (.t 0))⟩, ⟨(some 27), none, (.call 12 [(.t 26)])⟩, ⟨(some 9), none, (.mv (.t 27))⟩]) (.seq (.reg [⟨(some 29), none, (.mv (.t 9))⟩, ⟨(some 30), none, (.mv (.t 1))⟩, ⟨(some 31), none, (.call 24 [(.t 29), (.t 30)])⟩, ⟨(some 28), none, (.mv (.t 31))⟩, ⟨(some 32), none, (.ext (.t 28) 0)⟩, ⟨(some 33), none, (.ext (.t 28) 1)⟩, ⟨(some 34), none, (.ext (.t 28) 2)⟩, ⟨(some 10), none, (.mv (.t 32))⟩, ⟨(some 11), none, (.mv (.t 33))⟩, ⟨(some 12), none, (.mv (.t 34))⟩]) (.seq (.seq (.reg [⟨(some 35), none, (.mv (.t 10))⟩, ⟨(some 36), none, (.mv (.t 6))⟩, ⟨(some 37), none, (.bin .neq (.t 35) (.t 36))⟩, ⟨(some 38), none, (.mv (.t 37))⟩, ⟨(some 39), (some (38, false)), (.mv (.t 11))⟩, ⟨(some 40), (some (38, false)), (.mv (.t 7))⟩, ⟨(some 41), (some (38, false)), (.bin .neq (.t 39) (.t 40))⟩, ⟨(some 42), none, (.pick (.t 38) (.c (.bool true)) (.t 41))⟩, ⟨(some 43), none, (.mv (.t 42))⟩, ⟨(some 44), (some (43, false)), (.mv (.t 12))⟩, ⟨(some 45), (some (43, false)), (.mv (.t 8))⟩, ⟨(some 46), (some (43, false)), (.bool2 true (.t 44) (.t 45))⟩, ⟨(some 47), none, (.pick (.t 43) (.c (.bool true)) (.t 46))⟩]) (.cond (.t 47) (.seq (.reg [⟨(some 4), none, (.mv (.c (.bool false)))⟩]) .ret) .skip)) (.seq (.seq (.reg [⟨(some 48), none, (.mv (.t 9))⟩, ⟨(some 49), none, (.mv (.t 0))⟩, ⟨(some 50), none, (.call 12 [(.t 49)])⟩, ⟨(some 51), none, (.call 14 [(.t 48), (.t 50)])⟩, ⟨(some 52), none, (.un .not (.t 51))⟩]) (.cond (.t 52) (.seq (.reg [⟨(some 4), none, (.mv (.c (.bool false)))⟩]) .ret) .skip)) (.seq (.reg [⟨(some 4), none, (.mv (.c (.bool true)))⟩]) .ret))))))))))
def ro6 : List AOp := [(.mv (.t 4))]
theorem fun6 : Fun Try.prog 6 53 ac6 ro6 := ⟨Try.f6, _, Try.func6, by kernel_rfl, rfl, rfl, by kernel_rfl, by kernel_rfl, by decide⟩
def ac23 : AC := (.seq (.reg [⟨(some 4), none, (.mv (.c (.int .i64 0)))⟩, ⟨(some 5), none, (.mv (.c (.int .i64 0)))⟩, ⟨(some 6), none, (.mv (.c (.bool false)))⟩]) (.seq (.seq (.reg [⟨(some 9), none, (.mv (.t 0))⟩, ⟨(some 10), none, (.call 36 [(.t 9)])⟩, ⟨(some 11), none, (.un .not (.t 10))⟩, ⟨(some 12), none, (.mv (.t 11))⟩, ⟨(some 13), (some (12, false)), (.mv (.t 0))⟩, ⟨(some 14), (some (12, false)), (.mv (.t 1))⟩, ⟨(some 15), (some (12, false)), (.call 46 [(.t 13), (.t 14)])⟩, ⟨(some 16), (some (12, false)), (.un .not (.t 15))⟩, ⟨(some 17), none, (.pick (.t 12) (.c (.bool true)) (.t 16))⟩]) (.cond (.t 17) (.seq (.reg [⟨(some 4), none, (.mv (.c (.int .i64 0)))⟩, ⟨(some 5), none, (.mv (.c (.int .i64 0)))⟩, ⟨(some 6), none, (.mv (.c (.bool false)))⟩]) .ret) .skip)) (.seq (.reg [⟨(some 19), none, (.mv (.t 0))⟩, ⟨(some 20), none, (.mv (.t 1))⟩, ⟨(some 21), none, (.call 47 [(.t 19), (.t 20)])⟩, ⟨(some 18), none, (.mv (.t 21))⟩, ⟨(some 22), none, (.ext (.t 18) 0)⟩, ⟨(some 23), none, (.ext (.t 18) 1)⟩, ⟨(some 7), none, (.mv (.t 22))⟩, ⟨(some 8), none, (.mv (.t 23))⟩]) (.seq (.reg [⟨(some 24), none, (.mv (.t 7))⟩, ⟨(some 25), none, (.mv (.t 8))⟩, ⟨(some 4), none, (.mv (.t 24))⟩, ⟨(some 5), none, (.mv (.t 25))⟩, ⟨(some 6), none, (.mv (.c (.bool true)))⟩]) .ret))))
def ro23 : List AOp := [(.mv (.t 4)), (.mv (.t 5)), (.mv (.t 6))]
theorem fun23 : Fun Try.prog 23 26 ac23 ro23 := ⟨Try.f23, _, Try.func23, by kernel_rfl, rfl, rfl, by kernel_rfl, by kernel_rfl, by decide⟩
def ac24 : AC := (.seq (.reg [⟨(some 4), none, (.mv (.c (.int .i64 0)))⟩, ⟨(some 5), none, (.mv (.c (.int .i64 0)))⟩, ⟨(some 6), none, (.mv (.c (.bool false)))⟩]) (.seq (.seq (.reg [⟨(some 11), none, (.mv (.t 0))⟩, ⟨(some 12), none, (.call 13 [(.t 11)])⟩, ⟨(some 13), none, (.un .not (.t 12))⟩]) (.cond (.t 13) (.seq (.reg [⟨(some 4), none, (.mv (.c (.int .i64 0)))⟩, ⟨(some 5), none, (.mv (.c (.int .i64 0)))⟩, ⟨(some 6), none, (.mv (.c (.bool false)))⟩]) .ret) .skip)) (.seq (.reg [⟨(some 15), none, (.mv (.t 0))⟩, ⟨(some 16), none, (.call 48 [(.t 15)])⟩, ⟨(some 14), none, (.mv (.t 16))⟩, ⟨(some 17), none, (.ext (.t 14) 0)⟩, ⟨(some 18), none, (.ext (.t 14) 1)⟩, ⟨(some 7), none, (.mv (.t 17))⟩, ⟨(some 8), none, (.mv (.t 18))⟩]) (.seq (.seq (.reg [⟨(some 19), none, (.mv (.t 1))⟩, ⟨(some 20), none, (.mv (.t 7))⟩, ⟨(some 21), none, (.mv (.t 8))⟩, ⟨(some 22), none, (.call 38 [(.t 19), (.t 20), (.t 21)])⟩, ⟨(some 23), none, (.un .not (.t 22))⟩]) (.cond (.t 23) (.seq (.reg [⟨(some 4), none, (.mv (.c (.int .i64 0)))⟩, ⟨(some 5), none, (.mv (.c (.int .i64 0)))⟩, ⟨(some 6), none, (.mv (.c (.bool false)))⟩]) .ret) .skip)) (.seq (.reg [⟨(some 25), none, (.mv (.t 0))⟩, ⟨(some 26), none, (.mv (.t 1))⟩, ⟨(some 27), none, (.call 49 [(.t 25), (.t 26)])⟩, ⟨(some 24), none, (.mv (.t 27))⟩, ⟨(some 28), none, (.ext (.t 24) 0)⟩, ⟨(some 29), none, (.ext (.t 24) 1)⟩, ⟨(some 9), none, (.mv (.t 28))⟩, ⟨(some 10), none, (.mv (.t 29))⟩]) (.seq (.reg [⟨(some 30), none, (.mv (.t 9))⟩, ⟨(some 31), none, (.mv (.t 10))⟩, ⟨(some 4), none, (.mv (.t 30))⟩, ⟨(some 5), none, (.mv (.t 31))⟩, ⟨(some 6), none, (.mv (.c (.bool true)))⟩]) .ret))))))
def ro24 : List AOp := [(.mv (.t 4)), (.mv (.t 5)), (.mv (.t 6))]
theorem fun24 : Fun Try.prog 24 32 ac24 ro24 := ⟨Try.f24, _, Try.func24, by kernel_rfl, rfl, rfl, by kernel_rfl, by kernel_rfl, by decide⟩

open Classical in
/-- The three results. -/
noncomputable def catA (xs : List CP) (year : Int) : Int := if Good xs ∧ inYears xs year then ageAt xs year else 0
open Classical in
noncomputable def catE (xs : List CP) (year : Int) : Int := if Good xs ∧ inYears xs year then errAt xs year else 0

open Classical in
theorem con23 (nn : Bool) (xs : List CP) (hlen : xs.length ≤ 1048576) (year : Int) : Con Try.prog 23 true [.vw nn (xs.map cpRow), .int .i64 year] (.tup [.int .i64 (catA xs year), .int .i64 (catE xs year), .bool (decide (Good xs ∧ inYears xs year))]) [] := by
  refine con_of_wp mixed fun23 (by simp) [] plain_nil ?_
  unfold ac23 ro23
  simp only [zipT]
  have c1 := con36 nn xs hlen
  by_cases hG : Good xs
  · rw [decide_eq_true hG] at c1
    have c2 := con46 nn xs hG year
    by_cases hY : inYears xs year
    · have c3 := con47 nn xs hG year hY
      rw [decide_eq_true hY] at c2
      repeat (first | refine wG_call c1 rfl rfl ?_ | refine wG_call c2 rfl rfl ?_ | refine wG_call c3 rfl rfl ?_ | (first
    | refine wC_seq ?_
    | refine wC_reg ?_
    | refine wC_dregq rfl ?_
    | refine wC_dregE ?_
    | refine wC_skip ?_
    | refine wC_blk ?_
    | refine wC_exit ?_
    | refine wC_ret ?_
    | refine q_seq_n ?_
    | refine q_seq_x ?_
    | refine q_seq_r ?_
    | refine q_blk_n ?_
    | refine q_blk_r ?_
    | refine q_blk_x ?_
    | refine q_blk_o rfl ?_
    | refine wG_nil ?_
    | refine wG_gy rfl ?_
    | refine wG_gn rfl rfl ?_
    | refine wC_cond_t rfl ?_
    | refine wC_cond_f rfl ?_
    | refine wG_pure (o_mv_int rfl) ?_
    | refine wG_pure (o_mv_bool rfl) ?_
    | refine wG_pure (o_mv_sl rfl) ?_
    | refine wG_pure (o_mv_pt rfl) ?_
    | refine wG_pure (o_mv_vw rfl) ?_
    | refine wG_pure (o_mv_vp rfl) ?_
    | refine wG_pure (o_mv_agg rfl) ?_
    | refine wG_pure (o_mv_nilS rfl) ?_
    | refine wG_pure (o_mv_str rfl) ?_
    | refine wG_pure (o_mv_fn rfl) ?_
    | refine wG_pure (o_mv_tup rfl) ?_
    | refine wG_pure (o_mv_nilP rfl) ?_
    | refine wG_pure (o_mv_nilF rfl) ?_
    | refine wG_pure (o_ldf_pt rfl rfl rfl rfl) ?_
    | refine wG_pure (o_ldt_pt rfl rfl rfl rfl rfl) ?_
    | refine wG_pure (o_ldf_vp rfl) ?_
    | refine wG_pure (o_ldt_vp rfl rfl rfl) ?_
    | refine wG_pure (o_fa_pt rfl) ?_
    | refine wG_pure (o_fa_vp rfl rfl) ?_
    | refine wG_pure (o_nck_pt rfl) ?_
    | refine wG_pure (o_nck_vp rfl) ?_
    | refine wG_pure (o_nck_fn rfl) ?_
    | refine wG_pure (e_ia_vwi rfl rfl (by omega) rfl) ?_
    | refine wG_pure (e_ia_vwn rfl rfl (by omega) (by omega) rfl) ?_
    | refine wG_pure (e_add rfl rfl (by omega) (by omega)) ?_
    | refine wG_pure (e_sub rfl rfl (by omega) (by omega)) ?_
    | refine wG_pure (e_mul rfl rfl (by omega) (by omega)) ?_
    | refine wG_pure (o_lss rfl rfl) ?_
    | refine wG_pure (o_leq rfl rfl) ?_
    | refine wG_pure (o_gtr rfl rfl) ?_
    | refine wG_pure (o_geq rfl rfl) ?_
    | refine wG_pure (o_eql rfl rfl) ?_
    | refine wG_pure (o_neq rfl rfl) ?_
    | refine wG_pure (o_not_d rfl) ?_
    | refine wG_pure (o_not rfl) ?_
    | refine wG_pure (o_beq rfl rfl) ?_
    | refine wG_pure (o_bne rfl rfl) ?_
    | refine wG_pure (o_pick_t_int rfl rfl) ?_
    | refine wG_pure (o_pick_f_int rfl rfl) ?_
    | refine wG_pure (o_pick_t_bool rfl rfl) ?_
    | refine wG_pure (o_pick_f_bool rfl rfl) ?_
    | refine wG_pure (o_build rfl) ?_
    | refine wG_pure (o_len_sl rfl) ?_
    | refine wG_pure (o_len_vwm rfl) ?_
    | refine wG_pure (o_len_vw rfl) ?_
    | refine wG_pure (o_len_nil rfl) ?_
    | refine wG_pure (o_slen rfl) ?_
    | refine wG_pure (o_fldf rfl rfl) ?_
    | refine wG_pure (o_fldt rfl rfl rfl) ?_
    | refine wG_pure (o_ext rfl rfl) ?_
    | refine wG_pure (o_mx rfl rfl) ?_
    | refine wG_pure (o_mn rfl rfl) ?_
    | refine wG_pure (o_neg rfl (by omega) (by omega)) ?_
    | refine wG_new (o_alloc) ?_
    | refine wG_new (o_box_agg rfl rfl) ?_
    | refine wG_new (o_box_int rfl) ?_
    | refine wG_new (o_box_bool rfl) ?_
    | refine wG_new (o_box_sl rfl) ?_
    | refine wG_new (o_box_pt rfl) ?_
    | refine wG_new (o_box_vw rfl) ?_
    | refine wG_new (o_box_vp rfl) ?_
    | refine wG_new (o_box_nilS rfl) ?_
    | refine wG_new (o_box_str rfl) ?_
    | refine wG_new (o_box_fn rfl) ?_
    | refine wG_new (o_box_nilP rfl) ?_
    | refine wG_new (o_box_nilF rfl) ?_
    | refine wG_new (o_mks rfl rfl (by omega) (by decide)) ?_
    | refine wG_upd (o_st_agg rfl rfl rfl rfl rfl rfl rfl) ?_
    | refine wG_upd (o_st_int rfl rfl rfl rfl rfl rfl) ?_
    | refine wG_upd (o_st_bool rfl rfl rfl rfl rfl rfl) ?_
    | refine wG_upd (o_st_sl rfl rfl rfl rfl rfl rfl) ?_
    | refine wG_upd (o_st_pt rfl rfl rfl rfl rfl rfl) ?_
    | refine wG_upd (o_st_vw rfl rfl rfl rfl rfl rfl) ?_
    | refine wG_upd (o_st_vp rfl rfl rfl rfl rfl rfl) ?_
    | refine wG_upd (o_st_nilS rfl rfl rfl rfl rfl rfl) ?_
    | refine wG_upd (o_st_str rfl rfl rfl rfl rfl rfl) ?_
    | refine wG_upd (o_st_fn rfl rfl rfl rfl rfl rfl) ?_
    | refine wG_upd (o_st_nilP rfl rfl rfl rfl rfl rfl) ?_
    | refine wG_upd (o_st_nilF rfl rfl rfl rfl rfl rfl) ?_))
      unfold catA catE
      rw [if_pos ⟨hG, hY⟩, if_pos ⟨hG, hY⟩, decide_eq_true ⟨hG, hY⟩]
      refine ret_3 (.inr rfl) rfl rfl rfl ⟨_, _, _, retV_mv rfl, retV_mv rfl, retV_mv rfl, rfl, rfl, rfl⟩
    · rw [decide_eq_false hY] at c2
      repeat (first | refine wG_call c1 rfl rfl ?_ | refine wG_call c2 rfl rfl ?_ | (first
    | refine wC_seq ?_
    | refine wC_reg ?_
    | refine wC_dregq rfl ?_
    | refine wC_dregE ?_
    | refine wC_skip ?_
    | refine wC_blk ?_
    | refine wC_exit ?_
    | refine wC_ret ?_
    | refine q_seq_n ?_
    | refine q_seq_x ?_
    | refine q_seq_r ?_
    | refine q_blk_n ?_
    | refine q_blk_r ?_
    | refine q_blk_x ?_
    | refine q_blk_o rfl ?_
    | refine wG_nil ?_
    | refine wG_gy rfl ?_
    | refine wG_gn rfl rfl ?_
    | refine wC_cond_t rfl ?_
    | refine wC_cond_f rfl ?_
    | refine wG_pure (o_mv_int rfl) ?_
    | refine wG_pure (o_mv_bool rfl) ?_
    | refine wG_pure (o_mv_sl rfl) ?_
    | refine wG_pure (o_mv_pt rfl) ?_
    | refine wG_pure (o_mv_vw rfl) ?_
    | refine wG_pure (o_mv_vp rfl) ?_
    | refine wG_pure (o_mv_agg rfl) ?_
    | refine wG_pure (o_mv_nilS rfl) ?_
    | refine wG_pure (o_mv_str rfl) ?_
    | refine wG_pure (o_mv_fn rfl) ?_
    | refine wG_pure (o_mv_tup rfl) ?_
    | refine wG_pure (o_mv_nilP rfl) ?_
    | refine wG_pure (o_mv_nilF rfl) ?_
    | refine wG_pure (o_ldf_pt rfl rfl rfl rfl) ?_
    | refine wG_pure (o_ldt_pt rfl rfl rfl rfl rfl) ?_
    | refine wG_pure (o_ldf_vp rfl) ?_
    | refine wG_pure (o_ldt_vp rfl rfl rfl) ?_
    | refine wG_pure (o_fa_pt rfl) ?_
    | refine wG_pure (o_fa_vp rfl rfl) ?_
    | refine wG_pure (o_nck_pt rfl) ?_
    | refine wG_pure (o_nck_vp rfl) ?_
    | refine wG_pure (o_nck_fn rfl) ?_
    | refine wG_pure (e_ia_vwi rfl rfl (by omega) rfl) ?_
    | refine wG_pure (e_ia_vwn rfl rfl (by omega) (by omega) rfl) ?_
    | refine wG_pure (e_add rfl rfl (by omega) (by omega)) ?_
    | refine wG_pure (e_sub rfl rfl (by omega) (by omega)) ?_
    | refine wG_pure (e_mul rfl rfl (by omega) (by omega)) ?_
    | refine wG_pure (o_lss rfl rfl) ?_
    | refine wG_pure (o_leq rfl rfl) ?_
    | refine wG_pure (o_gtr rfl rfl) ?_
    | refine wG_pure (o_geq rfl rfl) ?_
    | refine wG_pure (o_eql rfl rfl) ?_
    | refine wG_pure (o_neq rfl rfl) ?_
    | refine wG_pure (o_not_d rfl) ?_
    | refine wG_pure (o_not rfl) ?_
    | refine wG_pure (o_beq rfl rfl) ?_
    | refine wG_pure (o_bne rfl rfl) ?_
    | refine wG_pure (o_pick_t_int rfl rfl) ?_
    | refine wG_pure (o_pick_f_int rfl rfl) ?_
    | refine wG_pure (o_pick_t_bool rfl rfl) ?_
    | refine wG_pure (o_pick_f_bool rfl rfl) ?_
    | refine wG_pure (o_build rfl) ?_
    | refine wG_pure (o_len_sl rfl) ?_
    | refine wG_pure (o_len_vwm rfl) ?_
    | refine wG_pure (o_len_vw rfl) ?_
    | refine wG_pure (o_len_nil rfl) ?_
    | refine wG_pure (o_slen rfl) ?_
    | refine wG_pure (o_fldf rfl rfl) ?_
    | refine wG_pure (o_fldt rfl rfl rfl) ?_
    | refine wG_pure (o_ext rfl rfl) ?_
    | refine wG_pure (o_mx rfl rfl) ?_
    | refine wG_pure (o_mn rfl rfl) ?_
    | refine wG_pure (o_neg rfl (by omega) (by omega)) ?_
    | refine wG_new (o_alloc) ?_
    | refine wG_new (o_box_agg rfl rfl) ?_
    | refine wG_new (o_box_int rfl) ?_
    | refine wG_new (o_box_bool rfl) ?_
    | refine wG_new (o_box_sl rfl) ?_
    | refine wG_new (o_box_pt rfl) ?_
    | refine wG_new (o_box_vw rfl) ?_
    | refine wG_new (o_box_vp rfl) ?_
    | refine wG_new (o_box_nilS rfl) ?_
    | refine wG_new (o_box_str rfl) ?_
    | refine wG_new (o_box_fn rfl) ?_
    | refine wG_new (o_box_nilP rfl) ?_
    | refine wG_new (o_box_nilF rfl) ?_
    | refine wG_new (o_mks rfl rfl (by omega) (by decide)) ?_
    | refine wG_upd (o_st_agg rfl rfl rfl rfl rfl rfl rfl) ?_
    | refine wG_upd (o_st_int rfl rfl rfl rfl rfl rfl) ?_
    | refine wG_upd (o_st_bool rfl rfl rfl rfl rfl rfl) ?_
    | refine wG_upd (o_st_sl rfl rfl rfl rfl rfl rfl) ?_
    | refine wG_upd (o_st_pt rfl rfl rfl rfl rfl rfl) ?_
    | refine wG_upd (o_st_vw rfl rfl rfl rfl rfl rfl) ?_
    | refine wG_upd (o_st_vp rfl rfl rfl rfl rfl rfl) ?_
    | refine wG_upd (o_st_nilS rfl rfl rfl rfl rfl rfl) ?_
    | refine wG_upd (o_st_str rfl rfl rfl rfl rfl rfl) ?_
    | refine wG_upd (o_st_fn rfl rfl rfl rfl rfl rfl) ?_
    | refine wG_upd (o_st_nilP rfl rfl rfl rfl rfl rfl) ?_
    | refine wG_upd (o_st_nilF rfl rfl rfl rfl rfl rfl) ?_))
      unfold catA catE; rw [if_neg (fun h => hY h.2), if_neg (fun h => hY h.2), decide_eq_false (fun h => hY h.2)]
      refine ret_3 (.inr rfl) rfl rfl rfl ⟨_, _, _, retV_mv rfl, retV_mv rfl, retV_mv rfl, rfl, rfl, rfl⟩
  · rw [decide_eq_false hG] at c1
    repeat (first | refine wG_call c1 rfl rfl ?_ | (first
    | refine wC_seq ?_
    | refine wC_reg ?_
    | refine wC_dregq rfl ?_
    | refine wC_dregE ?_
    | refine wC_skip ?_
    | refine wC_blk ?_
    | refine wC_exit ?_
    | refine wC_ret ?_
    | refine q_seq_n ?_
    | refine q_seq_x ?_
    | refine q_seq_r ?_
    | refine q_blk_n ?_
    | refine q_blk_r ?_
    | refine q_blk_x ?_
    | refine q_blk_o rfl ?_
    | refine wG_nil ?_
    | refine wG_gy rfl ?_
    | refine wG_gn rfl rfl ?_
    | refine wC_cond_t rfl ?_
    | refine wC_cond_f rfl ?_
    | refine wG_pure (o_mv_int rfl) ?_
    | refine wG_pure (o_mv_bool rfl) ?_
    | refine wG_pure (o_mv_sl rfl) ?_
    | refine wG_pure (o_mv_pt rfl) ?_
    | refine wG_pure (o_mv_vw rfl) ?_
    | refine wG_pure (o_mv_vp rfl) ?_
    | refine wG_pure (o_mv_agg rfl) ?_
    | refine wG_pure (o_mv_nilS rfl) ?_
    | refine wG_pure (o_mv_str rfl) ?_
    | refine wG_pure (o_mv_fn rfl) ?_
    | refine wG_pure (o_mv_tup rfl) ?_
    | refine wG_pure (o_mv_nilP rfl) ?_
    | refine wG_pure (o_mv_nilF rfl) ?_
    | refine wG_pure (o_ldf_pt rfl rfl rfl rfl) ?_
    | refine wG_pure (o_ldt_pt rfl rfl rfl rfl rfl) ?_
    | refine wG_pure (o_ldf_vp rfl) ?_
    | refine wG_pure (o_ldt_vp rfl rfl rfl) ?_
    | refine wG_pure (o_fa_pt rfl) ?_
    | refine wG_pure (o_fa_vp rfl rfl) ?_
    | refine wG_pure (o_nck_pt rfl) ?_
    | refine wG_pure (o_nck_vp rfl) ?_
    | refine wG_pure (o_nck_fn rfl) ?_
    | refine wG_pure (e_ia_vwi rfl rfl (by omega) rfl) ?_
    | refine wG_pure (e_ia_vwn rfl rfl (by omega) (by omega) rfl) ?_
    | refine wG_pure (e_add rfl rfl (by omega) (by omega)) ?_
    | refine wG_pure (e_sub rfl rfl (by omega) (by omega)) ?_
    | refine wG_pure (e_mul rfl rfl (by omega) (by omega)) ?_
    | refine wG_pure (o_lss rfl rfl) ?_
    | refine wG_pure (o_leq rfl rfl) ?_
    | refine wG_pure (o_gtr rfl rfl) ?_
    | refine wG_pure (o_geq rfl rfl) ?_
    | refine wG_pure (o_eql rfl rfl) ?_
    | refine wG_pure (o_neq rfl rfl) ?_
    | refine wG_pure (o_not_d rfl) ?_
    | refine wG_pure (o_not rfl) ?_
    | refine wG_pure (o_beq rfl rfl) ?_
    | refine wG_pure (o_bne rfl rfl) ?_
    | refine wG_pure (o_pick_t_int rfl rfl) ?_
    | refine wG_pure (o_pick_f_int rfl rfl) ?_
    | refine wG_pure (o_pick_t_bool rfl rfl) ?_
    | refine wG_pure (o_pick_f_bool rfl rfl) ?_
    | refine wG_pure (o_build rfl) ?_
    | refine wG_pure (o_len_sl rfl) ?_
    | refine wG_pure (o_len_vwm rfl) ?_
    | refine wG_pure (o_len_vw rfl) ?_
    | refine wG_pure (o_len_nil rfl) ?_
    | refine wG_pure (o_slen rfl) ?_
    | refine wG_pure (o_fldf rfl rfl) ?_
    | refine wG_pure (o_fldt rfl rfl rfl) ?_
    | refine wG_pure (o_ext rfl rfl) ?_
    | refine wG_pure (o_mx rfl rfl) ?_
    | refine wG_pure (o_mn rfl rfl) ?_
    | refine wG_pure (o_neg rfl (by omega) (by omega)) ?_
    | refine wG_new (o_alloc) ?_
    | refine wG_new (o_box_agg rfl rfl) ?_
    | refine wG_new (o_box_int rfl) ?_
    | refine wG_new (o_box_bool rfl) ?_
    | refine wG_new (o_box_sl rfl) ?_
    | refine wG_new (o_box_pt rfl) ?_
    | refine wG_new (o_box_vw rfl) ?_
    | refine wG_new (o_box_vp rfl) ?_
    | refine wG_new (o_box_nilS rfl) ?_
    | refine wG_new (o_box_str rfl) ?_
    | refine wG_new (o_box_fn rfl) ?_
    | refine wG_new (o_box_nilP rfl) ?_
    | refine wG_new (o_box_nilF rfl) ?_
    | refine wG_new (o_mks rfl rfl (by omega) (by decide)) ?_
    | refine wG_upd (o_st_agg rfl rfl rfl rfl rfl rfl rfl) ?_
    | refine wG_upd (o_st_int rfl rfl rfl rfl rfl rfl) ?_
    | refine wG_upd (o_st_bool rfl rfl rfl rfl rfl rfl) ?_
    | refine wG_upd (o_st_sl rfl rfl rfl rfl rfl rfl) ?_
    | refine wG_upd (o_st_pt rfl rfl rfl rfl rfl rfl) ?_
    | refine wG_upd (o_st_vw rfl rfl rfl rfl rfl rfl) ?_
    | refine wG_upd (o_st_vp rfl rfl rfl rfl rfl rfl) ?_
    | refine wG_upd (o_st_nilS rfl rfl rfl rfl rfl rfl) ?_
    | refine wG_upd (o_st_str rfl rfl rfl rfl rfl rfl) ?_
    | refine wG_upd (o_st_fn rfl rfl rfl rfl rfl rfl) ?_
    | refine wG_upd (o_st_nilP rfl rfl rfl rfl rfl rfl) ?_
    | refine wG_upd (o_st_nilF rfl rfl rfl rfl rfl rfl) ?_))
    unfold catA catE; rw [if_neg (fun h => hG h.1), if_neg (fun h => hG h.1), decide_eq_false (fun h => hG h.1)]
    refine ret_3 (.inr rfl) rfl rfl rfl ⟨_, _, _, retV_mv rfl, retV_mv rfl, retV_mv rfl, rfl, rfl, rfl⟩

open Classical in
theorem con24 (nn : Bool) (xs : List CP) (hlen : xs.length ≤ 1048576) (year : Int) : Con Try.prog 24 true [.vw nn (xs.map cpRow), .int .i64 year] (.tup [.int .i64 (catA xs year), .int .i64 (catE xs year), .bool (decide (Good xs ∧ inYears xs year))]) [] := by
  refine con_of_wp mixed fun24 (by simp) [] plain_nil ?_
  unfold ac24 ro24
  simp only [zipT]
  have c1 := con13 nn xs hlen
  by_cases hG : Good xs
  · rw [decide_eq_true hG] at c1
    have c2 := con48 nn xs hG
    have c4 := con38 year (yr xs 0) (yr xs (xs.length - 1))
    by_cases hY : inYears xs year
    · have c3 := con49 nn xs hG year hY
      rw [decide_eq_true (show yr xs 0 ≤ year ∧ year ≤ yr xs (xs.length - 1) from hY)] at c4
      repeat (first | refine wG_call c1 rfl rfl ?_ | refine wG_call c2 rfl rfl ?_ | refine wG_call c3 rfl rfl ?_ | refine wG_call c4 rfl rfl ?_ | (first
    | refine wC_seq ?_
    | refine wC_reg ?_
    | refine wC_dregq rfl ?_
    | refine wC_dregE ?_
    | refine wC_skip ?_
    | refine wC_blk ?_
    | refine wC_exit ?_
    | refine wC_ret ?_
    | refine q_seq_n ?_
    | refine q_seq_x ?_
    | refine q_seq_r ?_
    | refine q_blk_n ?_
    | refine q_blk_r ?_
    | refine q_blk_x ?_
    | refine q_blk_o rfl ?_
    | refine wG_nil ?_
    | refine wG_gy rfl ?_
    | refine wG_gn rfl rfl ?_
    | refine wC_cond_t rfl ?_
    | refine wC_cond_f rfl ?_
    | refine wG_pure (o_mv_int rfl) ?_
    | refine wG_pure (o_mv_bool rfl) ?_
    | refine wG_pure (o_mv_sl rfl) ?_
    | refine wG_pure (o_mv_pt rfl) ?_
    | refine wG_pure (o_mv_vw rfl) ?_
    | refine wG_pure (o_mv_vp rfl) ?_
    | refine wG_pure (o_mv_agg rfl) ?_
    | refine wG_pure (o_mv_nilS rfl) ?_
    | refine wG_pure (o_mv_str rfl) ?_
    | refine wG_pure (o_mv_fn rfl) ?_
    | refine wG_pure (o_mv_tup rfl) ?_
    | refine wG_pure (o_mv_nilP rfl) ?_
    | refine wG_pure (o_mv_nilF rfl) ?_
    | refine wG_pure (o_ldf_pt rfl rfl rfl rfl) ?_
    | refine wG_pure (o_ldt_pt rfl rfl rfl rfl rfl) ?_
    | refine wG_pure (o_ldf_vp rfl) ?_
    | refine wG_pure (o_ldt_vp rfl rfl rfl) ?_
    | refine wG_pure (o_fa_pt rfl) ?_
    | refine wG_pure (o_fa_vp rfl rfl) ?_
    | refine wG_pure (o_nck_pt rfl) ?_
    | refine wG_pure (o_nck_vp rfl) ?_
    | refine wG_pure (o_nck_fn rfl) ?_
    | refine wG_pure (e_ia_vwi rfl rfl (by omega) rfl) ?_
    | refine wG_pure (e_ia_vwn rfl rfl (by omega) (by omega) rfl) ?_
    | refine wG_pure (e_add rfl rfl (by omega) (by omega)) ?_
    | refine wG_pure (e_sub rfl rfl (by omega) (by omega)) ?_
    | refine wG_pure (e_mul rfl rfl (by omega) (by omega)) ?_
    | refine wG_pure (o_lss rfl rfl) ?_
    | refine wG_pure (o_leq rfl rfl) ?_
    | refine wG_pure (o_gtr rfl rfl) ?_
    | refine wG_pure (o_geq rfl rfl) ?_
    | refine wG_pure (o_eql rfl rfl) ?_
    | refine wG_pure (o_neq rfl rfl) ?_
    | refine wG_pure (o_not_d rfl) ?_
    | refine wG_pure (o_not rfl) ?_
    | refine wG_pure (o_beq rfl rfl) ?_
    | refine wG_pure (o_bne rfl rfl) ?_
    | refine wG_pure (o_pick_t_int rfl rfl) ?_
    | refine wG_pure (o_pick_f_int rfl rfl) ?_
    | refine wG_pure (o_pick_t_bool rfl rfl) ?_
    | refine wG_pure (o_pick_f_bool rfl rfl) ?_
    | refine wG_pure (o_build rfl) ?_
    | refine wG_pure (o_len_sl rfl) ?_
    | refine wG_pure (o_len_vwm rfl) ?_
    | refine wG_pure (o_len_vw rfl) ?_
    | refine wG_pure (o_len_nil rfl) ?_
    | refine wG_pure (o_slen rfl) ?_
    | refine wG_pure (o_fldf rfl rfl) ?_
    | refine wG_pure (o_fldt rfl rfl rfl) ?_
    | refine wG_pure (o_ext rfl rfl) ?_
    | refine wG_pure (o_mx rfl rfl) ?_
    | refine wG_pure (o_mn rfl rfl) ?_
    | refine wG_pure (o_neg rfl (by omega) (by omega)) ?_
    | refine wG_new (o_alloc) ?_
    | refine wG_new (o_box_agg rfl rfl) ?_
    | refine wG_new (o_box_int rfl) ?_
    | refine wG_new (o_box_bool rfl) ?_
    | refine wG_new (o_box_sl rfl) ?_
    | refine wG_new (o_box_pt rfl) ?_
    | refine wG_new (o_box_vw rfl) ?_
    | refine wG_new (o_box_vp rfl) ?_
    | refine wG_new (o_box_nilS rfl) ?_
    | refine wG_new (o_box_str rfl) ?_
    | refine wG_new (o_box_fn rfl) ?_
    | refine wG_new (o_box_nilP rfl) ?_
    | refine wG_new (o_box_nilF rfl) ?_
    | refine wG_new (o_mks rfl rfl (by omega) (by decide)) ?_
    | refine wG_upd (o_st_agg rfl rfl rfl rfl rfl rfl rfl) ?_
    | refine wG_upd (o_st_int rfl rfl rfl rfl rfl rfl) ?_
    | refine wG_upd (o_st_bool rfl rfl rfl rfl rfl rfl) ?_
    | refine wG_upd (o_st_sl rfl rfl rfl rfl rfl rfl) ?_
    | refine wG_upd (o_st_pt rfl rfl rfl rfl rfl rfl) ?_
    | refine wG_upd (o_st_vw rfl rfl rfl rfl rfl rfl) ?_
    | refine wG_upd (o_st_vp rfl rfl rfl rfl rfl rfl) ?_
    | refine wG_upd (o_st_nilS rfl rfl rfl rfl rfl rfl) ?_
    | refine wG_upd (o_st_str rfl rfl rfl rfl rfl rfl) ?_
    | refine wG_upd (o_st_fn rfl rfl rfl rfl rfl rfl) ?_
    | refine wG_upd (o_st_nilP rfl rfl rfl rfl rfl rfl) ?_
    | refine wG_upd (o_st_nilF rfl rfl rfl rfl rfl rfl) ?_))
      unfold catA catE
      rw [if_pos ⟨hG, hY⟩, if_pos ⟨hG, hY⟩, decide_eq_true ⟨hG, hY⟩]
      refine ret_3 (.inr rfl) rfl rfl rfl ⟨_, _, _, retV_mv rfl, retV_mv rfl, retV_mv rfl, rfl, rfl, rfl⟩
    · rw [decide_eq_false (show ¬ (yr xs 0 ≤ year ∧ year ≤ yr xs (xs.length - 1)) from hY)] at c4
      repeat (first | refine wG_call c1 rfl rfl ?_ | refine wG_call c2 rfl rfl ?_ | refine wG_call c4 rfl rfl ?_ | (first
    | refine wC_seq ?_
    | refine wC_reg ?_
    | refine wC_dregq rfl ?_
    | refine wC_dregE ?_
    | refine wC_skip ?_
    | refine wC_blk ?_
    | refine wC_exit ?_
    | refine wC_ret ?_
    | refine q_seq_n ?_
    | refine q_seq_x ?_
    | refine q_seq_r ?_
    | refine q_blk_n ?_
    | refine q_blk_r ?_
    | refine q_blk_x ?_
    | refine q_blk_o rfl ?_
    | refine wG_nil ?_
    | refine wG_gy rfl ?_
    | refine wG_gn rfl rfl ?_
    | refine wC_cond_t rfl ?_
    | refine wC_cond_f rfl ?_
    | refine wG_pure (o_mv_int rfl) ?_
    | refine wG_pure (o_mv_bool rfl) ?_
    | refine wG_pure (o_mv_sl rfl) ?_
    | refine wG_pure (o_mv_pt rfl) ?_
    | refine wG_pure (o_mv_vw rfl) ?_
    | refine wG_pure (o_mv_vp rfl) ?_
    | refine wG_pure (o_mv_agg rfl) ?_
    | refine wG_pure (o_mv_nilS rfl) ?_
    | refine wG_pure (o_mv_str rfl) ?_
    | refine wG_pure (o_mv_fn rfl) ?_
    | refine wG_pure (o_mv_tup rfl) ?_
    | refine wG_pure (o_mv_nilP rfl) ?_
    | refine wG_pure (o_mv_nilF rfl) ?_
    | refine wG_pure (o_ldf_pt rfl rfl rfl rfl) ?_
    | refine wG_pure (o_ldt_pt rfl rfl rfl rfl rfl) ?_
    | refine wG_pure (o_ldf_vp rfl) ?_
    | refine wG_pure (o_ldt_vp rfl rfl rfl) ?_
    | refine wG_pure (o_fa_pt rfl) ?_
    | refine wG_pure (o_fa_vp rfl rfl) ?_
    | refine wG_pure (o_nck_pt rfl) ?_
    | refine wG_pure (o_nck_vp rfl) ?_
    | refine wG_pure (o_nck_fn rfl) ?_
    | refine wG_pure (e_ia_vwi rfl rfl (by omega) rfl) ?_
    | refine wG_pure (e_ia_vwn rfl rfl (by omega) (by omega) rfl) ?_
    | refine wG_pure (e_add rfl rfl (by omega) (by omega)) ?_
    | refine wG_pure (e_sub rfl rfl (by omega) (by omega)) ?_
    | refine wG_pure (e_mul rfl rfl (by omega) (by omega)) ?_
    | refine wG_pure (o_lss rfl rfl) ?_
    | refine wG_pure (o_leq rfl rfl) ?_
    | refine wG_pure (o_gtr rfl rfl) ?_
    | refine wG_pure (o_geq rfl rfl) ?_
    | refine wG_pure (o_eql rfl rfl) ?_
    | refine wG_pure (o_neq rfl rfl) ?_
    | refine wG_pure (o_not_d rfl) ?_
    | refine wG_pure (o_not rfl) ?_
    | refine wG_pure (o_beq rfl rfl) ?_
    | refine wG_pure (o_bne rfl rfl) ?_
    | refine wG_pure (o_pick_t_int rfl rfl) ?_
    | refine wG_pure (o_pick_f_int rfl rfl) ?_
    | refine wG_pure (o_pick_t_bool rfl rfl) ?_
    | refine wG_pure (o_pick_f_bool rfl rfl) ?_
    | refine wG_pure (o_build rfl) ?_
    | refine wG_pure (o_len_sl rfl) ?_
    | refine wG_pure (o_len_vwm rfl) ?_
    | refine wG_pure (o_len_vw rfl) ?_
    | refine wG_pure (o_len_nil rfl) ?_
    | refine wG_pure (o_slen rfl) ?_
    | refine wG_pure (o_fldf rfl rfl) ?_
    | refine wG_pure (o_fldt rfl rfl rfl) ?_
    | refine wG_pure (o_ext rfl rfl) ?_
    | refine wG_pure (o_mx rfl rfl) ?_
    | refine wG_pure (o_mn rfl rfl) ?_
    | refine wG_pure (o_neg rfl (by omega) (by omega)) ?_
    | refine wG_new (o_alloc) ?_
    | refine wG_new (o_box_agg rfl rfl) ?_
    | refine wG_new (o_box_int rfl) ?_
    | refine wG_new (o_box_bool rfl) ?_
    | refine wG_new (o_box_sl rfl) ?_
    | refine wG_new (o_box_pt rfl) ?_
    | refine wG_new (o_box_vw rfl) ?_
    | refine wG_new (o_box_vp rfl) ?_
    | refine wG_new (o_box_nilS rfl) ?_
    | refine wG_new (o_box_str rfl) ?_
    | refine wG_new (o_box_fn rfl) ?_
    | refine wG_new (o_box_nilP rfl) ?_
    | refine wG_new (o_box_nilF rfl) ?_
    | refine wG_new (o_mks rfl rfl (by omega) (by decide)) ?_
    | refine wG_upd (o_st_agg rfl rfl rfl rfl rfl rfl rfl) ?_
    | refine wG_upd (o_st_int rfl rfl rfl rfl rfl rfl) ?_
    | refine wG_upd (o_st_bool rfl rfl rfl rfl rfl rfl) ?_
    | refine wG_upd (o_st_sl rfl rfl rfl rfl rfl rfl) ?_
    | refine wG_upd (o_st_pt rfl rfl rfl rfl rfl rfl) ?_
    | refine wG_upd (o_st_vw rfl rfl rfl rfl rfl rfl) ?_
    | refine wG_upd (o_st_vp rfl rfl rfl rfl rfl rfl) ?_
    | refine wG_upd (o_st_nilS rfl rfl rfl rfl rfl rfl) ?_
    | refine wG_upd (o_st_str rfl rfl rfl rfl rfl rfl) ?_
    | refine wG_upd (o_st_fn rfl rfl rfl rfl rfl rfl) ?_
    | refine wG_upd (o_st_nilP rfl rfl rfl rfl rfl rfl) ?_
    | refine wG_upd (o_st_nilF rfl rfl rfl rfl rfl rfl) ?_))
      unfold catA catE; rw [if_neg (fun h => hY h.2), if_neg (fun h => hY h.2), decide_eq_false (fun h => hY h.2)]
      refine ret_3 (.inr rfl) rfl rfl rfl ⟨_, _, _, retV_mv rfl, retV_mv rfl, retV_mv rfl, rfl, rfl, rfl⟩
  · rw [decide_eq_false hG] at c1
    repeat (first | refine wG_call c1 rfl rfl ?_ | (first
    | refine wC_seq ?_
    | refine wC_reg ?_
    | refine wC_dregq rfl ?_
    | refine wC_dregE ?_
    | refine wC_skip ?_
    | refine wC_blk ?_
    | refine wC_exit ?_
    | refine wC_ret ?_
    | refine q_seq_n ?_
    | refine q_seq_x ?_
    | refine q_seq_r ?_
    | refine q_blk_n ?_
    | refine q_blk_r ?_
    | refine q_blk_x ?_
    | refine q_blk_o rfl ?_
    | refine wG_nil ?_
    | refine wG_gy rfl ?_
    | refine wG_gn rfl rfl ?_
    | refine wC_cond_t rfl ?_
    | refine wC_cond_f rfl ?_
    | refine wG_pure (o_mv_int rfl) ?_
    | refine wG_pure (o_mv_bool rfl) ?_
    | refine wG_pure (o_mv_sl rfl) ?_
    | refine wG_pure (o_mv_pt rfl) ?_
    | refine wG_pure (o_mv_vw rfl) ?_
    | refine wG_pure (o_mv_vp rfl) ?_
    | refine wG_pure (o_mv_agg rfl) ?_
    | refine wG_pure (o_mv_nilS rfl) ?_
    | refine wG_pure (o_mv_str rfl) ?_
    | refine wG_pure (o_mv_fn rfl) ?_
    | refine wG_pure (o_mv_tup rfl) ?_
    | refine wG_pure (o_mv_nilP rfl) ?_
    | refine wG_pure (o_mv_nilF rfl) ?_
    | refine wG_pure (o_ldf_pt rfl rfl rfl rfl) ?_
    | refine wG_pure (o_ldt_pt rfl rfl rfl rfl rfl) ?_
    | refine wG_pure (o_ldf_vp rfl) ?_
    | refine wG_pure (o_ldt_vp rfl rfl rfl) ?_
    | refine wG_pure (o_fa_pt rfl) ?_
    | refine wG_pure (o_fa_vp rfl rfl) ?_
    | refine wG_pure (o_nck_pt rfl) ?_
    | refine wG_pure (o_nck_vp rfl) ?_
    | refine wG_pure (o_nck_fn rfl) ?_
    | refine wG_pure (e_ia_vwi rfl rfl (by omega) rfl) ?_
    | refine wG_pure (e_ia_vwn rfl rfl (by omega) (by omega) rfl) ?_
    | refine wG_pure (e_add rfl rfl (by omega) (by omega)) ?_
    | refine wG_pure (e_sub rfl rfl (by omega) (by omega)) ?_
    | refine wG_pure (e_mul rfl rfl (by omega) (by omega)) ?_
    | refine wG_pure (o_lss rfl rfl) ?_
    | refine wG_pure (o_leq rfl rfl) ?_
    | refine wG_pure (o_gtr rfl rfl) ?_
    | refine wG_pure (o_geq rfl rfl) ?_
    | refine wG_pure (o_eql rfl rfl) ?_
    | refine wG_pure (o_neq rfl rfl) ?_
    | refine wG_pure (o_not_d rfl) ?_
    | refine wG_pure (o_not rfl) ?_
    | refine wG_pure (o_beq rfl rfl) ?_
    | refine wG_pure (o_bne rfl rfl) ?_
    | refine wG_pure (o_pick_t_int rfl rfl) ?_
    | refine wG_pure (o_pick_f_int rfl rfl) ?_
    | refine wG_pure (o_pick_t_bool rfl rfl) ?_
    | refine wG_pure (o_pick_f_bool rfl rfl) ?_
    | refine wG_pure (o_build rfl) ?_
    | refine wG_pure (o_len_sl rfl) ?_
    | refine wG_pure (o_len_vwm rfl) ?_
    | refine wG_pure (o_len_vw rfl) ?_
    | refine wG_pure (o_len_nil rfl) ?_
    | refine wG_pure (o_slen rfl) ?_
    | refine wG_pure (o_fldf rfl rfl) ?_
    | refine wG_pure (o_fldt rfl rfl rfl) ?_
    | refine wG_pure (o_ext rfl rfl) ?_
    | refine wG_pure (o_mx rfl rfl) ?_
    | refine wG_pure (o_mn rfl rfl) ?_
    | refine wG_pure (o_neg rfl (by omega) (by omega)) ?_
    | refine wG_new (o_alloc) ?_
    | refine wG_new (o_box_agg rfl rfl) ?_
    | refine wG_new (o_box_int rfl) ?_
    | refine wG_new (o_box_bool rfl) ?_
    | refine wG_new (o_box_sl rfl) ?_
    | refine wG_new (o_box_pt rfl) ?_
    | refine wG_new (o_box_vw rfl) ?_
    | refine wG_new (o_box_vp rfl) ?_
    | refine wG_new (o_box_nilS rfl) ?_
    | refine wG_new (o_box_str rfl) ?_
    | refine wG_new (o_box_fn rfl) ?_
    | refine wG_new (o_box_nilP rfl) ?_
    | refine wG_new (o_box_nilF rfl) ?_
    | refine wG_new (o_mks rfl rfl (by omega) (by decide)) ?_
    | refine wG_upd (o_st_agg rfl rfl rfl rfl rfl rfl rfl) ?_
    | refine wG_upd (o_st_int rfl rfl rfl rfl rfl rfl) ?_
    | refine wG_upd (o_st_bool rfl rfl rfl rfl rfl rfl) ?_
    | refine wG_upd (o_st_sl rfl rfl rfl rfl rfl rfl) ?_
    | refine wG_upd (o_st_pt rfl rfl rfl rfl rfl rfl) ?_
    | refine wG_upd (o_st_vw rfl rfl rfl rfl rfl rfl) ?_
    | refine wG_upd (o_st_vp rfl rfl rfl rfl rfl rfl) ?_
    | refine wG_upd (o_st_nilS rfl rfl rfl rfl rfl rfl) ?_
    | refine wG_upd (o_st_str rfl rfl rfl rfl rfl rfl) ?_
    | refine wG_upd (o_st_fn rfl rfl rfl rfl rfl rfl) ?_
    | refine wG_upd (o_st_nilP rfl rfl rfl rfl rfl rfl) ?_
    | refine wG_upd (o_st_nilF rfl rfl rfl rfl rfl rfl) ?_))
    unfold catA catE; rw [if_neg (fun h => hG h.1), if_neg (fun h => hG h.1), decide_eq_false (fun h => hG h.1)]
    refine ret_3 (.inr rfl) rfl rfl rfl ⟨_, _, _, retV_mv rfl, retV_mv rfl, retV_mv rfl, rfl, rfl, rfl⟩

theorem con14_same (nn mm : Bool) (xs : List CP) (h1 : xs.length ≤ 1048576) : Con Try.prog 14 true [.vw nn (xs.map cpRow), .vw mm (xs.map cpRow)] (.bool true) [] := by
  have := con14 nn mm xs xs h1 h1
  rwa [decide_eq_true (by exact ⟨rfl, fun _ _ => ⟨rfl, rfl, rfl⟩⟩)] at this
open Classical in
theorem con6 (nn : Bool) (xs : List CP) (hlen : xs.length ≤ 9223372036854775807) (year : Int) : Con Try.prog 6 true [.vw nn (xs.map cpRow), .int .i64 year] (.bool true) [] := by
  refine con_of_wp mixed fun6 (by simp) [] plain_nil ?_
  unfold ac6 ro6
  simp only [zipT]
  have c10 := con10 nn xs hlen
  by_cases hs : xs.length ≤ 1048576
  · rw [if_pos hs] at c10
    have c1 := con23 true xs hs year
    have c2 := con24 true xs hs year
    repeat' (first | refine wG_call c10 rfl rfl ?_ | refine wG_call1 (con12 nn xs hs) rfl rfl ?_ | refine wG_call c1 (ag_sl rfl rfl rfl cp_plain (ag_int rfl ag_nil)) rfl ?_ | refine wG_call c2 (ag_sl rfl rfl rfl cp_plain (ag_int rfl ag_nil)) rfl ?_ | refine wG_call (con14_same true true xs hs) (ag_sl rfl rfl rfl cp_plain (ag_sl rfl rfl rfl cp_plain ag_nil)) rfl ?_ | simp only [ne_eq, not_true_eq_false, decide_false] | (first
    | refine wC_seq ?_
    | refine wC_reg ?_
    | refine wC_dregq rfl ?_
    | refine wC_dregE ?_
    | refine wC_skip ?_
    | refine wC_blk ?_
    | refine wC_exit ?_
    | refine wC_ret ?_
    | refine q_seq_n ?_
    | refine q_seq_x ?_
    | refine q_seq_r ?_
    | refine q_blk_n ?_
    | refine q_blk_r ?_
    | refine q_blk_x ?_
    | refine q_blk_o rfl ?_
    | refine wG_nil ?_
    | refine wG_gy rfl ?_
    | refine wG_gn rfl rfl ?_
    | refine wC_cond_t rfl ?_
    | refine wC_cond_f rfl ?_
    | refine wG_pure (o_mv_int rfl) ?_
    | refine wG_pure (o_mv_bool rfl) ?_
    | refine wG_pure (o_mv_sl rfl) ?_
    | refine wG_pure (o_mv_pt rfl) ?_
    | refine wG_pure (o_mv_vw rfl) ?_
    | refine wG_pure (o_mv_vp rfl) ?_
    | refine wG_pure (o_mv_agg rfl) ?_
    | refine wG_pure (o_mv_nilS rfl) ?_
    | refine wG_pure (o_mv_str rfl) ?_
    | refine wG_pure (o_mv_fn rfl) ?_
    | refine wG_pure (o_mv_tup rfl) ?_
    | refine wG_pure (o_mv_nilP rfl) ?_
    | refine wG_pure (o_mv_nilF rfl) ?_
    | refine wG_pure (o_ldf_pt rfl rfl rfl rfl) ?_
    | refine wG_pure (o_ldt_pt rfl rfl rfl rfl rfl) ?_
    | refine wG_pure (o_ldf_vp rfl) ?_
    | refine wG_pure (o_ldt_vp rfl rfl rfl) ?_
    | refine wG_pure (o_fa_pt rfl) ?_
    | refine wG_pure (o_fa_vp rfl rfl) ?_
    | refine wG_pure (o_nck_pt rfl) ?_
    | refine wG_pure (o_nck_vp rfl) ?_
    | refine wG_pure (o_nck_fn rfl) ?_
    | refine wG_pure (e_ia_vwi rfl rfl (by omega) rfl) ?_
    | refine wG_pure (e_ia_vwn rfl rfl (by omega) (by omega) rfl) ?_
    | refine wG_pure (e_add rfl rfl (by omega) (by omega)) ?_
    | refine wG_pure (e_sub rfl rfl (by omega) (by omega)) ?_
    | refine wG_pure (e_mul rfl rfl (by omega) (by omega)) ?_
    | refine wG_pure (o_lss rfl rfl) ?_
    | refine wG_pure (o_leq rfl rfl) ?_
    | refine wG_pure (o_gtr rfl rfl) ?_
    | refine wG_pure (o_geq rfl rfl) ?_
    | refine wG_pure (o_eql rfl rfl) ?_
    | refine wG_pure (o_neq rfl rfl) ?_
    | refine wG_pure (o_not_d rfl) ?_
    | refine wG_pure (o_not rfl) ?_
    | refine wG_pure (o_beq rfl rfl) ?_
    | refine wG_pure (o_bne rfl rfl) ?_
    | refine wG_pure (o_pick_t_int rfl rfl) ?_
    | refine wG_pure (o_pick_f_int rfl rfl) ?_
    | refine wG_pure (o_pick_t_bool rfl rfl) ?_
    | refine wG_pure (o_pick_f_bool rfl rfl) ?_
    | refine wG_pure (o_build rfl) ?_
    | refine wG_pure (o_len_sl rfl) ?_
    | refine wG_pure (o_len_vwm rfl) ?_
    | refine wG_pure (o_len_vw rfl) ?_
    | refine wG_pure (o_len_nil rfl) ?_
    | refine wG_pure (o_slen rfl) ?_
    | refine wG_pure (o_fldf rfl rfl) ?_
    | refine wG_pure (o_fldt rfl rfl rfl) ?_
    | refine wG_pure (o_ext rfl rfl) ?_
    | refine wG_pure (o_mx rfl rfl) ?_
    | refine wG_pure (o_mn rfl rfl) ?_
    | refine wG_pure (o_neg rfl (by omega) (by omega)) ?_
    | refine wG_new (o_alloc) ?_
    | refine wG_new (o_box_agg rfl rfl) ?_
    | refine wG_new (o_box_int rfl) ?_
    | refine wG_new (o_box_bool rfl) ?_
    | refine wG_new (o_box_sl rfl) ?_
    | refine wG_new (o_box_pt rfl) ?_
    | refine wG_new (o_box_vw rfl) ?_
    | refine wG_new (o_box_vp rfl) ?_
    | refine wG_new (o_box_nilS rfl) ?_
    | refine wG_new (o_box_str rfl) ?_
    | refine wG_new (o_box_fn rfl) ?_
    | refine wG_new (o_box_nilP rfl) ?_
    | refine wG_new (o_box_nilF rfl) ?_
    | refine wG_new (o_mks rfl rfl (by omega) (by decide)) ?_
    | refine wG_upd (o_st_agg rfl rfl rfl rfl rfl rfl rfl) ?_
    | refine wG_upd (o_st_int rfl rfl rfl rfl rfl rfl) ?_
    | refine wG_upd (o_st_bool rfl rfl rfl rfl rfl rfl) ?_
    | refine wG_upd (o_st_sl rfl rfl rfl rfl rfl rfl) ?_
    | refine wG_upd (o_st_pt rfl rfl rfl rfl rfl rfl) ?_
    | refine wG_upd (o_st_vw rfl rfl rfl rfl rfl rfl) ?_
    | refine wG_upd (o_st_vp rfl rfl rfl rfl rfl rfl) ?_
    | refine wG_upd (o_st_nilS rfl rfl rfl rfl rfl rfl) ?_
    | refine wG_upd (o_st_str rfl rfl rfl rfl rfl rfl) ?_
    | refine wG_upd (o_st_fn rfl rfl rfl rfl rfl rfl) ?_
    | refine wG_upd (o_st_nilP rfl rfl rfl rfl rfl rfl) ?_
    | refine wG_upd (o_st_nilF rfl rfl rfl rfl rfl rfl) ?_) | (refine wG_gd rfl (fun hgt => ?_) (fun hgf => ?_) <;> (first | simp only [eq_true hgt, decide_true] | simp only [eq_false hgf, decide_false])) | refine wC_cond_d rfl (fun hg => ?_) (fun hg => ?_))
    all_goals (first | (refine ret_boolE (.inr rfl) ⟨_, retV_mv rfl, rfl⟩) | (exfalso; omega))
  · rw [if_neg hs] at c10
    repeat (first | refine wG_call c10 rfl rfl ?_ | (first
    | refine wC_seq ?_
    | refine wC_reg ?_
    | refine wC_dregq rfl ?_
    | refine wC_dregE ?_
    | refine wC_skip ?_
    | refine wC_blk ?_
    | refine wC_exit ?_
    | refine wC_ret ?_
    | refine q_seq_n ?_
    | refine q_seq_x ?_
    | refine q_seq_r ?_
    | refine q_blk_n ?_
    | refine q_blk_r ?_
    | refine q_blk_x ?_
    | refine q_blk_o rfl ?_
    | refine wG_nil ?_
    | refine wG_gy rfl ?_
    | refine wG_gn rfl rfl ?_
    | refine wC_cond_t rfl ?_
    | refine wC_cond_f rfl ?_
    | refine wG_pure (o_mv_int rfl) ?_
    | refine wG_pure (o_mv_bool rfl) ?_
    | refine wG_pure (o_mv_sl rfl) ?_
    | refine wG_pure (o_mv_pt rfl) ?_
    | refine wG_pure (o_mv_vw rfl) ?_
    | refine wG_pure (o_mv_vp rfl) ?_
    | refine wG_pure (o_mv_agg rfl) ?_
    | refine wG_pure (o_mv_nilS rfl) ?_
    | refine wG_pure (o_mv_str rfl) ?_
    | refine wG_pure (o_mv_fn rfl) ?_
    | refine wG_pure (o_mv_tup rfl) ?_
    | refine wG_pure (o_mv_nilP rfl) ?_
    | refine wG_pure (o_mv_nilF rfl) ?_
    | refine wG_pure (o_ldf_pt rfl rfl rfl rfl) ?_
    | refine wG_pure (o_ldt_pt rfl rfl rfl rfl rfl) ?_
    | refine wG_pure (o_ldf_vp rfl) ?_
    | refine wG_pure (o_ldt_vp rfl rfl rfl) ?_
    | refine wG_pure (o_fa_pt rfl) ?_
    | refine wG_pure (o_fa_vp rfl rfl) ?_
    | refine wG_pure (o_nck_pt rfl) ?_
    | refine wG_pure (o_nck_vp rfl) ?_
    | refine wG_pure (o_nck_fn rfl) ?_
    | refine wG_pure (e_ia_vwi rfl rfl (by omega) rfl) ?_
    | refine wG_pure (e_ia_vwn rfl rfl (by omega) (by omega) rfl) ?_
    | refine wG_pure (e_add rfl rfl (by omega) (by omega)) ?_
    | refine wG_pure (e_sub rfl rfl (by omega) (by omega)) ?_
    | refine wG_pure (e_mul rfl rfl (by omega) (by omega)) ?_
    | refine wG_pure (o_lss rfl rfl) ?_
    | refine wG_pure (o_leq rfl rfl) ?_
    | refine wG_pure (o_gtr rfl rfl) ?_
    | refine wG_pure (o_geq rfl rfl) ?_
    | refine wG_pure (o_eql rfl rfl) ?_
    | refine wG_pure (o_neq rfl rfl) ?_
    | refine wG_pure (o_not_d rfl) ?_
    | refine wG_pure (o_not rfl) ?_
    | refine wG_pure (o_beq rfl rfl) ?_
    | refine wG_pure (o_bne rfl rfl) ?_
    | refine wG_pure (o_pick_t_int rfl rfl) ?_
    | refine wG_pure (o_pick_f_int rfl rfl) ?_
    | refine wG_pure (o_pick_t_bool rfl rfl) ?_
    | refine wG_pure (o_pick_f_bool rfl rfl) ?_
    | refine wG_pure (o_build rfl) ?_
    | refine wG_pure (o_len_sl rfl) ?_
    | refine wG_pure (o_len_vwm rfl) ?_
    | refine wG_pure (o_len_vw rfl) ?_
    | refine wG_pure (o_len_nil rfl) ?_
    | refine wG_pure (o_slen rfl) ?_
    | refine wG_pure (o_fldf rfl rfl) ?_
    | refine wG_pure (o_fldt rfl rfl rfl) ?_
    | refine wG_pure (o_ext rfl rfl) ?_
    | refine wG_pure (o_mx rfl rfl) ?_
    | refine wG_pure (o_mn rfl rfl) ?_
    | refine wG_pure (o_neg rfl (by omega) (by omega)) ?_
    | refine wG_new (o_alloc) ?_
    | refine wG_new (o_box_agg rfl rfl) ?_
    | refine wG_new (o_box_int rfl) ?_
    | refine wG_new (o_box_bool rfl) ?_
    | refine wG_new (o_box_sl rfl) ?_
    | refine wG_new (o_box_pt rfl) ?_
    | refine wG_new (o_box_vw rfl) ?_
    | refine wG_new (o_box_vp rfl) ?_
    | refine wG_new (o_box_nilS rfl) ?_
    | refine wG_new (o_box_str rfl) ?_
    | refine wG_new (o_box_fn rfl) ?_
    | refine wG_new (o_box_nilP rfl) ?_
    | refine wG_new (o_box_nilF rfl) ?_
    | refine wG_new (o_mks rfl rfl (by omega) (by decide)) ?_
    | refine wG_upd (o_st_agg rfl rfl rfl rfl rfl rfl rfl) ?_
    | refine wG_upd (o_st_int rfl rfl rfl rfl rfl rfl) ?_
    | refine wG_upd (o_st_bool rfl rfl rfl rfl rfl rfl) ?_
    | refine wG_upd (o_st_sl rfl rfl rfl rfl rfl rfl) ?_
    | refine wG_upd (o_st_pt rfl rfl rfl rfl rfl rfl) ?_
    | refine wG_upd (o_st_vw rfl rfl rfl rfl rfl rfl) ?_
    | refine wG_upd (o_st_vp rfl rfl rfl rfl rfl rfl) ?_
    | refine wG_upd (o_st_nilS rfl rfl rfl rfl rfl rfl) ?_
    | refine wG_upd (o_st_str rfl rfl rfl rfl rfl rfl) ?_
    | refine wG_upd (o_st_fn rfl rfl rfl rfl rfl rfl) ?_
    | refine wG_upd (o_st_nilP rfl rfl rfl rfl rfl rfl) ?_
    | refine wG_upd (o_st_nilF rfl rfl rfl rfl rfl rfl) ?_))
    refine ret_boolE (.inr rfl) ⟨_, retV_mv rfl, rfl⟩
end Go.Proofs.Ytkbgadipkihifaa
