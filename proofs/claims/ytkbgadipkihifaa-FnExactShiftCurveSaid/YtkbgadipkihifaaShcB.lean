/- A shifted curve: the walks of both sides where the arguments are good, and the body of the law. -/
import Derived.Test.YtkbgadipkihifaaShcA
namespace Go.Proofs.Ytkbgadipkihifaa.Shc
open Go Go.Proofs.Ytkbgadipkihifaa Go.Proofs.Ytkbgadipkihifaa.Ab Go.Proofs.Ytkbgadipkihifaa.Il Go.Proofs.Ytkbgadipkihifaa.Cts
attribute [local irreducible] wpO wpC wpDr wpQ wpG wpE stepA seqQ blkQ Ret ev
set_option maxRecDepth 10000
set_option maxHeartbeats 4000000
set_option linter.unusedSimpArgs false
set_option linter.unusedVariables false
def ac8 : AC := (.seq (.reg [⟨(some 6), none, (.mv (.c (.bool false)))⟩]) (.seq (.reg [⟨(some 7), none, (.mv (.c (.int .i64 1048576)))⟩]) (.seq (.reg [⟨(some 18), none, (.mv (.t 0))⟩, ⟨(some 19), none, (.mv (.t 7))⟩, ⟨(some 20), none, (.call 10 [(.t 18), (.t 19)])⟩, ⟨(some 7), none, (.mv (.t 20))⟩]) (.seq (.seq (.reg [⟨(some 21), none, (.mv (.t 7))⟩, ⟨(some 22), none, (.bin .lss (.t 21) (.c (.int .i64 0)))⟩]) (.cond (.t 22) (.seq (.reg [⟨(some 6), none, (.mv (.c (.bool true)))⟩]) .ret) .skip)) (.seq (.reg [⟨(some 24), none, (.mv (.t 0))⟩, ⟨(some 25), none, (.call 12 [(.t 24)])⟩, ⟨(some 26), none, (.mv (.t 1))⟩, ⟨(some 27), none, (.mv (.t 2))⟩, ⟨(some 28), none, (.call 31 [(.t 25), (.t 26), (.t 27)])⟩, ⟨(some 23), none, (.mv (.t 28))⟩, ⟨(some 29), none, (.ext (.t 23) 0)⟩, ⟨(some 30), none, (.ext (.t 23) 1)⟩, ⟨(some 8), none, (.mv (.t 29))⟩, ⟨(some 9), none, (.mv (.t 30))⟩]) (.seq (.reg [⟨(some 31), none, (.mv (.t 0))⟩, ⟨(some 32), none, (.call 12 [(.t 31)])⟩, ⟨(some 10), none, (.mv (.t 32))⟩]) (.seq (.reg [⟨(some 34), none, (.mv (.t 10))⟩, ⟨(some 35), none, (.mv (.t 1))⟩, ⟨(some 36), none, (.mv (.t 2))⟩, ⟨(some 37), none, (.call 32 [(.t 34), (.t 35), (.t 36)])⟩, ⟨(some 33), none, (.mv (.t 37))⟩, ⟨(some 38), none, (.ext (.t 33) 0)⟩, ⟨(some 39), none, (.ext (.t 33) 1)⟩, ⟨(some 11), none, (.mv (.t 38))⟩, ⟨(some 12), none, (.mv (.t 39))⟩]) (.seq (.seq (.reg [⟨(some 40), none, (.mv (.t 11))⟩, ⟨(some 41), none, (.mv (.t 8))⟩, ⟨(some 42), none, (.call 14 [(.t 40), (.t 41)])⟩, ⟨(some 43), none, (.un .not (.t 42))⟩, ⟨(some 44), none, (.mv (.t 43))⟩, ⟨(some 45), (some (44, false)), (.mv (.t 12))⟩, ⟨(some 46), (some (44, false)), (.mv (.t 9))⟩, ⟨(some 47), (some (44, false)), (.bool2 true (.t 45) (.t 46))⟩, ⟨(some 48), none, (.pick (.t 44) (.c (.bool true)) (.t 47))⟩]) (.cond (.t 48) (.seq (.reg [⟨(some 6), none, (.mv (.c (.bool false)))⟩]) .ret) .skip)) (.seq (.seq (.reg [⟨(some 49), none, (.mv (.t 10))⟩, ⟨(some 50), none, (.mv (.t 0))⟩, ⟨(some 51), none, (.call 12 [(.t 50)])⟩, ⟨(some 52), none, (.call 14 [(.t 49), (.t 51)])⟩, ⟨(some 53), none, (.un .not (.t 52))⟩]) (.cond (.t 53) (.seq (.reg [⟨(some 6), none, (.mv (.c (.bool false)))⟩]) .ret) .skip)) (.seq (.reg [⟨(some 13), none, (.mv (.c (.int .i64 1)))⟩]) (.seq (.reg [⟨(some 54), none, (.mv (.t 10))⟩, ⟨(some 55), none, (.mv (.t 13))⟩, ⟨(some 56), none, (.call 28 [(.t 54), (.t 55)])⟩, ⟨(some 13), none, (.mv (.t 56))⟩]) (.seq (.seq (.reg [⟨(some 57), none, (.mv (.t 13))⟩, ⟨(some 58), none, (.bin .lss (.t 57) (.c (.int .i64 0)))⟩, ⟨(some 59), none, (.mv (.t 58))⟩, ⟨(some 60), (some (59, false)), (.mv (.t 11))⟩, ⟨(some 61), (some (59, false)), (.mv (.t 8))⟩, ⟨(some 62), (some (59, false)), (.call 14 [(.t 60), (.t 61)])⟩, ⟨(some 63), (some (59, false)), (.un .not (.t 62))⟩, ⟨(some 64), none, (.pick (.t 59) (.c (.bool true)) (.t 63))⟩, ⟨(some 65), none, (.mv (.t 64))⟩, ⟨(some 66), (some (65, false)), (.mv (.t 12))⟩, ⟨(some 67), (some (65, false)), (.mv (.t 9))⟩, ⟨(some 68), (some (65, false)), (.bool2 true (.t 66) (.t 67))⟩, ⟨(some 69), none, (.pick (.t 65) (.c (.bool true)) (.t 68))⟩]) (.cond (.t 69) (.seq (.reg [⟨(some 6), none, (.mv (.c (.bool false)))⟩]) .ret) .skip)) (.seq (.reg [⟨(some 14), none, (.mv (.c (.int .i64 1)))⟩]) (.seq (.reg [⟨(some 70), none, (.mv (.t 11))⟩, ⟨(some 71), none, (.mv (.t 14))⟩, ⟨(some 72), none, (.call 28 [(.t 70), (.t 71)])⟩, ⟨(some 14), none, (.mv (.t 72))⟩]) (.seq (.reg [⟨(some 15), none, (.mv (.c (.int .i64 1)))⟩]) (.seq (.reg [⟨(some 73), none, (.mv (.t 11))⟩, ⟨(some 74), none, (.mv (.t 15))⟩, ⟨(some 75), none, (.call 33 [(.t 73), (.t 74)])⟩, ⟨(some 15), none, (.mv (.t 75))⟩]) (.seq (.seq (.reg [⟨(some 76), none, (.mv (.t 15))⟩, ⟨(some 77), none, (.bin .lss (.t 76) (.c (.int .i64 0)))⟩]) (.cond (.t 77) (.seq (.reg [⟨(some 6), none, (.mv (.c (.bool false)))⟩]) .ret) .skip)) (.seq (.seq (.reg [⟨(some 78), none, (.mv (.t 15))⟩, ⟨(some 79), none, (.mv (.t 14))⟩, ⟨(some 80), none, (.bin .neq (.t 78) (.t 79))⟩]) (.cond (.t 80) (.seq (.reg [⟨(some 6), none, (.mv (.c (.bool false)))⟩]) .ret) .skip)) (.seq (.reg [⟨(some 82), none, (.mv (.t 0))⟩, ⟨(some 83), none, (.call 12 [(.t 82)])⟩, ⟨(some 84), none, (.mv (.t 1))⟩, ⟨(some 85), none, (.mv (.t 2))⟩, ⟨(some 86), none, (.call 32 [(.t 83), (.t 84), (.t 85)])⟩, ⟨(some 81), none, (.mv (.t 86))⟩, ⟨(some 87), none, (.ext (.t 81) 0)⟩, ⟨(some 88), none, (.ext (.t 81) 1)⟩, ⟨(some 16), none, (.mv (.t 87))⟩, ⟨(some 17), none, (.mv (.t 88))⟩]) (.seq (.seq (.reg [⟨(some 89), none, (.mv (.t 16))⟩, ⟨(some 90), none, (.mv (.t 8))⟩, ⟨(some 91), none, (.call 14 [(.t 89), (.t 90)])⟩, ⟨(some 92), none, (.un .not (.t 91))⟩, ⟨(some 93), none, (.mv (.t 92))⟩, ⟨(some 94), (some (93, false)), (.mv (.t 17))⟩, ⟨(some 95), (some (93, false)), (.mv (.t 9))⟩, ⟨(some 96), (some (93, false)), (.bool2 true (.t 94) (.t 95))⟩, ⟨(some 97), none, (.pick (.t 93) (.c (.bool true)) (.t 96))⟩]) (.cond (.t 97) (.seq (.reg [⟨(some 6), none, (.mv (.c (.bool false)))⟩]) .ret) .skip)) (.seq (.reg [⟨(some 15), none, (.mv (.c (.int .i64 1)))⟩]) (.seq (.reg [⟨(some 98), none, (.mv (.t 11))⟩, ⟨(some 99), none, (.mv (.t 15))⟩, ⟨(some 100), none, (.call 33 [(.t 98), (.t 99)])⟩, ⟨(some 15), none, (.mv (.t 100))⟩]) (.seq (.seq (.reg [⟨(some 101), none, (.mv (.t 15))⟩, ⟨(some 102), none, (.bin .lss (.t 101) (.c (.int .i64 0)))⟩]) (.cond (.t 102) (.seq (.reg [⟨(some 6), none, (.mv (.c (.bool false)))⟩]) .ret) .skip)) (.seq (.seq (.reg [⟨(some 103), none, (.mv (.t 15))⟩, ⟨(some 104), none, (.mv (.t 14))⟩, ⟨(some 105), none, (.bin .neq (.t 103) (.t 104))⟩]) (.cond (.t 105) (.seq (.reg [⟨(some 6), none, (.mv (.c (.bool false)))⟩]) .ret) .skip)) (.seq (.reg [⟨(some 6), none, (.mv (.c (.bool true)))⟩]) .ret)))))))))))))))))))))))))
def ro8 : List AOp := [(.mv (.t 6))]
theorem fun8 : Fun Try.prog 8 106 ac8 ro8 := ⟨Try.f8, _, Try.func8, by kernel_rfl, rfl, rfl, by kernel_rfl, by kernel_rfl, by decide⟩

theorem shl_len (xs : List CP) (a e : Int) : (shl xs a e).length = xs.length := by simp [shl]
theorem con31_ok (nn : Bool) (xs : List CP) (hlen : xs.length ≤ 1048576) (a e : Int) (hG : Good xs) (hS : inS a e) (v : AV) (rs : List Nat) (objs : List Ab.Rows) (hv : v.nvf = true) (hp : PlainObjs objs)
    (hend : (Good (shl xs a e) → v = .tup [.sl 0 3 0 xs.length, .bool true] ∧ rs = [0] ∧ objs = [(shl xs a e).map cpRow]) ∧ (¬ Good (shl xs a e) → v = .tup [.sl 0 3 0 0, .bool false] ∧ rs = [1] ∧ objs = [[]])) : Con Try.prog 31 true [.vw nn (xs.map cpRow), .int .i64 a, .int .i64 e] v objs := by
  classical
  rw [← hv]
  refine con_of_wp mixed fun31 (by simp) rs hp ?_
  unfold ac31 ro31
  simp only [zipT]
  have c1 := con36 nn xs hlen
  rw [decide_eq_true hG] at c1
  have c2 := con50 a (-60000) 60000
  rw [decide_eq_true hS.1] at c2
  have c3 := con50 e (-1000) 1000
  rw [decide_eq_true hS.2] at c3
  have hS1 := hS.1
  have hS2 := hS.2
  have h2 := hG.1
  repeat (first | refine wG_call c1 rfl rfl ?_ | refine wG_call c2 rfl rfl ?_ | refine wG_call c3 rfl rfl ?_ | (first
    | refine wC_seq ?_
    | refine wC_reg ?_
    | refine wC_dregq rfl ?_
    | refine wC_dregE ?_
    | refine wC_skip ?_
    | refine wC_blk ?_
    | refine wC_exit ?_
    | refine wC_ret ?_
    | refine q_seq_n ?_
    | refine q_seq_x ?_
    | refine q_seq_r ?_
    | refine q_blk_n ?_
    | refine q_blk_r ?_
    | refine q_blk_x ?_
    | refine q_blk_o rfl ?_
    | refine wG_nil ?_
    | refine wG_gy rfl ?_
    | refine wG_gn rfl rfl ?_
    | refine wG_gu rfl ?_
    | refine wC_cond_t rfl ?_
    | refine wC_cond_f rfl ?_
    | refine wG_pure (o_mv rfl) ?_
    | refine wG_pure (o_pick_t rfl rfl) ?_
    | refine wG_pure (o_pick_f rfl rfl) ?_
    | refine wG_pure (o_ldf_pt rfl rfl rfl rfl) ?_
    | refine wG_pure (o_ldt_pt rfl rfl rfl rfl rfl) ?_
    | refine wG_pure (o_ldf_vp rfl) ?_
    | refine wG_pure (o_ldt_vp rfl rfl rfl) ?_
    | refine wG_pure (o_fa_pt rfl) ?_
    | refine wG_pure (o_fa_vp rfl rfl) ?_
    | refine wG_pure (o_nck_pt rfl) ?_
    | refine wG_pure (o_nck_vp rfl) ?_
    | refine wG_pure (o_nck_fn rfl) ?_
    | refine wG_pure (e_ia_vw0 rfl rfl (by omega) rfl) ?_
    | refine wG_pure (e_ia_vwp rfl rfl (by omega) rfl) ?_
    | refine wG_pure (e_ia_vwm rfl rfl (by omega) (by omega) rfl) ?_
    | refine wG_pure (e_ia_vwi rfl rfl (by omega) rfl) ?_
    | refine wG_pure (e_ia_vwn rfl rfl (by omega) (by omega) rfl) ?_
    | refine wG_pure (e_add rfl rfl (by omega) (by omega)) ?_
    | refine wG_pure (e_sub rfl rfl (by omega) (by omega)) ?_
    | refine wG_pure (e_mul rfl rfl (by omega) (by omega)) ?_
    | refine wG_pure (o_lss rfl rfl) ?_
    | refine wG_pure (o_leq rfl rfl) ?_
    | refine wG_pure (o_gtr rfl rfl) ?_
    | refine wG_pure (o_geq rfl rfl) ?_
    | refine wG_pure (o_eql rfl rfl) ?_
    | refine wG_pure (o_neq rfl rfl) ?_
    | refine wG_pure (o_not_d rfl) ?_
    | refine wG_pure (o_not rfl) ?_
    | refine wG_pure (o_beq rfl rfl) ?_
    | refine wG_pure (o_bne rfl rfl) ?_
    | refine wG_pure (o_build rfl) ?_
    | refine wG_pure (o_isnil_vw rfl rfl) ?_
    | refine wG_pure (o_isnil_sl rfl rfl) ?_
    | refine wG_pure (o_isnil_nil rfl rfl) ?_
    | refine wG_pure (o_len_sl rfl) ?_
    | refine wG_pure (o_len_vwm rfl) ?_
    | refine wG_pure (o_len_vw rfl) ?_
    | refine wG_pure (o_len_nil rfl) ?_
    | refine wG_pure (o_slen rfl) ?_
    | refine wG_pure (o_fldf rfl rfl) ?_
    | refine wG_pure (o_fldt rfl rfl rfl) ?_
    | refine wG_pure (o_ext rfl rfl) ?_
    | refine wG_pure (o_mx rfl rfl) ?_
    | refine wG_pure (o_mn rfl rfl) ?_
    | refine wG_pure (o_neg rfl (by omega) (by omega)) ?_
    | refine wG_new (o_alloc) ?_
    | refine wG_new (o_bsl rfl) ?_
    | refine wG_new (o_box_agg rfl rfl) ?_
    | refine wG_new (o_mks rfl rfl (by omega) (by decide)) ?_
    | refine wG_new (o_box1 rfl) ?_
    | refine wG_upd (o_st_agg rfl rfl rfl rfl rfl rfl rfl) ?_
    | refine wG_upd (o_st1 rfl rfl rfl rfl rfl rfl) ?_))
  refine wC_loopR Nat (fun i => ⟨[(0, .vw nn (xs.map cpRow)), (1, .int .i64 a), (2, .int .i64 e), (8, .sl 0 3 0 (shl (xs.take i) a e).length), (9, .int .i64 (i : Int))], [(0, some ((shl (xs.take i) a e).map cpRow))], 1⟩) (fun i => i ≤ xs.length) (fun i => xs.length - i) 0 (Nat.zero_le _) ⟨[0], ?_⟩ ?_
  · exact ⟨⟨⟨rfl, rfl⟩, ⟨rfl, rfl⟩, ⟨rfl, rfl⟩, ⟨rfl, rfl⟩, ⟨rfl, rfl⟩, trivial⟩, ⟨⟨⟨_, rfl, rfl⟩, Nat.zero_lt_one, ltrC _ _⟩, trivial⟩, rfl, by decide⟩
  intro i hi
  have hl : (shl (xs.take i) a e).length = i := by rw [shl_len, List.length_take]; omega
  repeat (first
    | refine wC_seq ?_
    | refine wC_reg ?_
    | refine wC_dregq rfl ?_
    | refine wC_dregE ?_
    | refine wC_skip ?_
    | refine wC_blk ?_
    | refine wC_exit ?_
    | refine wC_ret ?_
    | refine q_seq_n ?_
    | refine q_seq_x ?_
    | refine q_seq_r ?_
    | refine q_blk_n ?_
    | refine q_blk_r ?_
    | refine q_blk_x ?_
    | refine q_blk_o rfl ?_
    | refine wG_nil ?_
    | refine wG_gy rfl ?_
    | refine wG_gn rfl rfl ?_
    | refine wG_gu rfl ?_
    | refine wC_cond_t rfl ?_
    | refine wC_cond_f rfl ?_
    | refine wG_pure (o_mv rfl) ?_
    | refine wG_pure (o_pick_t rfl rfl) ?_
    | refine wG_pure (o_pick_f rfl rfl) ?_
    | refine wG_pure (o_ldf_pt rfl rfl rfl rfl) ?_
    | refine wG_pure (o_ldt_pt rfl rfl rfl rfl rfl) ?_
    | refine wG_pure (o_ldf_vp rfl) ?_
    | refine wG_pure (o_ldt_vp rfl rfl rfl) ?_
    | refine wG_pure (o_fa_pt rfl) ?_
    | refine wG_pure (o_fa_vp rfl rfl) ?_
    | refine wG_pure (o_nck_pt rfl) ?_
    | refine wG_pure (o_nck_vp rfl) ?_
    | refine wG_pure (o_nck_fn rfl) ?_
    | refine wG_pure (e_ia_vw0 rfl rfl (by omega) rfl) ?_
    | refine wG_pure (e_ia_vwp rfl rfl (by omega) rfl) ?_
    | refine wG_pure (e_ia_vwm rfl rfl (by omega) (by omega) rfl) ?_
    | refine wG_pure (e_ia_vwi rfl rfl (by omega) rfl) ?_
    | refine wG_pure (e_ia_vwn rfl rfl (by omega) (by omega) rfl) ?_
    | refine wG_pure (e_add rfl rfl (by omega) (by omega)) ?_
    | refine wG_pure (e_sub rfl rfl (by omega) (by omega)) ?_
    | refine wG_pure (e_mul rfl rfl (by omega) (by omega)) ?_
    | refine wG_pure (o_lss rfl rfl) ?_
    | refine wG_pure (o_leq rfl rfl) ?_
    | refine wG_pure (o_gtr rfl rfl) ?_
    | refine wG_pure (o_geq rfl rfl) ?_
    | refine wG_pure (o_eql rfl rfl) ?_
    | refine wG_pure (o_neq rfl rfl) ?_
    | refine wG_pure (o_not_d rfl) ?_
    | refine wG_pure (o_not rfl) ?_
    | refine wG_pure (o_beq rfl rfl) ?_
    | refine wG_pure (o_bne rfl rfl) ?_
    | refine wG_pure (o_build rfl) ?_
    | refine wG_pure (o_isnil_vw rfl rfl) ?_
    | refine wG_pure (o_isnil_sl rfl rfl) ?_
    | refine wG_pure (o_isnil_nil rfl rfl) ?_
    | refine wG_pure (o_len_sl rfl) ?_
    | refine wG_pure (o_len_vwm rfl) ?_
    | refine wG_pure (o_len_vw rfl) ?_
    | refine wG_pure (o_len_nil rfl) ?_
    | refine wG_pure (o_slen rfl) ?_
    | refine wG_pure (o_fldf rfl rfl) ?_
    | refine wG_pure (o_fldt rfl rfl rfl) ?_
    | refine wG_pure (o_ext rfl rfl) ?_
    | refine wG_pure (o_mx rfl rfl) ?_
    | refine wG_pure (o_mn rfl rfl) ?_
    | refine wG_pure (o_neg rfl (by omega) (by omega)) ?_
    | refine wG_new (o_alloc) ?_
    | refine wG_new (o_bsl rfl) ?_
    | refine wG_new (o_box_agg rfl rfl) ?_
    | refine wG_new (o_mks rfl rfl (by omega) (by decide)) ?_
    | refine wG_new (o_box1 rfl) ?_
    | refine wG_upd (o_st_agg rfl rfl rfl rfl rfl rfl rfl) ?_
    | refine wG_upd (o_st1 rfl rfl rfl rfl rfl rfl) ?_)
  refine wC_cond_d rfl (fun h3 => ?_) (fun h3 => ?_)
  · have hi2 : i < xs.length := by omega
    have hb := pt_b hG hi2
    repeat (first | refine wG_app rfl rfl (by simp) (rows_sl rfl rfl rfl) (by simp) (by simp; omega) (by decide) ?_ | (first
    | refine wC_seq ?_
    | refine wC_reg ?_
    | refine wC_dregq rfl ?_
    | refine wC_dregE ?_
    | refine wC_skip ?_
    | refine wC_blk ?_
    | refine wC_exit ?_
    | refine wC_ret ?_
    | refine q_seq_n ?_
    | refine q_seq_x ?_
    | refine q_seq_r ?_
    | refine q_blk_n ?_
    | refine q_blk_r ?_
    | refine q_blk_x ?_
    | refine q_blk_o rfl ?_
    | refine wG_nil ?_
    | refine wG_gy rfl ?_
    | refine wG_gn rfl rfl ?_
    | refine wG_gu rfl ?_
    | refine wC_cond_t rfl ?_
    | refine wC_cond_f rfl ?_
    | refine wG_pure (o_mv rfl) ?_
    | refine wG_pure (o_pick_t rfl rfl) ?_
    | refine wG_pure (o_pick_f rfl rfl) ?_
    | refine wG_pure (o_ldf_pt rfl rfl rfl rfl) ?_
    | refine wG_pure (o_ldt_pt rfl rfl rfl rfl rfl) ?_
    | refine wG_pure (o_ldf_vp rfl) ?_
    | refine wG_pure (o_ldt_vp rfl rfl rfl) ?_
    | refine wG_pure (o_fa_pt rfl) ?_
    | refine wG_pure (o_fa_vp rfl rfl) ?_
    | refine wG_pure (o_nck_pt rfl) ?_
    | refine wG_pure (o_nck_vp rfl) ?_
    | refine wG_pure (o_nck_fn rfl) ?_
    | refine wG_pure (e_ia_vw0 rfl rfl (by omega) rfl) ?_
    | refine wG_pure (e_ia_vwp rfl rfl (by omega) rfl) ?_
    | refine wG_pure (e_ia_vwm rfl rfl (by omega) (by omega) rfl) ?_
    | refine wG_pure (e_ia_vwi rfl rfl (by omega) rfl) ?_
    | refine wG_pure (e_ia_vwn rfl rfl (by omega) (by omega) rfl) ?_
    | refine wG_pure (e_add rfl rfl (by omega) (by omega)) ?_
    | refine wG_pure (e_sub rfl rfl (by omega) (by omega)) ?_
    | refine wG_pure (e_mul rfl rfl (by omega) (by omega)) ?_
    | refine wG_pure (o_lss rfl rfl) ?_
    | refine wG_pure (o_leq rfl rfl) ?_
    | refine wG_pure (o_gtr rfl rfl) ?_
    | refine wG_pure (o_geq rfl rfl) ?_
    | refine wG_pure (o_eql rfl rfl) ?_
    | refine wG_pure (o_neq rfl rfl) ?_
    | refine wG_pure (o_not_d rfl) ?_
    | refine wG_pure (o_not rfl) ?_
    | refine wG_pure (o_beq rfl rfl) ?_
    | refine wG_pure (o_bne rfl rfl) ?_
    | refine wG_pure (o_build rfl) ?_
    | refine wG_pure (o_isnil_vw rfl rfl) ?_
    | refine wG_pure (o_isnil_sl rfl rfl) ?_
    | refine wG_pure (o_isnil_nil rfl rfl) ?_
    | refine wG_pure (o_len_sl rfl) ?_
    | refine wG_pure (o_len_vwm rfl) ?_
    | refine wG_pure (o_len_vw rfl) ?_
    | refine wG_pure (o_len_nil rfl) ?_
    | refine wG_pure (o_slen rfl) ?_
    | refine wG_pure (o_fldf rfl rfl) ?_
    | refine wG_pure (o_fldt rfl rfl rfl) ?_
    | refine wG_pure (o_ext rfl rfl) ?_
    | refine wG_pure (o_mx rfl rfl) ?_
    | refine wG_pure (o_mn rfl rfl) ?_
    | refine wG_pure (o_neg rfl (by omega) (by omega)) ?_
    | refine wG_new (o_alloc) ?_
    | refine wG_new (o_bsl rfl) ?_
    | refine wG_new (o_box_agg rfl rfl) ?_
    | refine wG_new (o_mks rfl rfl (by omega) (by decide)) ?_
    | refine wG_new (o_box1 rfl) ?_
    | refine wG_upd (o_st_agg rfl rfl rfl rfl rfl rfl rfl) ?_
    | refine wG_upd (o_st1 rfl rfl rfl rfl rfl rfl) ?_))
    refine ⟨i + 1, hi2, by omega, [3], ?_⟩
    rw [take_shl hi2]
    refine ⟨⟨⟨rfl, rfl⟩, ⟨rfl, rfl⟩, ⟨rfl, rfl⟩, ⟨by simp [lk, rn, πof], rfl⟩, ⟨rfl, rfl⟩, trivial⟩, ⟨⟨⟨_, rfl, ?_⟩, Nat.zero_lt_one, ltrC _ _⟩, trivial⟩, rfl, by decide⟩
    rw [← rn_rows (cpP _), List.map_append]; rfl
  · have hi3 : i = xs.length := by omega
    subst hi3
    rw [List.take_length] at hl ⊢
    rw [hl]
    have c4 := con36 true (shl xs a e) (by rw [shl_len]; exact hlen)
    by_cases hg2 : Good (shl xs a e)
    · rw [decide_eq_true hg2] at c4
      obtain ⟨rfl, rfl, rfl⟩ := hend.1 hg2
      repeat (first | refine wG_call c4 (ag_sl rfl rfl hl.symm cp_plain ag_nil) rfl ?_ | (first
    | refine wC_seq ?_
    | refine wC_reg ?_
    | refine wC_dregq rfl ?_
    | refine wC_dregE ?_
    | refine wC_skip ?_
    | refine wC_blk ?_
    | refine wC_exit ?_
    | refine wC_ret ?_
    | refine q_seq_n ?_
    | refine q_seq_x ?_
    | refine q_seq_r ?_
    | refine q_blk_n ?_
    | refine q_blk_r ?_
    | refine q_blk_x ?_
    | refine q_blk_o rfl ?_
    | refine wG_nil ?_
    | refine wG_gy rfl ?_
    | refine wG_gn rfl rfl ?_
    | refine wG_gu rfl ?_
    | refine wC_cond_t rfl ?_
    | refine wC_cond_f rfl ?_
    | refine wG_pure (o_mv rfl) ?_
    | refine wG_pure (o_pick_t rfl rfl) ?_
    | refine wG_pure (o_pick_f rfl rfl) ?_
    | refine wG_pure (o_ldf_pt rfl rfl rfl rfl) ?_
    | refine wG_pure (o_ldt_pt rfl rfl rfl rfl rfl) ?_
    | refine wG_pure (o_ldf_vp rfl) ?_
    | refine wG_pure (o_ldt_vp rfl rfl rfl) ?_
    | refine wG_pure (o_fa_pt rfl) ?_
    | refine wG_pure (o_fa_vp rfl rfl) ?_
    | refine wG_pure (o_nck_pt rfl) ?_
    | refine wG_pure (o_nck_vp rfl) ?_
    | refine wG_pure (o_nck_fn rfl) ?_
    | refine wG_pure (e_ia_vw0 rfl rfl (by omega) rfl) ?_
    | refine wG_pure (e_ia_vwp rfl rfl (by omega) rfl) ?_
    | refine wG_pure (e_ia_vwm rfl rfl (by omega) (by omega) rfl) ?_
    | refine wG_pure (e_ia_vwi rfl rfl (by omega) rfl) ?_
    | refine wG_pure (e_ia_vwn rfl rfl (by omega) (by omega) rfl) ?_
    | refine wG_pure (e_add rfl rfl (by omega) (by omega)) ?_
    | refine wG_pure (e_sub rfl rfl (by omega) (by omega)) ?_
    | refine wG_pure (e_mul rfl rfl (by omega) (by omega)) ?_
    | refine wG_pure (o_lss rfl rfl) ?_
    | refine wG_pure (o_leq rfl rfl) ?_
    | refine wG_pure (o_gtr rfl rfl) ?_
    | refine wG_pure (o_geq rfl rfl) ?_
    | refine wG_pure (o_eql rfl rfl) ?_
    | refine wG_pure (o_neq rfl rfl) ?_
    | refine wG_pure (o_not_d rfl) ?_
    | refine wG_pure (o_not rfl) ?_
    | refine wG_pure (o_beq rfl rfl) ?_
    | refine wG_pure (o_bne rfl rfl) ?_
    | refine wG_pure (o_build rfl) ?_
    | refine wG_pure (o_isnil_vw rfl rfl) ?_
    | refine wG_pure (o_isnil_sl rfl rfl) ?_
    | refine wG_pure (o_isnil_nil rfl rfl) ?_
    | refine wG_pure (o_len_sl rfl) ?_
    | refine wG_pure (o_len_vwm rfl) ?_
    | refine wG_pure (o_len_vw rfl) ?_
    | refine wG_pure (o_len_nil rfl) ?_
    | refine wG_pure (o_slen rfl) ?_
    | refine wG_pure (o_fldf rfl rfl) ?_
    | refine wG_pure (o_fldt rfl rfl rfl) ?_
    | refine wG_pure (o_ext rfl rfl) ?_
    | refine wG_pure (o_mx rfl rfl) ?_
    | refine wG_pure (o_mn rfl rfl) ?_
    | refine wG_pure (o_neg rfl (by omega) (by omega)) ?_
    | refine wG_new (o_alloc) ?_
    | refine wG_new (o_bsl rfl) ?_
    | refine wG_new (o_box_agg rfl rfl) ?_
    | refine wG_new (o_mks rfl rfl (by omega) (by decide)) ?_
    | refine wG_new (o_box1 rfl) ?_
    | refine wG_upd (o_st_agg rfl rfl rfl rfl rfl rfl rfl) ?_
    | refine wG_upd (o_st1 rfl rfl rfl rfl rfl rfl) ?_))
      exact ret_sb (.inr rfl) rfl ⟨_, retV_mv rfl, retV_mv rfl, rfl⟩ rfl
    · rw [decide_eq_false hg2] at c4
      obtain ⟨rfl, rfl, rfl⟩ := hend.2 hg2
      repeat (first | refine wG_call c4 (ag_sl rfl rfl hl.symm cp_plain ag_nil) rfl ?_ | (first
    | refine wC_seq ?_
    | refine wC_reg ?_
    | refine wC_dregq rfl ?_
    | refine wC_dregE ?_
    | refine wC_skip ?_
    | refine wC_blk ?_
    | refine wC_exit ?_
    | refine wC_ret ?_
    | refine q_seq_n ?_
    | refine q_seq_x ?_
    | refine q_seq_r ?_
    | refine q_blk_n ?_
    | refine q_blk_r ?_
    | refine q_blk_x ?_
    | refine q_blk_o rfl ?_
    | refine wG_nil ?_
    | refine wG_gy rfl ?_
    | refine wG_gn rfl rfl ?_
    | refine wG_gu rfl ?_
    | refine wC_cond_t rfl ?_
    | refine wC_cond_f rfl ?_
    | refine wG_pure (o_mv rfl) ?_
    | refine wG_pure (o_pick_t rfl rfl) ?_
    | refine wG_pure (o_pick_f rfl rfl) ?_
    | refine wG_pure (o_ldf_pt rfl rfl rfl rfl) ?_
    | refine wG_pure (o_ldt_pt rfl rfl rfl rfl rfl) ?_
    | refine wG_pure (o_ldf_vp rfl) ?_
    | refine wG_pure (o_ldt_vp rfl rfl rfl) ?_
    | refine wG_pure (o_fa_pt rfl) ?_
    | refine wG_pure (o_fa_vp rfl rfl) ?_
    | refine wG_pure (o_nck_pt rfl) ?_
    | refine wG_pure (o_nck_vp rfl) ?_
    | refine wG_pure (o_nck_fn rfl) ?_
    | refine wG_pure (e_ia_vw0 rfl rfl (by omega) rfl) ?_
    | refine wG_pure (e_ia_vwp rfl rfl (by omega) rfl) ?_
    | refine wG_pure (e_ia_vwm rfl rfl (by omega) (by omega) rfl) ?_
    | refine wG_pure (e_ia_vwi rfl rfl (by omega) rfl) ?_
    | refine wG_pure (e_ia_vwn rfl rfl (by omega) (by omega) rfl) ?_
    | refine wG_pure (e_add rfl rfl (by omega) (by omega)) ?_
    | refine wG_pure (e_sub rfl rfl (by omega) (by omega)) ?_
    | refine wG_pure (e_mul rfl rfl (by omega) (by omega)) ?_
    | refine wG_pure (o_lss rfl rfl) ?_
    | refine wG_pure (o_leq rfl rfl) ?_
    | refine wG_pure (o_gtr rfl rfl) ?_
    | refine wG_pure (o_geq rfl rfl) ?_
    | refine wG_pure (o_eql rfl rfl) ?_
    | refine wG_pure (o_neq rfl rfl) ?_
    | refine wG_pure (o_not_d rfl) ?_
    | refine wG_pure (o_not rfl) ?_
    | refine wG_pure (o_beq rfl rfl) ?_
    | refine wG_pure (o_bne rfl rfl) ?_
    | refine wG_pure (o_build rfl) ?_
    | refine wG_pure (o_isnil_vw rfl rfl) ?_
    | refine wG_pure (o_isnil_sl rfl rfl) ?_
    | refine wG_pure (o_isnil_nil rfl rfl) ?_
    | refine wG_pure (o_len_sl rfl) ?_
    | refine wG_pure (o_len_vwm rfl) ?_
    | refine wG_pure (o_len_vw rfl) ?_
    | refine wG_pure (o_len_nil rfl) ?_
    | refine wG_pure (o_slen rfl) ?_
    | refine wG_pure (o_fldf rfl rfl) ?_
    | refine wG_pure (o_fldt rfl rfl rfl) ?_
    | refine wG_pure (o_ext rfl rfl) ?_
    | refine wG_pure (o_mx rfl rfl) ?_
    | refine wG_pure (o_mn rfl rfl) ?_
    | refine wG_pure (o_neg rfl (by omega) (by omega)) ?_
    | refine wG_new (o_alloc) ?_
    | refine wG_new (o_bsl rfl) ?_
    | refine wG_new (o_box_agg rfl rfl) ?_
    | refine wG_new (o_mks rfl rfl (by omega) (by decide)) ?_
    | refine wG_new (o_box1 rfl) ?_
    | refine wG_upd (o_st_agg rfl rfl rfl rfl rfl rfl rfl) ?_
    | refine wG_upd (o_st1 rfl rfl rfl rfl rfl rfl) ?_))
      exact ret_sb (.inr rfl) rfl ⟨_, retV_mv rfl, retV_mv rfl, rfl⟩ rfl

def mdl (xs : List CP) (a e : Int) (i : Nat) : List CP := shl (xs.take i) a e ++ xs.drop i
theorem mdl_len (xs : List CP) (a e : Int) (i : Nat) : (mdl xs a e i).length = xs.length := by simp [mdl, shl_len]; omega
theorem mdl_zero (xs : List CP) (a e : Int) : mdl xs a e 0 = xs := by simp [mdl, shl]
theorem mdl_end (xs : List CP) (a e : Int) : mdl xs a e xs.length = shl xs a e := by simp [mdl]
theorem mdl_set {xs : List CP} {a e : Int} {i : Nat} (h : i < xs.length) : (mdl xs a e i).set i (shp a e (xs.getD i default)) = mdl xs a e (i + 1) := by
  unfold mdl
  have hl : (shl (xs.take i) a e).length = i := by rw [shl_len, List.length_take]; omega
  rw [List.set_append_right _ _ (by omega), hl, Nat.sub_self, List.drop_eq_getElem_cons h, List.set_cons_zero, take_shl h, List.append_assoc]
  rfl
theorem mdl_get {xs : List CP} {a e : Int} {i : Nat} (h : i < xs.length) : ((mdl xs a e i).map cpRow)[i]? = some (cpRow (xs.getD i default)) := by
  unfold mdl
  have hl : ((shl (xs.take i) a e).map cpRow).length = i := by rw [List.length_map, shl_len, List.length_take]; omega
  rw [List.map_append, List.getElem?_append_right (by omega), hl, Nat.sub_self, List.drop_eq_getElem_cons h]
  simp [List.getD_eq_getElem?_getD, List.getElem?_eq_getElem h]
theorem con32_ok (xs : List CP) (hlen : xs.length ≤ 1048576) (a e : Int) (hG : Good xs) (hS : inS a e) (v : AV) (rs : List Nat) (objs : List Ab.Rows) (hv : v.nvf = true) (hp : PlainObjs objs)
    (hend : (Good (shl xs a e) → v = .tup [.sl 0 3 0 xs.length, .bool true] ∧ rs = [0] ∧ objs = [(shl xs a e).map cpRow]) ∧ (¬ Good (shl xs a e) → v = .tup [.nilS, .bool false] ∧ rs = [] ∧ objs = [])) : Con Try.prog 32 true [.vw true (xs.map cpRow), .int .i64 a, .int .i64 e] v objs := by
  classical
  suffices key : Con Try.prog 32 v.nvf [.vw true (xs.map cpRow), .int .i64 a, .int .i64 e] v objs by rwa [hv] at key
  refine con_of_wp mixed fun32 (by simp) rs hp ?_
  unfold ac32 ro32
  simp only [zipT]
  have c1 := con13 true xs hlen
  rw [decide_eq_true hG] at c1
  have c2 := con38 a (-60000) 60000
  rw [decide_eq_true hS.1] at c2
  have c3 := con38 e (-1000) 1000
  rw [decide_eq_true hS.2] at c3
  have hS1 := hS.1
  have hS2 := hS.2
  have h2 := hG.1
  have c5 := con51 xs hlen (by omega)
  repeat (first | refine wG_call c1 rfl rfl ?_ | refine wG_call c2 rfl rfl ?_ | refine wG_call c3 rfl rfl ?_ | refine wG_call1 c5 rfl rfl ?_ | (first
    | refine wC_seq ?_
    | refine wC_reg ?_
    | refine wC_dregq rfl ?_
    | refine wC_dregE ?_
    | refine wC_skip ?_
    | refine wC_blk ?_
    | refine wC_exit ?_
    | refine wC_ret ?_
    | refine q_seq_n ?_
    | refine q_seq_x ?_
    | refine q_seq_r ?_
    | refine q_blk_n ?_
    | refine q_blk_r ?_
    | refine q_blk_x ?_
    | refine q_blk_o rfl ?_
    | refine wG_nil ?_
    | refine wG_gy rfl ?_
    | refine wG_gn rfl rfl ?_
    | refine wG_gu rfl ?_
    | refine wC_cond_t rfl ?_
    | refine wC_cond_f rfl ?_
    | refine wG_pure (o_mv rfl) ?_
    | refine wG_pure (o_pick_t rfl rfl) ?_
    | refine wG_pure (o_pick_f rfl rfl) ?_
    | refine wG_pure (o_ldf_pt rfl rfl rfl rfl) ?_
    | refine wG_pure (o_ldt_pt rfl rfl rfl rfl rfl) ?_
    | refine wG_pure (o_ldf_vp rfl) ?_
    | refine wG_pure (o_ldt_vp rfl rfl rfl) ?_
    | refine wG_pure (o_fa_pt rfl) ?_
    | refine wG_pure (o_fa_vp rfl rfl) ?_
    | refine wG_pure (o_nck_pt rfl) ?_
    | refine wG_pure (o_nck_vp rfl) ?_
    | refine wG_pure (o_nck_fn rfl) ?_
    | refine wG_pure (e_ia_vw0 rfl rfl (by omega) rfl) ?_
    | refine wG_pure (e_ia_vwp rfl rfl (by omega) rfl) ?_
    | refine wG_pure (e_ia_vwm rfl rfl (by omega) (by omega) rfl) ?_
    | refine wG_pure (e_ia_vwi rfl rfl (by omega) rfl) ?_
    | refine wG_pure (e_ia_vwn rfl rfl (by omega) (by omega) rfl) ?_
    | refine wG_pure (e_add rfl rfl (by omega) (by omega)) ?_
    | refine wG_pure (e_sub rfl rfl (by omega) (by omega)) ?_
    | refine wG_pure (e_mul rfl rfl (by omega) (by omega)) ?_
    | refine wG_pure (o_lss rfl rfl) ?_
    | refine wG_pure (o_leq rfl rfl) ?_
    | refine wG_pure (o_gtr rfl rfl) ?_
    | refine wG_pure (o_geq rfl rfl) ?_
    | refine wG_pure (o_eql rfl rfl) ?_
    | refine wG_pure (o_neq rfl rfl) ?_
    | refine wG_pure (o_not_d rfl) ?_
    | refine wG_pure (o_not rfl) ?_
    | refine wG_pure (o_beq rfl rfl) ?_
    | refine wG_pure (o_bne rfl rfl) ?_
    | refine wG_pure (o_build rfl) ?_
    | refine wG_pure (o_isnil_vw rfl rfl) ?_
    | refine wG_pure (o_isnil_sl rfl rfl) ?_
    | refine wG_pure (o_isnil_nil rfl rfl) ?_
    | refine wG_pure (o_len_sl rfl) ?_
    | refine wG_pure (o_len_vwm rfl) ?_
    | refine wG_pure (o_len_vw rfl) ?_
    | refine wG_pure (o_len_nil rfl) ?_
    | refine wG_pure (o_slen rfl) ?_
    | refine wG_pure (o_fldf rfl rfl) ?_
    | refine wG_pure (o_fldt rfl rfl rfl) ?_
    | refine wG_pure (o_ext rfl rfl) ?_
    | refine wG_pure (o_mx rfl rfl) ?_
    | refine wG_pure (o_mn rfl rfl) ?_
    | refine wG_pure (o_neg rfl (by omega) (by omega)) ?_
    | refine wG_new (o_alloc) ?_
    | refine wG_new (o_bsl rfl) ?_
    | refine wG_new (o_box_agg rfl rfl) ?_
    | refine wG_new (o_mks rfl rfl (by omega) (by decide)) ?_
    | refine wG_new (o_box1 rfl) ?_
    | refine wG_upd (o_st_agg rfl rfl rfl rfl rfl rfl rfl) ?_
    | refine wG_upd (o_st1 rfl rfl rfl rfl rfl rfl) ?_))
  refine wC_loop Nat (fun i => ⟨[(0, .vw true (xs.map cpRow)), (1, .int .i64 a), (2, .int .i64 e), (8, .sl 0 3 0 xs.length), (26, .int .i64 (xs.length : Int)), (27, .int .i64 (i : Int))], [(0, some ((mdl xs a e i).map cpRow))], 1⟩) (fun i => i ≤ xs.length) (fun i => xs.length - i) 0 (Nat.zero_le _) ?_ (fun _ _ => Nat.zero_le _) ?_
  · refine ⟨⟨⟨rfl, rfl⟩, ⟨rfl, rfl⟩, ⟨rfl, rfl⟩, ⟨rfl, rfl⟩, ⟨rfl, rfl⟩, ⟨rfl, rfl⟩, trivial⟩, ⟨?_, Nat.zero_lt_one, ltrC _ _⟩, trivial⟩
    rw [mdl_zero]; rfl
  intro i hi
  have hml := mdl_len xs a e i
  repeat (first
    | refine wC_seq ?_
    | refine wC_reg ?_
    | refine wC_dregq rfl ?_
    | refine wC_dregE ?_
    | refine wC_skip ?_
    | refine wC_blk ?_
    | refine wC_exit ?_
    | refine wC_ret ?_
    | refine q_seq_n ?_
    | refine q_seq_x ?_
    | refine q_seq_r ?_
    | refine q_blk_n ?_
    | refine q_blk_r ?_
    | refine q_blk_x ?_
    | refine q_blk_o rfl ?_
    | refine wG_nil ?_
    | refine wG_gy rfl ?_
    | refine wG_gn rfl rfl ?_
    | refine wG_gu rfl ?_
    | refine wC_cond_t rfl ?_
    | refine wC_cond_f rfl ?_
    | refine wG_pure (o_mv rfl) ?_
    | refine wG_pure (o_pick_t rfl rfl) ?_
    | refine wG_pure (o_pick_f rfl rfl) ?_
    | refine wG_pure (o_ldf_pt rfl rfl rfl rfl) ?_
    | refine wG_pure (o_ldt_pt rfl rfl rfl rfl rfl) ?_
    | refine wG_pure (o_ldf_vp rfl) ?_
    | refine wG_pure (o_ldt_vp rfl rfl rfl) ?_
    | refine wG_pure (o_fa_pt rfl) ?_
    | refine wG_pure (o_fa_vp rfl rfl) ?_
    | refine wG_pure (o_nck_pt rfl) ?_
    | refine wG_pure (o_nck_vp rfl) ?_
    | refine wG_pure (o_nck_fn rfl) ?_
    | refine wG_pure (e_ia_vw0 rfl rfl (by omega) rfl) ?_
    | refine wG_pure (e_ia_vwp rfl rfl (by omega) rfl) ?_
    | refine wG_pure (e_ia_vwm rfl rfl (by omega) (by omega) rfl) ?_
    | refine wG_pure (e_ia_vwi rfl rfl (by omega) rfl) ?_
    | refine wG_pure (e_ia_vwn rfl rfl (by omega) (by omega) rfl) ?_
    | refine wG_pure (e_add rfl rfl (by omega) (by omega)) ?_
    | refine wG_pure (e_sub rfl rfl (by omega) (by omega)) ?_
    | refine wG_pure (e_mul rfl rfl (by omega) (by omega)) ?_
    | refine wG_pure (o_lss rfl rfl) ?_
    | refine wG_pure (o_leq rfl rfl) ?_
    | refine wG_pure (o_gtr rfl rfl) ?_
    | refine wG_pure (o_geq rfl rfl) ?_
    | refine wG_pure (o_eql rfl rfl) ?_
    | refine wG_pure (o_neq rfl rfl) ?_
    | refine wG_pure (o_not_d rfl) ?_
    | refine wG_pure (o_not rfl) ?_
    | refine wG_pure (o_beq rfl rfl) ?_
    | refine wG_pure (o_bne rfl rfl) ?_
    | refine wG_pure (o_build rfl) ?_
    | refine wG_pure (o_isnil_vw rfl rfl) ?_
    | refine wG_pure (o_isnil_sl rfl rfl) ?_
    | refine wG_pure (o_isnil_nil rfl rfl) ?_
    | refine wG_pure (o_len_sl rfl) ?_
    | refine wG_pure (o_len_vwm rfl) ?_
    | refine wG_pure (o_len_vw rfl) ?_
    | refine wG_pure (o_len_nil rfl) ?_
    | refine wG_pure (o_slen rfl) ?_
    | refine wG_pure (o_fldf rfl rfl) ?_
    | refine wG_pure (o_fldt rfl rfl rfl) ?_
    | refine wG_pure (o_ext rfl rfl) ?_
    | refine wG_pure (o_mx rfl rfl) ?_
    | refine wG_pure (o_mn rfl rfl) ?_
    | refine wG_pure (o_neg rfl (by omega) (by omega)) ?_
    | refine wG_new (o_alloc) ?_
    | refine wG_new (o_bsl rfl) ?_
    | refine wG_new (o_box_agg rfl rfl) ?_
    | refine wG_new (o_mks rfl rfl (by omega) (by decide)) ?_
    | refine wG_new (o_box1 rfl) ?_
    | refine wG_upd (o_st_agg rfl rfl rfl rfl rfl rfl rfl) ?_
    | refine wG_upd (o_st1 rfl rfl rfl rfl rfl rfl) ?_)
  refine wC_cond_d rfl (fun h3 => ?_) (fun h3 => ?_)
  · have hi2 : i < xs.length := by omega
    have hb := pt_b hG hi2
    have e0 : 0 + ((i : Int)).toNat = i := by simp
    have hge := mdl_get (a := a) (e := e) hi2
    have hgs : ∀ (rw : List AV) (rows : List (List AV)), rows.length = xs.length → (rows.set i rw)[i]? = some rw := by
      intro rw rows hl
      rw [List.getElem?_set_self (by omega)]
    repeat (first
    | refine wC_seq ?_
    | refine wC_reg ?_
    | refine wC_dregq rfl ?_
    | refine wC_dregE ?_
    | refine wC_skip ?_
    | refine wC_blk ?_
    | refine wC_exit ?_
    | refine wC_ret ?_
    | refine q_seq_n ?_
    | refine q_seq_x ?_
    | refine q_seq_r ?_
    | refine q_blk_n ?_
    | refine q_blk_r ?_
    | refine q_blk_x ?_
    | refine q_blk_o rfl ?_
    | refine wG_nil ?_
    | refine wG_gy rfl ?_
    | refine wG_gn rfl rfl ?_
    | refine wG_gu rfl ?_
    | refine wC_cond_t rfl ?_
    | refine wC_cond_f rfl ?_
    | refine wG_pure (o_mv rfl) ?_
    | refine wG_pure (o_pick_t rfl rfl) ?_
    | refine wG_pure (o_pick_f rfl rfl) ?_
    | refine wG_pure (o_ldf_pt rfl rfl rfl rfl) ?_
    | refine wG_pure (o_ldt_pt rfl rfl rfl rfl rfl) ?_
    | refine wG_pure (o_ldf_vp rfl) ?_
    | refine wG_pure (o_ldt_vp rfl rfl rfl) ?_
    | refine wG_pure (o_fa_pt rfl) ?_
    | refine wG_pure (o_fa_vp rfl rfl) ?_
    | refine wG_pure (o_nck_pt rfl) ?_
    | refine wG_pure (o_nck_vp rfl) ?_
    | refine wG_pure (o_nck_fn rfl) ?_
    | refine wG_pure (e_ia_vw0 rfl rfl (by omega) rfl) ?_
    | refine wG_pure (e_ia_vwp rfl rfl (by omega) rfl) ?_
    | refine wG_pure (e_ia_vwm rfl rfl (by omega) (by omega) rfl) ?_
    | refine wG_pure (e_ia_vwi rfl rfl (by omega) rfl) ?_
    | refine wG_pure (e_ia_vwn rfl rfl (by omega) (by omega) rfl) ?_
    | refine wG_pure (e_add rfl rfl (by omega) (by omega)) ?_
    | refine wG_pure (e_sub rfl rfl (by omega) (by omega)) ?_
    | refine wG_pure (e_mul rfl rfl (by omega) (by omega)) ?_
    | refine wG_pure (o_lss rfl rfl) ?_
    | refine wG_pure (o_leq rfl rfl) ?_
    | refine wG_pure (o_gtr rfl rfl) ?_
    | refine wG_pure (o_geq rfl rfl) ?_
    | refine wG_pure (o_eql rfl rfl) ?_
    | refine wG_pure (o_neq rfl rfl) ?_
    | refine wG_pure (o_not_d rfl) ?_
    | refine wG_pure (o_not rfl) ?_
    | refine wG_pure (o_beq rfl rfl) ?_
    | refine wG_pure (o_bne rfl rfl) ?_
    | refine wG_pure (o_build rfl) ?_
    | refine wG_pure (o_isnil_vw rfl rfl) ?_
    | refine wG_pure (o_isnil_sl rfl rfl) ?_
    | refine wG_pure (o_isnil_nil rfl rfl) ?_
    | refine wG_pure (o_len_sl rfl) ?_
    | refine wG_pure (o_len_vwm rfl) ?_
    | refine wG_pure (o_len_vw rfl) ?_
    | refine wG_pure (o_len_nil rfl) ?_
    | refine wG_pure (o_slen rfl) ?_
    | refine wG_pure (o_fldf rfl rfl) ?_
    | refine wG_pure (o_fldt rfl rfl rfl) ?_
    | refine wG_pure (o_ext rfl rfl) ?_
    | refine wG_pure (o_mx rfl rfl) ?_
    | refine wG_pure (o_mn rfl rfl) ?_
    | refine wG_pure (o_neg rfl (by omega) (by omega)) ?_
    | refine wG_new (o_alloc) ?_
    | refine wG_new (o_bsl rfl) ?_
    | refine wG_new (o_box_agg rfl rfl) ?_
    | refine wG_new (o_mks rfl rfl (by omega) (by decide)) ?_
    | refine wG_new (o_box1 rfl) ?_
    | refine wG_upd (o_st_agg rfl rfl rfl rfl rfl rfl rfl) ?_
    | refine wG_upd (o_st1 rfl rfl rfl rfl rfl rfl) ?_)
    refine wG_pure (e_ia_sl rfl rfl (by omega) (by omega)) ?_
    simp only [e0]
    repeat (first | refine wG_pure (o_ldf_pt rfl rfl hge rfl) ?_ | (first
    | refine wC_seq ?_
    | refine wC_reg ?_
    | refine wC_dregq rfl ?_
    | refine wC_dregE ?_
    | refine wC_skip ?_
    | refine wC_blk ?_
    | refine wC_exit ?_
    | refine wC_ret ?_
    | refine q_seq_n ?_
    | refine q_seq_x ?_
    | refine q_seq_r ?_
    | refine q_blk_n ?_
    | refine q_blk_r ?_
    | refine q_blk_x ?_
    | refine q_blk_o rfl ?_
    | refine wG_nil ?_
    | refine wG_gy rfl ?_
    | refine wG_gn rfl rfl ?_
    | refine wG_gu rfl ?_
    | refine wC_cond_t rfl ?_
    | refine wC_cond_f rfl ?_
    | refine wG_pure (o_mv rfl) ?_
    | refine wG_pure (o_pick_t rfl rfl) ?_
    | refine wG_pure (o_pick_f rfl rfl) ?_
    | refine wG_pure (o_ldf_pt rfl rfl rfl rfl) ?_
    | refine wG_pure (o_ldt_pt rfl rfl rfl rfl rfl) ?_
    | refine wG_pure (o_ldf_vp rfl) ?_
    | refine wG_pure (o_ldt_vp rfl rfl rfl) ?_
    | refine wG_pure (o_fa_pt rfl) ?_
    | refine wG_pure (o_fa_vp rfl rfl) ?_
    | refine wG_pure (o_nck_pt rfl) ?_
    | refine wG_pure (o_nck_vp rfl) ?_
    | refine wG_pure (o_nck_fn rfl) ?_
    | refine wG_pure (e_ia_vw0 rfl rfl (by omega) rfl) ?_
    | refine wG_pure (e_ia_vwp rfl rfl (by omega) rfl) ?_
    | refine wG_pure (e_ia_vwm rfl rfl (by omega) (by omega) rfl) ?_
    | refine wG_pure (e_ia_vwi rfl rfl (by omega) rfl) ?_
    | refine wG_pure (e_ia_vwn rfl rfl (by omega) (by omega) rfl) ?_
    | refine wG_pure (e_add rfl rfl (by omega) (by omega)) ?_
    | refine wG_pure (e_sub rfl rfl (by omega) (by omega)) ?_
    | refine wG_pure (e_mul rfl rfl (by omega) (by omega)) ?_
    | refine wG_pure (o_lss rfl rfl) ?_
    | refine wG_pure (o_leq rfl rfl) ?_
    | refine wG_pure (o_gtr rfl rfl) ?_
    | refine wG_pure (o_geq rfl rfl) ?_
    | refine wG_pure (o_eql rfl rfl) ?_
    | refine wG_pure (o_neq rfl rfl) ?_
    | refine wG_pure (o_not_d rfl) ?_
    | refine wG_pure (o_not rfl) ?_
    | refine wG_pure (o_beq rfl rfl) ?_
    | refine wG_pure (o_bne rfl rfl) ?_
    | refine wG_pure (o_build rfl) ?_
    | refine wG_pure (o_isnil_vw rfl rfl) ?_
    | refine wG_pure (o_isnil_sl rfl rfl) ?_
    | refine wG_pure (o_isnil_nil rfl rfl) ?_
    | refine wG_pure (o_len_sl rfl) ?_
    | refine wG_pure (o_len_vwm rfl) ?_
    | refine wG_pure (o_len_vw rfl) ?_
    | refine wG_pure (o_len_nil rfl) ?_
    | refine wG_pure (o_slen rfl) ?_
    | refine wG_pure (o_fldf rfl rfl) ?_
    | refine wG_pure (o_fldt rfl rfl rfl) ?_
    | refine wG_pure (o_ext rfl rfl) ?_
    | refine wG_pure (o_mx rfl rfl) ?_
    | refine wG_pure (o_mn rfl rfl) ?_
    | refine wG_pure (o_neg rfl (by omega) (by omega)) ?_
    | refine wG_new (o_alloc) ?_
    | refine wG_new (o_bsl rfl) ?_
    | refine wG_new (o_box_agg rfl rfl) ?_
    | refine wG_new (o_mks rfl rfl (by omega) (by decide)) ?_
    | refine wG_new (o_box1 rfl) ?_
    | refine wG_upd (o_st_agg rfl rfl rfl rfl rfl rfl rfl) ?_
    | refine wG_upd (o_st1 rfl rfl rfl rfl rfl rfl) ?_))
    refine wG_pure (e_ia_sl rfl rfl (by omega) (by omega)) ?_
    simp only [e0]
    repeat (first | refine wG_upd (o_st_int rfl rfl hge rfl rfl rfl) ?_ | (first
    | refine wC_seq ?_
    | refine wC_reg ?_
    | refine wC_dregq rfl ?_
    | refine wC_dregE ?_
    | refine wC_skip ?_
    | refine wC_blk ?_
    | refine wC_exit ?_
    | refine wC_ret ?_
    | refine q_seq_n ?_
    | refine q_seq_x ?_
    | refine q_seq_r ?_
    | refine q_blk_n ?_
    | refine q_blk_r ?_
    | refine q_blk_x ?_
    | refine q_blk_o rfl ?_
    | refine wG_nil ?_
    | refine wG_gy rfl ?_
    | refine wG_gn rfl rfl ?_
    | refine wG_gu rfl ?_
    | refine wC_cond_t rfl ?_
    | refine wC_cond_f rfl ?_
    | refine wG_pure (o_mv rfl) ?_
    | refine wG_pure (o_pick_t rfl rfl) ?_
    | refine wG_pure (o_pick_f rfl rfl) ?_
    | refine wG_pure (o_ldf_pt rfl rfl rfl rfl) ?_
    | refine wG_pure (o_ldt_pt rfl rfl rfl rfl rfl) ?_
    | refine wG_pure (o_ldf_vp rfl) ?_
    | refine wG_pure (o_ldt_vp rfl rfl rfl) ?_
    | refine wG_pure (o_fa_pt rfl) ?_
    | refine wG_pure (o_fa_vp rfl rfl) ?_
    | refine wG_pure (o_nck_pt rfl) ?_
    | refine wG_pure (o_nck_vp rfl) ?_
    | refine wG_pure (o_nck_fn rfl) ?_
    | refine wG_pure (e_ia_vw0 rfl rfl (by omega) rfl) ?_
    | refine wG_pure (e_ia_vwp rfl rfl (by omega) rfl) ?_
    | refine wG_pure (e_ia_vwm rfl rfl (by omega) (by omega) rfl) ?_
    | refine wG_pure (e_ia_vwi rfl rfl (by omega) rfl) ?_
    | refine wG_pure (e_ia_vwn rfl rfl (by omega) (by omega) rfl) ?_
    | refine wG_pure (e_add rfl rfl (by omega) (by omega)) ?_
    | refine wG_pure (e_sub rfl rfl (by omega) (by omega)) ?_
    | refine wG_pure (e_mul rfl rfl (by omega) (by omega)) ?_
    | refine wG_pure (o_lss rfl rfl) ?_
    | refine wG_pure (o_leq rfl rfl) ?_
    | refine wG_pure (o_gtr rfl rfl) ?_
    | refine wG_pure (o_geq rfl rfl) ?_
    | refine wG_pure (o_eql rfl rfl) ?_
    | refine wG_pure (o_neq rfl rfl) ?_
    | refine wG_pure (o_not_d rfl) ?_
    | refine wG_pure (o_not rfl) ?_
    | refine wG_pure (o_beq rfl rfl) ?_
    | refine wG_pure (o_bne rfl rfl) ?_
    | refine wG_pure (o_build rfl) ?_
    | refine wG_pure (o_isnil_vw rfl rfl) ?_
    | refine wG_pure (o_isnil_sl rfl rfl) ?_
    | refine wG_pure (o_isnil_nil rfl rfl) ?_
    | refine wG_pure (o_len_sl rfl) ?_
    | refine wG_pure (o_len_vwm rfl) ?_
    | refine wG_pure (o_len_vw rfl) ?_
    | refine wG_pure (o_len_nil rfl) ?_
    | refine wG_pure (o_slen rfl) ?_
    | refine wG_pure (o_fldf rfl rfl) ?_
    | refine wG_pure (o_fldt rfl rfl rfl) ?_
    | refine wG_pure (o_ext rfl rfl) ?_
    | refine wG_pure (o_mx rfl rfl) ?_
    | refine wG_pure (o_mn rfl rfl) ?_
    | refine wG_pure (o_neg rfl (by omega) (by omega)) ?_
    | refine wG_new (o_alloc) ?_
    | refine wG_new (o_bsl rfl) ?_
    | refine wG_new (o_box_agg rfl rfl) ?_
    | refine wG_new (o_mks rfl rfl (by omega) (by decide)) ?_
    | refine wG_new (o_box1 rfl) ?_
    | refine wG_upd (o_st_agg rfl rfl rfl rfl rfl rfl rfl) ?_
    | refine wG_upd (o_st1 rfl rfl rfl rfl rfl rfl) ?_))
    refine wG_pure (e_ia_sl rfl rfl (by omega) (by omega)) ?_
    simp only [e0]
    repeat (first | refine wG_pure (o_ldf_pt rfl rfl (hgs _ _ (by rw [List.length_map, hml])) rfl) ?_ | (first
    | refine wC_seq ?_
    | refine wC_reg ?_
    | refine wC_dregq rfl ?_
    | refine wC_dregE ?_
    | refine wC_skip ?_
    | refine wC_blk ?_
    | refine wC_exit ?_
    | refine wC_ret ?_
    | refine q_seq_n ?_
    | refine q_seq_x ?_
    | refine q_seq_r ?_
    | refine q_blk_n ?_
    | refine q_blk_r ?_
    | refine q_blk_x ?_
    | refine q_blk_o rfl ?_
    | refine wG_nil ?_
    | refine wG_gy rfl ?_
    | refine wG_gn rfl rfl ?_
    | refine wG_gu rfl ?_
    | refine wC_cond_t rfl ?_
    | refine wC_cond_f rfl ?_
    | refine wG_pure (o_mv rfl) ?_
    | refine wG_pure (o_pick_t rfl rfl) ?_
    | refine wG_pure (o_pick_f rfl rfl) ?_
    | refine wG_pure (o_ldf_pt rfl rfl rfl rfl) ?_
    | refine wG_pure (o_ldt_pt rfl rfl rfl rfl rfl) ?_
    | refine wG_pure (o_ldf_vp rfl) ?_
    | refine wG_pure (o_ldt_vp rfl rfl rfl) ?_
    | refine wG_pure (o_fa_pt rfl) ?_
    | refine wG_pure (o_fa_vp rfl rfl) ?_
    | refine wG_pure (o_nck_pt rfl) ?_
    | refine wG_pure (o_nck_vp rfl) ?_
    | refine wG_pure (o_nck_fn rfl) ?_
    | refine wG_pure (e_ia_vw0 rfl rfl (by omega) rfl) ?_
    | refine wG_pure (e_ia_vwp rfl rfl (by omega) rfl) ?_
    | refine wG_pure (e_ia_vwm rfl rfl (by omega) (by omega) rfl) ?_
    | refine wG_pure (e_ia_vwi rfl rfl (by omega) rfl) ?_
    | refine wG_pure (e_ia_vwn rfl rfl (by omega) (by omega) rfl) ?_
    | refine wG_pure (e_add rfl rfl (by omega) (by omega)) ?_
    | refine wG_pure (e_sub rfl rfl (by omega) (by omega)) ?_
    | refine wG_pure (e_mul rfl rfl (by omega) (by omega)) ?_
    | refine wG_pure (o_lss rfl rfl) ?_
    | refine wG_pure (o_leq rfl rfl) ?_
    | refine wG_pure (o_gtr rfl rfl) ?_
    | refine wG_pure (o_geq rfl rfl) ?_
    | refine wG_pure (o_eql rfl rfl) ?_
    | refine wG_pure (o_neq rfl rfl) ?_
    | refine wG_pure (o_not_d rfl) ?_
    | refine wG_pure (o_not rfl) ?_
    | refine wG_pure (o_beq rfl rfl) ?_
    | refine wG_pure (o_bne rfl rfl) ?_
    | refine wG_pure (o_build rfl) ?_
    | refine wG_pure (o_isnil_vw rfl rfl) ?_
    | refine wG_pure (o_isnil_sl rfl rfl) ?_
    | refine wG_pure (o_isnil_nil rfl rfl) ?_
    | refine wG_pure (o_len_sl rfl) ?_
    | refine wG_pure (o_len_vwm rfl) ?_
    | refine wG_pure (o_len_vw rfl) ?_
    | refine wG_pure (o_len_nil rfl) ?_
    | refine wG_pure (o_slen rfl) ?_
    | refine wG_pure (o_fldf rfl rfl) ?_
    | refine wG_pure (o_fldt rfl rfl rfl) ?_
    | refine wG_pure (o_ext rfl rfl) ?_
    | refine wG_pure (o_mx rfl rfl) ?_
    | refine wG_pure (o_mn rfl rfl) ?_
    | refine wG_pure (o_neg rfl (by omega) (by omega)) ?_
    | refine wG_new (o_alloc) ?_
    | refine wG_new (o_bsl rfl) ?_
    | refine wG_new (o_box_agg rfl rfl) ?_
    | refine wG_new (o_mks rfl rfl (by omega) (by decide)) ?_
    | refine wG_new (o_box1 rfl) ?_
    | refine wG_upd (o_st_agg rfl rfl rfl rfl rfl rfl rfl) ?_
    | refine wG_upd (o_st1 rfl rfl rfl rfl rfl rfl) ?_))
    refine wG_pure (e_ia_sl rfl rfl (by omega) (by omega)) ?_
    simp only [e0]
    repeat (first | refine wG_upd (o_st_int rfl rfl (hgs _ _ (by rw [List.length_map, hml])) rfl rfl rfl) ?_ | (first
    | refine wC_seq ?_
    | refine wC_reg ?_
    | refine wC_dregq rfl ?_
    | refine wC_dregE ?_
    | refine wC_skip ?_
    | refine wC_blk ?_
    | refine wC_exit ?_
    | refine wC_ret ?_
    | refine q_seq_n ?_
    | refine q_seq_x ?_
    | refine q_seq_r ?_
    | refine q_blk_n ?_
    | refine q_blk_r ?_
    | refine q_blk_x ?_
    | refine q_blk_o rfl ?_
    | refine wG_nil ?_
    | refine wG_gy rfl ?_
    | refine wG_gn rfl rfl ?_
    | refine wG_gu rfl ?_
    | refine wC_cond_t rfl ?_
    | refine wC_cond_f rfl ?_
    | refine wG_pure (o_mv rfl) ?_
    | refine wG_pure (o_pick_t rfl rfl) ?_
    | refine wG_pure (o_pick_f rfl rfl) ?_
    | refine wG_pure (o_ldf_pt rfl rfl rfl rfl) ?_
    | refine wG_pure (o_ldt_pt rfl rfl rfl rfl rfl) ?_
    | refine wG_pure (o_ldf_vp rfl) ?_
    | refine wG_pure (o_ldt_vp rfl rfl rfl) ?_
    | refine wG_pure (o_fa_pt rfl) ?_
    | refine wG_pure (o_fa_vp rfl rfl) ?_
    | refine wG_pure (o_nck_pt rfl) ?_
    | refine wG_pure (o_nck_vp rfl) ?_
    | refine wG_pure (o_nck_fn rfl) ?_
    | refine wG_pure (e_ia_vw0 rfl rfl (by omega) rfl) ?_
    | refine wG_pure (e_ia_vwp rfl rfl (by omega) rfl) ?_
    | refine wG_pure (e_ia_vwm rfl rfl (by omega) (by omega) rfl) ?_
    | refine wG_pure (e_ia_vwi rfl rfl (by omega) rfl) ?_
    | refine wG_pure (e_ia_vwn rfl rfl (by omega) (by omega) rfl) ?_
    | refine wG_pure (e_add rfl rfl (by omega) (by omega)) ?_
    | refine wG_pure (e_sub rfl rfl (by omega) (by omega)) ?_
    | refine wG_pure (e_mul rfl rfl (by omega) (by omega)) ?_
    | refine wG_pure (o_lss rfl rfl) ?_
    | refine wG_pure (o_leq rfl rfl) ?_
    | refine wG_pure (o_gtr rfl rfl) ?_
    | refine wG_pure (o_geq rfl rfl) ?_
    | refine wG_pure (o_eql rfl rfl) ?_
    | refine wG_pure (o_neq rfl rfl) ?_
    | refine wG_pure (o_not_d rfl) ?_
    | refine wG_pure (o_not rfl) ?_
    | refine wG_pure (o_beq rfl rfl) ?_
    | refine wG_pure (o_bne rfl rfl) ?_
    | refine wG_pure (o_build rfl) ?_
    | refine wG_pure (o_isnil_vw rfl rfl) ?_
    | refine wG_pure (o_isnil_sl rfl rfl) ?_
    | refine wG_pure (o_isnil_nil rfl rfl) ?_
    | refine wG_pure (o_len_sl rfl) ?_
    | refine wG_pure (o_len_vwm rfl) ?_
    | refine wG_pure (o_len_vw rfl) ?_
    | refine wG_pure (o_len_nil rfl) ?_
    | refine wG_pure (o_slen rfl) ?_
    | refine wG_pure (o_fldf rfl rfl) ?_
    | refine wG_pure (o_fldt rfl rfl rfl) ?_
    | refine wG_pure (o_ext rfl rfl) ?_
    | refine wG_pure (o_mx rfl rfl) ?_
    | refine wG_pure (o_mn rfl rfl) ?_
    | refine wG_pure (o_neg rfl (by omega) (by omega)) ?_
    | refine wG_new (o_alloc) ?_
    | refine wG_new (o_bsl rfl) ?_
    | refine wG_new (o_box_agg rfl rfl) ?_
    | refine wG_new (o_mks rfl rfl (by omega) (by decide)) ?_
    | refine wG_new (o_box1 rfl) ?_
    | refine wG_upd (o_st_agg rfl rfl rfl rfl rfl rfl rfl) ?_
    | refine wG_upd (o_st1 rfl rfl rfl rfl rfl rfl) ?_))
    refine ⟨i + 1, hi2, by omega, ⟨⟨rfl, rfl⟩, ⟨rfl, rfl⟩, ⟨rfl, rfl⟩, ⟨rfl, rfl⟩, ⟨rfl, rfl⟩, ⟨rfl, rfl⟩, trivial⟩, ⟨?_, Nat.zero_lt_one, ltrC _ _⟩, trivial⟩
    rw [← mdl_set hi2, List.map_set]
    refine Eq.trans hg_here ?_
    rw [List.set_set]
    rfl
  · have hi3 : i = xs.length := by omega
    subst hi3
    rw [mdl_end]
    have hl := shl_len xs a e
    have c4 := con13 true (shl xs a e) (by rw [shl_len]; exact hlen)
    by_cases hg2 : Good (shl xs a e)
    · rw [decide_eq_true hg2] at c4
      obtain ⟨rfl, rfl, rfl⟩ := hend.1 hg2
      repeat (first | refine wG_call c4 (ag_sl rfl rfl hl.symm cp_plain ag_nil) rfl ?_ | (first
    | refine wC_seq ?_
    | refine wC_reg ?_
    | refine wC_dregq rfl ?_
    | refine wC_dregE ?_
    | refine wC_skip ?_
    | refine wC_blk ?_
    | refine wC_exit ?_
    | refine wC_ret ?_
    | refine q_seq_n ?_
    | refine q_seq_x ?_
    | refine q_seq_r ?_
    | refine q_blk_n ?_
    | refine q_blk_r ?_
    | refine q_blk_x ?_
    | refine q_blk_o rfl ?_
    | refine wG_nil ?_
    | refine wG_gy rfl ?_
    | refine wG_gn rfl rfl ?_
    | refine wG_gu rfl ?_
    | refine wC_cond_t rfl ?_
    | refine wC_cond_f rfl ?_
    | refine wG_pure (o_mv rfl) ?_
    | refine wG_pure (o_pick_t rfl rfl) ?_
    | refine wG_pure (o_pick_f rfl rfl) ?_
    | refine wG_pure (o_ldf_pt rfl rfl rfl rfl) ?_
    | refine wG_pure (o_ldt_pt rfl rfl rfl rfl rfl) ?_
    | refine wG_pure (o_ldf_vp rfl) ?_
    | refine wG_pure (o_ldt_vp rfl rfl rfl) ?_
    | refine wG_pure (o_fa_pt rfl) ?_
    | refine wG_pure (o_fa_vp rfl rfl) ?_
    | refine wG_pure (o_nck_pt rfl) ?_
    | refine wG_pure (o_nck_vp rfl) ?_
    | refine wG_pure (o_nck_fn rfl) ?_
    | refine wG_pure (e_ia_vw0 rfl rfl (by omega) rfl) ?_
    | refine wG_pure (e_ia_vwp rfl rfl (by omega) rfl) ?_
    | refine wG_pure (e_ia_vwm rfl rfl (by omega) (by omega) rfl) ?_
    | refine wG_pure (e_ia_vwi rfl rfl (by omega) rfl) ?_
    | refine wG_pure (e_ia_vwn rfl rfl (by omega) (by omega) rfl) ?_
    | refine wG_pure (e_add rfl rfl (by omega) (by omega)) ?_
    | refine wG_pure (e_sub rfl rfl (by omega) (by omega)) ?_
    | refine wG_pure (e_mul rfl rfl (by omega) (by omega)) ?_
    | refine wG_pure (o_lss rfl rfl) ?_
    | refine wG_pure (o_leq rfl rfl) ?_
    | refine wG_pure (o_gtr rfl rfl) ?_
    | refine wG_pure (o_geq rfl rfl) ?_
    | refine wG_pure (o_eql rfl rfl) ?_
    | refine wG_pure (o_neq rfl rfl) ?_
    | refine wG_pure (o_not_d rfl) ?_
    | refine wG_pure (o_not rfl) ?_
    | refine wG_pure (o_beq rfl rfl) ?_
    | refine wG_pure (o_bne rfl rfl) ?_
    | refine wG_pure (o_build rfl) ?_
    | refine wG_pure (o_isnil_vw rfl rfl) ?_
    | refine wG_pure (o_isnil_sl rfl rfl) ?_
    | refine wG_pure (o_isnil_nil rfl rfl) ?_
    | refine wG_pure (o_len_sl rfl) ?_
    | refine wG_pure (o_len_vwm rfl) ?_
    | refine wG_pure (o_len_vw rfl) ?_
    | refine wG_pure (o_len_nil rfl) ?_
    | refine wG_pure (o_slen rfl) ?_
    | refine wG_pure (o_fldf rfl rfl) ?_
    | refine wG_pure (o_fldt rfl rfl rfl) ?_
    | refine wG_pure (o_ext rfl rfl) ?_
    | refine wG_pure (o_mx rfl rfl) ?_
    | refine wG_pure (o_mn rfl rfl) ?_
    | refine wG_pure (o_neg rfl (by omega) (by omega)) ?_
    | refine wG_new (o_alloc) ?_
    | refine wG_new (o_bsl rfl) ?_
    | refine wG_new (o_box_agg rfl rfl) ?_
    | refine wG_new (o_mks rfl rfl (by omega) (by decide)) ?_
    | refine wG_new (o_box1 rfl) ?_
    | refine wG_upd (o_st_agg rfl rfl rfl rfl rfl rfl rfl) ?_
    | refine wG_upd (o_st1 rfl rfl rfl rfl rfl rfl) ?_))
      exact ret_sb (.inr rfl) rfl ⟨_, retV_mv rfl, retV_mv rfl, rfl⟩ rfl
    · rw [decide_eq_false hg2] at c4
      obtain ⟨rfl, rfl, rfl⟩ := hend.2 hg2
      repeat (first | refine wG_call c4 (ag_sl rfl rfl hl.symm cp_plain ag_nil) rfl ?_ | (first
    | refine wC_seq ?_
    | refine wC_reg ?_
    | refine wC_dregq rfl ?_
    | refine wC_dregE ?_
    | refine wC_skip ?_
    | refine wC_blk ?_
    | refine wC_exit ?_
    | refine wC_ret ?_
    | refine q_seq_n ?_
    | refine q_seq_x ?_
    | refine q_seq_r ?_
    | refine q_blk_n ?_
    | refine q_blk_r ?_
    | refine q_blk_x ?_
    | refine q_blk_o rfl ?_
    | refine wG_nil ?_
    | refine wG_gy rfl ?_
    | refine wG_gn rfl rfl ?_
    | refine wG_gu rfl ?_
    | refine wC_cond_t rfl ?_
    | refine wC_cond_f rfl ?_
    | refine wG_pure (o_mv rfl) ?_
    | refine wG_pure (o_pick_t rfl rfl) ?_
    | refine wG_pure (o_pick_f rfl rfl) ?_
    | refine wG_pure (o_ldf_pt rfl rfl rfl rfl) ?_
    | refine wG_pure (o_ldt_pt rfl rfl rfl rfl rfl) ?_
    | refine wG_pure (o_ldf_vp rfl) ?_
    | refine wG_pure (o_ldt_vp rfl rfl rfl) ?_
    | refine wG_pure (o_fa_pt rfl) ?_
    | refine wG_pure (o_fa_vp rfl rfl) ?_
    | refine wG_pure (o_nck_pt rfl) ?_
    | refine wG_pure (o_nck_vp rfl) ?_
    | refine wG_pure (o_nck_fn rfl) ?_
    | refine wG_pure (e_ia_vw0 rfl rfl (by omega) rfl) ?_
    | refine wG_pure (e_ia_vwp rfl rfl (by omega) rfl) ?_
    | refine wG_pure (e_ia_vwm rfl rfl (by omega) (by omega) rfl) ?_
    | refine wG_pure (e_ia_vwi rfl rfl (by omega) rfl) ?_
    | refine wG_pure (e_ia_vwn rfl rfl (by omega) (by omega) rfl) ?_
    | refine wG_pure (e_add rfl rfl (by omega) (by omega)) ?_
    | refine wG_pure (e_sub rfl rfl (by omega) (by omega)) ?_
    | refine wG_pure (e_mul rfl rfl (by omega) (by omega)) ?_
    | refine wG_pure (o_lss rfl rfl) ?_
    | refine wG_pure (o_leq rfl rfl) ?_
    | refine wG_pure (o_gtr rfl rfl) ?_
    | refine wG_pure (o_geq rfl rfl) ?_
    | refine wG_pure (o_eql rfl rfl) ?_
    | refine wG_pure (o_neq rfl rfl) ?_
    | refine wG_pure (o_not_d rfl) ?_
    | refine wG_pure (o_not rfl) ?_
    | refine wG_pure (o_beq rfl rfl) ?_
    | refine wG_pure (o_bne rfl rfl) ?_
    | refine wG_pure (o_build rfl) ?_
    | refine wG_pure (o_isnil_vw rfl rfl) ?_
    | refine wG_pure (o_isnil_sl rfl rfl) ?_
    | refine wG_pure (o_isnil_nil rfl rfl) ?_
    | refine wG_pure (o_len_sl rfl) ?_
    | refine wG_pure (o_len_vwm rfl) ?_
    | refine wG_pure (o_len_vw rfl) ?_
    | refine wG_pure (o_len_nil rfl) ?_
    | refine wG_pure (o_slen rfl) ?_
    | refine wG_pure (o_fldf rfl rfl) ?_
    | refine wG_pure (o_fldt rfl rfl rfl) ?_
    | refine wG_pure (o_ext rfl rfl) ?_
    | refine wG_pure (o_mx rfl rfl) ?_
    | refine wG_pure (o_mn rfl rfl) ?_
    | refine wG_pure (o_neg rfl (by omega) (by omega)) ?_
    | refine wG_new (o_alloc) ?_
    | refine wG_new (o_bsl rfl) ?_
    | refine wG_new (o_box_agg rfl rfl) ?_
    | refine wG_new (o_mks rfl rfl (by omega) (by decide)) ?_
    | refine wG_new (o_box1 rfl) ?_
    | refine wG_upd (o_st_agg rfl rfl rfl rfl rfl rfl rfl) ?_
    | refine wG_upd (o_st1 rfl rfl rfl rfl rfl rfl) ?_))
      exact ret_2 (.inr rfl) rfl rfl ⟨_, _, retV_mv rfl, retV_mv rfl, rfl, rfl⟩

def sOK (xs : List CP) (a e : Int) : Prop := (Good xs ∧ inS a e) ∧ Good (shl xs a e)
theorem conS_yes (nn : Bool) (xs : List CP) (hlen : xs.length ≤ 1048576) (a e : Int) (h : sOK xs a e) : Con Try.prog 31 true [.vw nn (xs.map cpRow), .int .i64 a, .int .i64 e] (.tup [.sl 0 3 0 (shl xs a e).length, .bool true]) [(shl xs a e).map cpRow] := by
  rw [shl_len]
  exact con31_ok nn xs hlen a e h.1.1 h.1.2 _ [0] _ rfl (plain_map cp_plain _) ⟨fun _ => ⟨rfl, rfl, rfl⟩, fun hn => absurd h.2 hn⟩
theorem conS_no (nn : Bool) (xs : List CP) (hlen : xs.length ≤ 1048576) (a e : Int) (h : ¬ sOK xs a e) : Con Try.prog 31 true [.vw nn (xs.map cpRow), .int .i64 a, .int .i64 e] (.tup [.sl 0 3 0 0, .bool false]) [[]] := by
  by_cases h1 : Good xs ∧ inS a e
  · exact con31_ok nn xs hlen a e h1.1 h1.2 _ [1] _ rfl (plain_map cp_plain []) ⟨fun hg => absurd ⟨h1, hg⟩ h, fun hn => ⟨rfl, rfl, rfl⟩⟩
  · exact con31_bad nn xs hlen a e h1
theorem conI_yes (xs : List CP) (hlen : xs.length ≤ 1048576) (a e : Int) (h : sOK xs a e) : Con Try.prog 32 true [.vw true (xs.map cpRow), .int .i64 a, .int .i64 e] (.tup [.sl 0 3 0 (shl xs a e).length, .bool true]) [(shl xs a e).map cpRow] := by
  rw [shl_len]
  exact con32_ok xs hlen a e h.1.1 h.1.2 _ [0] _ rfl (plain_map cp_plain _) ⟨fun _ => ⟨rfl, rfl, rfl⟩, fun hn => absurd h.2 hn⟩
theorem conI_no (xs : List CP) (hlen : xs.length ≤ 1048576) (a e : Int) (h : ¬ sOK xs a e) : Con Try.prog 32 true [.vw true (xs.map cpRow), .int .i64 a, .int .i64 e] (.tup [.nilS, .bool false]) [] := by
  by_cases h1 : Good xs ∧ inS a e
  · exact con32_ok xs hlen a e h1.1 h1.2 _ [] _ rfl plain_nil ⟨fun hg => absurd ⟨h1, hg⟩ h, fun hn => ⟨rfl, rfl, rfl⟩⟩
  · exact con32_bad true xs hlen a e h1
theorem con28_nil (k : Int) : Con Try.prog 28 true [.nilS, .int .i64 k] (.int .i64 k) [] := by
  refine con_of_wp mixed fun28 (by simp) [] plain_nil ?_
  unfold ac28 ro28
  simp only [zipT]
  repeat (first
    | refine wC_seq ?_
    | refine wC_reg ?_
    | refine wC_dregq rfl ?_
    | refine wC_dregE ?_
    | refine wC_skip ?_
    | refine wC_blk ?_
    | refine wC_exit ?_
    | refine wC_ret ?_
    | refine q_seq_n ?_
    | refine q_seq_x ?_
    | refine q_seq_r ?_
    | refine q_blk_n ?_
    | refine q_blk_r ?_
    | refine q_blk_x ?_
    | refine q_blk_o rfl ?_
    | refine wG_nil ?_
    | refine wG_gy rfl ?_
    | refine wG_gn rfl rfl ?_
    | refine wG_gu rfl ?_
    | refine wC_cond_t rfl ?_
    | refine wC_cond_f rfl ?_
    | refine wG_pure (o_mv rfl) ?_
    | refine wG_pure (o_pick_t rfl rfl) ?_
    | refine wG_pure (o_pick_f rfl rfl) ?_
    | refine wG_pure (o_ldf_pt rfl rfl rfl rfl) ?_
    | refine wG_pure (o_ldt_pt rfl rfl rfl rfl rfl) ?_
    | refine wG_pure (o_ldf_vp rfl) ?_
    | refine wG_pure (o_ldt_vp rfl rfl rfl) ?_
    | refine wG_pure (o_fa_pt rfl) ?_
    | refine wG_pure (o_fa_vp rfl rfl) ?_
    | refine wG_pure (o_nck_pt rfl) ?_
    | refine wG_pure (o_nck_vp rfl) ?_
    | refine wG_pure (o_nck_fn rfl) ?_
    | refine wG_pure (e_ia_vw0 rfl rfl (by omega) rfl) ?_
    | refine wG_pure (e_ia_vwp rfl rfl (by omega) rfl) ?_
    | refine wG_pure (e_ia_vwm rfl rfl (by omega) (by omega) rfl) ?_
    | refine wG_pure (e_ia_vwi rfl rfl (by omega) rfl) ?_
    | refine wG_pure (e_ia_vwn rfl rfl (by omega) (by omega) rfl) ?_
    | refine wG_pure (e_add rfl rfl (by omega) (by omega)) ?_
    | refine wG_pure (e_sub rfl rfl (by omega) (by omega)) ?_
    | refine wG_pure (e_mul rfl rfl (by omega) (by omega)) ?_
    | refine wG_pure (o_lss rfl rfl) ?_
    | refine wG_pure (o_leq rfl rfl) ?_
    | refine wG_pure (o_gtr rfl rfl) ?_
    | refine wG_pure (o_geq rfl rfl) ?_
    | refine wG_pure (o_eql rfl rfl) ?_
    | refine wG_pure (o_neq rfl rfl) ?_
    | refine wG_pure (o_not_d rfl) ?_
    | refine wG_pure (o_not rfl) ?_
    | refine wG_pure (o_beq rfl rfl) ?_
    | refine wG_pure (o_bne rfl rfl) ?_
    | refine wG_pure (o_build rfl) ?_
    | refine wG_pure (o_isnil_vw rfl rfl) ?_
    | refine wG_pure (o_isnil_sl rfl rfl) ?_
    | refine wG_pure (o_isnil_nil rfl rfl) ?_
    | refine wG_pure (o_len_sl rfl) ?_
    | refine wG_pure (o_len_vwm rfl) ?_
    | refine wG_pure (o_len_vw rfl) ?_
    | refine wG_pure (o_len_nil rfl) ?_
    | refine wG_pure (o_slen rfl) ?_
    | refine wG_pure (o_fldf rfl rfl) ?_
    | refine wG_pure (o_fldt rfl rfl rfl) ?_
    | refine wG_pure (o_ext rfl rfl) ?_
    | refine wG_pure (o_mx rfl rfl) ?_
    | refine wG_pure (o_mn rfl rfl) ?_
    | refine wG_pure (o_neg rfl (by omega) (by omega)) ?_
    | refine wG_new (o_alloc) ?_
    | refine wG_new (o_bsl rfl) ?_
    | refine wG_new (o_box_agg rfl rfl) ?_
    | refine wG_new (o_mks rfl rfl (by omega) (by decide)) ?_
    | refine wG_new (o_box1 rfl) ?_
    | refine wG_upd (o_st_agg rfl rfl rfl rfl rfl rfl rfl) ?_
    | refine wG_upd (o_st1 rfl rfl rfl rfl rfl rfl) ?_)
  refine wC_loop Nat (fun i => ⟨[(0, .nilS), (1, .int .i64 k), (5, .int .i64 0)], [], 0⟩) (fun _ => True) (fun i => 0) 0 trivial ?_ (fun _ _ => Nat.le_refl _) ?_
  · simp [LeP, leT, leH, lk, AV.ltr, ltrL, Ab.hg, upd, -List.getD_eq_getElem?_getD, -Int.default_eq_zero]
  intro i hi
  repeat (first
    | refine wC_seq ?_
    | refine wC_reg ?_
    | refine wC_dregq rfl ?_
    | refine wC_dregE ?_
    | refine wC_skip ?_
    | refine wC_blk ?_
    | refine wC_exit ?_
    | refine wC_ret ?_
    | refine q_seq_n ?_
    | refine q_seq_x ?_
    | refine q_seq_r ?_
    | refine q_blk_n ?_
    | refine q_blk_r ?_
    | refine q_blk_x ?_
    | refine q_blk_o rfl ?_
    | refine wG_nil ?_
    | refine wG_gy rfl ?_
    | refine wG_gn rfl rfl ?_
    | refine wG_gu rfl ?_
    | refine wC_cond_t rfl ?_
    | refine wC_cond_f rfl ?_
    | refine wG_pure (o_mv rfl) ?_
    | refine wG_pure (o_pick_t rfl rfl) ?_
    | refine wG_pure (o_pick_f rfl rfl) ?_
    | refine wG_pure (o_ldf_pt rfl rfl rfl rfl) ?_
    | refine wG_pure (o_ldt_pt rfl rfl rfl rfl rfl) ?_
    | refine wG_pure (o_ldf_vp rfl) ?_
    | refine wG_pure (o_ldt_vp rfl rfl rfl) ?_
    | refine wG_pure (o_fa_pt rfl) ?_
    | refine wG_pure (o_fa_vp rfl rfl) ?_
    | refine wG_pure (o_nck_pt rfl) ?_
    | refine wG_pure (o_nck_vp rfl) ?_
    | refine wG_pure (o_nck_fn rfl) ?_
    | refine wG_pure (e_ia_vw0 rfl rfl (by omega) rfl) ?_
    | refine wG_pure (e_ia_vwp rfl rfl (by omega) rfl) ?_
    | refine wG_pure (e_ia_vwm rfl rfl (by omega) (by omega) rfl) ?_
    | refine wG_pure (e_ia_vwi rfl rfl (by omega) rfl) ?_
    | refine wG_pure (e_ia_vwn rfl rfl (by omega) (by omega) rfl) ?_
    | refine wG_pure (e_add rfl rfl (by omega) (by omega)) ?_
    | refine wG_pure (e_sub rfl rfl (by omega) (by omega)) ?_
    | refine wG_pure (e_mul rfl rfl (by omega) (by omega)) ?_
    | refine wG_pure (o_lss rfl rfl) ?_
    | refine wG_pure (o_leq rfl rfl) ?_
    | refine wG_pure (o_gtr rfl rfl) ?_
    | refine wG_pure (o_geq rfl rfl) ?_
    | refine wG_pure (o_eql rfl rfl) ?_
    | refine wG_pure (o_neq rfl rfl) ?_
    | refine wG_pure (o_not_d rfl) ?_
    | refine wG_pure (o_not rfl) ?_
    | refine wG_pure (o_beq rfl rfl) ?_
    | refine wG_pure (o_bne rfl rfl) ?_
    | refine wG_pure (o_build rfl) ?_
    | refine wG_pure (o_isnil_vw rfl rfl) ?_
    | refine wG_pure (o_isnil_sl rfl rfl) ?_
    | refine wG_pure (o_isnil_nil rfl rfl) ?_
    | refine wG_pure (o_len_sl rfl) ?_
    | refine wG_pure (o_len_vwm rfl) ?_
    | refine wG_pure (o_len_vw rfl) ?_
    | refine wG_pure (o_len_nil rfl) ?_
    | refine wG_pure (o_slen rfl) ?_
    | refine wG_pure (o_fldf rfl rfl) ?_
    | refine wG_pure (o_fldt rfl rfl rfl) ?_
    | refine wG_pure (o_ext rfl rfl) ?_
    | refine wG_pure (o_mx rfl rfl) ?_
    | refine wG_pure (o_mn rfl rfl) ?_
    | refine wG_pure (o_neg rfl (by omega) (by omega)) ?_
    | refine wG_new (o_alloc) ?_
    | refine wG_new (o_bsl rfl) ?_
    | refine wG_new (o_box_agg rfl rfl) ?_
    | refine wG_new (o_mks rfl rfl (by omega) (by decide)) ?_
    | refine wG_new (o_box1 rfl) ?_
    | refine wG_upd (o_st_agg rfl rfl rfl rfl rfl rfl rfl) ?_
    | refine wG_upd (o_st1 rfl rfl rfl rfl rfl rfl) ?_)
  exact ret_intE (.inr rfl) ⟨_, retV_mv rfl, rfl⟩

theorem con8 (nn : Bool) (xs : List CP) (hlen : xs.length ≤ 9223372036854775807) (a e : Int) : Con Try.prog 8 true [.vw nn (xs.map cpRow), .int .i64 a, .int .i64 e] (.bool true) [] := by
  refine con_of_wp mixed fun8 (by simp) [] plain_nil ?_
  unfold ac8 ro8
  simp only [zipT]
  have c0 := con10 nn xs hlen
  by_cases hs : xs.length ≤ 1048576
  · rw [if_pos hs] at c0
    have c1 := con12 nn xs hs
    have c4 := eqC_same true true xs hs
    by_cases hG : sOK xs a e
    · have c2 := conS_yes true xs hs a e hG
      have c3 := conI_yes xs hs a e hG
      have hl : (shl xs a e).length ≤ 40 := by have := hG.1.1.1.2; rw [shl_len]; omega
      have hl2 := shl_len xs a e
      generalize shl xs a e = ts at *
      have c5 := eqC_same true true ts (by omega)
      have c6 := con33 true ts.length 1 (by omega) (by decide) (by decide)
      repeat' (first
        | refine wC_dregE ?_ | refine wG_call c0 rfl rfl ?_ | refine wG_call1 c1 rfl rfl ?_ | refine wG_call1 c2 (ag_sl rfl rfl rfl cp_plain (ag_int rfl (ag_int rfl ag_nil))) rfl ?_ | refine wG_call1 c3 (ag_sl rfl rfl rfl cp_plain (ag_int rfl (ag_int rfl ag_nil))) rfl ?_ | refine wG_call c4 (ag_sl rfl rfl rfl cp_plain (ag_sl rfl rfl rfl cp_plain ag_nil)) rfl ?_ | refine wG_call c5 (ag_sl rfl rfl rfl cp_plain (ag_sl rfl rfl rfl cp_plain ag_nil)) rfl ?_ | refine wG_call c6 (ag_sl rfl rfl (mkC_len _ _).symm cp_plain (ag_int rfl ag_nil)) rfl ?_
        | (refine wG_callS (f := 28) (sh28 xs 1 (by omega) (by decide) (by decide) rfl ?_) rfl ?_ <;> (repeat' (first | exact ltrI _ _ | exact ltrC _ _ | exact wfH_nil | refine wfH_cons (by decide) ?_ ?_)))
        | (refine wG_callS (f := 28) (sh28 ts 1 (by omega) (by decide) (by decide) rfl ?_) rfl ?_ <;> (repeat' (first | exact ltrI _ _ | exact ltrC _ _ | exact wfH_nil | refine wfH_cons (by decide) ?_ ?_)))
        | (first
    | refine wC_seq ?_
    | refine wC_reg ?_
    | refine wC_dregq rfl ?_
    | refine wC_dregE ?_
    | refine wC_skip ?_
    | refine wC_blk ?_
    | refine wC_exit ?_
    | refine wC_ret ?_
    | refine q_seq_n ?_
    | refine q_seq_x ?_
    | refine q_seq_r ?_
    | refine q_blk_n ?_
    | refine q_blk_r ?_
    | refine q_blk_x ?_
    | refine q_blk_o rfl ?_
    | refine wG_nil ?_
    | refine wG_gy rfl ?_
    | refine wG_gn rfl rfl ?_
    | refine wG_gu rfl ?_
    | refine wC_cond_t rfl ?_
    | refine wC_cond_f rfl ?_
    | refine wG_pure (o_mv rfl) ?_
    | refine wG_pure (o_pick_t rfl rfl) ?_
    | refine wG_pure (o_pick_f rfl rfl) ?_
    | refine wG_pure (o_ldf_pt rfl rfl rfl rfl) ?_
    | refine wG_pure (o_ldt_pt rfl rfl rfl rfl rfl) ?_
    | refine wG_pure (o_ldf_vp rfl) ?_
    | refine wG_pure (o_ldt_vp rfl rfl rfl) ?_
    | refine wG_pure (o_fa_pt rfl) ?_
    | refine wG_pure (o_fa_vp rfl rfl) ?_
    | refine wG_pure (o_nck_pt rfl) ?_
    | refine wG_pure (o_nck_vp rfl) ?_
    | refine wG_pure (o_nck_fn rfl) ?_
    | refine wG_pure (e_ia_vw0 rfl rfl (by omega) rfl) ?_
    | refine wG_pure (e_ia_vwp rfl rfl (by omega) rfl) ?_
    | refine wG_pure (e_ia_vwm rfl rfl (by omega) (by omega) rfl) ?_
    | refine wG_pure (e_ia_vwi rfl rfl (by omega) rfl) ?_
    | refine wG_pure (e_ia_vwn rfl rfl (by omega) (by omega) rfl) ?_
    | refine wG_pure (e_add rfl rfl (by omega) (by omega)) ?_
    | refine wG_pure (e_sub rfl rfl (by omega) (by omega)) ?_
    | refine wG_pure (e_mul rfl rfl (by omega) (by omega)) ?_
    | refine wG_pure (o_lss rfl rfl) ?_
    | refine wG_pure (o_leq rfl rfl) ?_
    | refine wG_pure (o_gtr rfl rfl) ?_
    | refine wG_pure (o_geq rfl rfl) ?_
    | refine wG_pure (o_eql rfl rfl) ?_
    | refine wG_pure (o_neq rfl rfl) ?_
    | refine wG_pure (o_not_d rfl) ?_
    | refine wG_pure (o_not rfl) ?_
    | refine wG_pure (o_beq rfl rfl) ?_
    | refine wG_pure (o_bne rfl rfl) ?_
    | refine wG_pure (o_build rfl) ?_
    | refine wG_pure (o_isnil_vw rfl rfl) ?_
    | refine wG_pure (o_isnil_sl rfl rfl) ?_
    | refine wG_pure (o_isnil_nil rfl rfl) ?_
    | refine wG_pure (o_len_sl rfl) ?_
    | refine wG_pure (o_len_vwm rfl) ?_
    | refine wG_pure (o_len_vw rfl) ?_
    | refine wG_pure (o_len_nil rfl) ?_
    | refine wG_pure (o_slen rfl) ?_
    | refine wG_pure (o_fldf rfl rfl) ?_
    | refine wG_pure (o_fldt rfl rfl rfl) ?_
    | refine wG_pure (o_ext rfl rfl) ?_
    | refine wG_pure (o_mx rfl rfl) ?_
    | refine wG_pure (o_mn rfl rfl) ?_
    | refine wG_pure (o_neg rfl (by omega) (by omega)) ?_
    | refine wG_new (o_alloc) ?_
    | refine wG_new (o_bsl rfl) ?_
    | refine wG_new (o_box_agg rfl rfl) ?_
    | refine wG_new (o_mks rfl rfl (by omega) (by decide)) ?_
    | refine wG_new (o_box1 rfl) ?_
    | refine wG_upd (o_st_agg rfl rfl rfl rfl rfl rfl rfl) ?_
    | refine wG_upd (o_st1 rfl rfl rfl rfl rfl rfl) ?_) | (refine wG_gd rfl (fun hgt => ?_) (fun hgf => ?_) <;> (first | simp only [eq_true hgt, decide_true] | simp only [eq_false hgf, decide_false])) | refine wC_cond_d rfl (fun hg => ?_) (fun hg => ?_))
      all_goals (first | exact ret_boolE (.inr rfl) ⟨_, retV_mv rfl, rfl⟩ | (exfalso; omega) | trace_state)
    · have c2 := conS_no true xs hs a e hG
      have c3 := conI_no xs hs a e hG
      have c5 : Con Try.prog 14 true [.nilS, .vw true (([] : List CP).map cpRow)] (.bool true) [] := con_nil (eqC_same false true [] (by decide))
      have c6 : Con Try.prog 33 true [.nilS, .int .i64 1] (.int .i64 1) [] := con_nil (con33 false 0 1 (by decide) (by decide) (by decide))
      have c7 := con28_nil 1
      repeat' (first
        | refine wC_dregE ?_ | refine wG_call c0 rfl rfl ?_ | refine wG_call1 c1 rfl rfl ?_ | refine wG_call1 c2 (ag_sl rfl rfl rfl cp_plain (ag_int rfl (ag_int rfl ag_nil))) rfl ?_ | refine wG_call c3 (ag_sl rfl rfl rfl cp_plain (ag_int rfl (ag_int rfl ag_nil))) rfl ?_ | refine wG_call c4 (ag_sl rfl rfl rfl cp_plain (ag_sl rfl rfl rfl cp_plain ag_nil)) rfl ?_ | refine wG_call c5 (ag_any rfl (ag_sl rfl rfl rfl cp_plain ag_nil)) rfl ?_ | refine wG_call c6 rfl rfl ?_ | refine wG_call c7 rfl rfl ?_
        | (refine wG_callS (f := 28) (sh28 xs 1 (by omega) (by decide) (by decide) rfl ?_) rfl ?_ <;> (repeat' (first | exact ltrI _ _ | exact ltrC _ _ | exact wfH_nil | exact ltrI [] _ | refine wfH_cons (by decide) ?_ ?_)))
        | (first
    | refine wC_seq ?_
    | refine wC_reg ?_
    | refine wC_dregq rfl ?_
    | refine wC_dregE ?_
    | refine wC_skip ?_
    | refine wC_blk ?_
    | refine wC_exit ?_
    | refine wC_ret ?_
    | refine q_seq_n ?_
    | refine q_seq_x ?_
    | refine q_seq_r ?_
    | refine q_blk_n ?_
    | refine q_blk_r ?_
    | refine q_blk_x ?_
    | refine q_blk_o rfl ?_
    | refine wG_nil ?_
    | refine wG_gy rfl ?_
    | refine wG_gn rfl rfl ?_
    | refine wG_gu rfl ?_
    | refine wC_cond_t rfl ?_
    | refine wC_cond_f rfl ?_
    | refine wG_pure (o_mv rfl) ?_
    | refine wG_pure (o_pick_t rfl rfl) ?_
    | refine wG_pure (o_pick_f rfl rfl) ?_
    | refine wG_pure (o_ldf_pt rfl rfl rfl rfl) ?_
    | refine wG_pure (o_ldt_pt rfl rfl rfl rfl rfl) ?_
    | refine wG_pure (o_ldf_vp rfl) ?_
    | refine wG_pure (o_ldt_vp rfl rfl rfl) ?_
    | refine wG_pure (o_fa_pt rfl) ?_
    | refine wG_pure (o_fa_vp rfl rfl) ?_
    | refine wG_pure (o_nck_pt rfl) ?_
    | refine wG_pure (o_nck_vp rfl) ?_
    | refine wG_pure (o_nck_fn rfl) ?_
    | refine wG_pure (e_ia_vw0 rfl rfl (by omega) rfl) ?_
    | refine wG_pure (e_ia_vwp rfl rfl (by omega) rfl) ?_
    | refine wG_pure (e_ia_vwm rfl rfl (by omega) (by omega) rfl) ?_
    | refine wG_pure (e_ia_vwi rfl rfl (by omega) rfl) ?_
    | refine wG_pure (e_ia_vwn rfl rfl (by omega) (by omega) rfl) ?_
    | refine wG_pure (e_add rfl rfl (by omega) (by omega)) ?_
    | refine wG_pure (e_sub rfl rfl (by omega) (by omega)) ?_
    | refine wG_pure (e_mul rfl rfl (by omega) (by omega)) ?_
    | refine wG_pure (o_lss rfl rfl) ?_
    | refine wG_pure (o_leq rfl rfl) ?_
    | refine wG_pure (o_gtr rfl rfl) ?_
    | refine wG_pure (o_geq rfl rfl) ?_
    | refine wG_pure (o_eql rfl rfl) ?_
    | refine wG_pure (o_neq rfl rfl) ?_
    | refine wG_pure (o_not_d rfl) ?_
    | refine wG_pure (o_not rfl) ?_
    | refine wG_pure (o_beq rfl rfl) ?_
    | refine wG_pure (o_bne rfl rfl) ?_
    | refine wG_pure (o_build rfl) ?_
    | refine wG_pure (o_isnil_vw rfl rfl) ?_
    | refine wG_pure (o_isnil_sl rfl rfl) ?_
    | refine wG_pure (o_isnil_nil rfl rfl) ?_
    | refine wG_pure (o_len_sl rfl) ?_
    | refine wG_pure (o_len_vwm rfl) ?_
    | refine wG_pure (o_len_vw rfl) ?_
    | refine wG_pure (o_len_nil rfl) ?_
    | refine wG_pure (o_slen rfl) ?_
    | refine wG_pure (o_fldf rfl rfl) ?_
    | refine wG_pure (o_fldt rfl rfl rfl) ?_
    | refine wG_pure (o_ext rfl rfl) ?_
    | refine wG_pure (o_mx rfl rfl) ?_
    | refine wG_pure (o_mn rfl rfl) ?_
    | refine wG_pure (o_neg rfl (by omega) (by omega)) ?_
    | refine wG_new (o_alloc) ?_
    | refine wG_new (o_bsl rfl) ?_
    | refine wG_new (o_box_agg rfl rfl) ?_
    | refine wG_new (o_mks rfl rfl (by omega) (by decide)) ?_
    | refine wG_new (o_box1 rfl) ?_
    | refine wG_upd (o_st_agg rfl rfl rfl rfl rfl rfl rfl) ?_
    | refine wG_upd (o_st1 rfl rfl rfl rfl rfl rfl) ?_) | (refine wG_gd rfl (fun hgt => ?_) (fun hgf => ?_) <;> (first | simp only [eq_true hgt, decide_true] | simp only [eq_false hgf, decide_false])) | refine wC_cond_d rfl (fun hg => ?_) (fun hg => ?_))
      all_goals (first | exact ret_boolE (.inr rfl) ⟨_, retV_mv rfl, rfl⟩ | (exfalso; omega) | trace_state)
  · rw [if_neg hs] at c0
    repeat (first | refine wG_call c0 rfl rfl ?_ | (first
    | refine wC_seq ?_
    | refine wC_reg ?_
    | refine wC_dregq rfl ?_
    | refine wC_dregE ?_
    | refine wC_skip ?_
    | refine wC_blk ?_
    | refine wC_exit ?_
    | refine wC_ret ?_
    | refine q_seq_n ?_
    | refine q_seq_x ?_
    | refine q_seq_r ?_
    | refine q_blk_n ?_
    | refine q_blk_r ?_
    | refine q_blk_x ?_
    | refine q_blk_o rfl ?_
    | refine wG_nil ?_
    | refine wG_gy rfl ?_
    | refine wG_gn rfl rfl ?_
    | refine wG_gu rfl ?_
    | refine wC_cond_t rfl ?_
    | refine wC_cond_f rfl ?_
    | refine wG_pure (o_mv rfl) ?_
    | refine wG_pure (o_pick_t rfl rfl) ?_
    | refine wG_pure (o_pick_f rfl rfl) ?_
    | refine wG_pure (o_ldf_pt rfl rfl rfl rfl) ?_
    | refine wG_pure (o_ldt_pt rfl rfl rfl rfl rfl) ?_
    | refine wG_pure (o_ldf_vp rfl) ?_
    | refine wG_pure (o_ldt_vp rfl rfl rfl) ?_
    | refine wG_pure (o_fa_pt rfl) ?_
    | refine wG_pure (o_fa_vp rfl rfl) ?_
    | refine wG_pure (o_nck_pt rfl) ?_
    | refine wG_pure (o_nck_vp rfl) ?_
    | refine wG_pure (o_nck_fn rfl) ?_
    | refine wG_pure (e_ia_vw0 rfl rfl (by omega) rfl) ?_
    | refine wG_pure (e_ia_vwp rfl rfl (by omega) rfl) ?_
    | refine wG_pure (e_ia_vwm rfl rfl (by omega) (by omega) rfl) ?_
    | refine wG_pure (e_ia_vwi rfl rfl (by omega) rfl) ?_
    | refine wG_pure (e_ia_vwn rfl rfl (by omega) (by omega) rfl) ?_
    | refine wG_pure (e_add rfl rfl (by omega) (by omega)) ?_
    | refine wG_pure (e_sub rfl rfl (by omega) (by omega)) ?_
    | refine wG_pure (e_mul rfl rfl (by omega) (by omega)) ?_
    | refine wG_pure (o_lss rfl rfl) ?_
    | refine wG_pure (o_leq rfl rfl) ?_
    | refine wG_pure (o_gtr rfl rfl) ?_
    | refine wG_pure (o_geq rfl rfl) ?_
    | refine wG_pure (o_eql rfl rfl) ?_
    | refine wG_pure (o_neq rfl rfl) ?_
    | refine wG_pure (o_not_d rfl) ?_
    | refine wG_pure (o_not rfl) ?_
    | refine wG_pure (o_beq rfl rfl) ?_
    | refine wG_pure (o_bne rfl rfl) ?_
    | refine wG_pure (o_build rfl) ?_
    | refine wG_pure (o_isnil_vw rfl rfl) ?_
    | refine wG_pure (o_isnil_sl rfl rfl) ?_
    | refine wG_pure (o_isnil_nil rfl rfl) ?_
    | refine wG_pure (o_len_sl rfl) ?_
    | refine wG_pure (o_len_vwm rfl) ?_
    | refine wG_pure (o_len_vw rfl) ?_
    | refine wG_pure (o_len_nil rfl) ?_
    | refine wG_pure (o_slen rfl) ?_
    | refine wG_pure (o_fldf rfl rfl) ?_
    | refine wG_pure (o_fldt rfl rfl rfl) ?_
    | refine wG_pure (o_ext rfl rfl) ?_
    | refine wG_pure (o_mx rfl rfl) ?_
    | refine wG_pure (o_mn rfl rfl) ?_
    | refine wG_pure (o_neg rfl (by omega) (by omega)) ?_
    | refine wG_new (o_alloc) ?_
    | refine wG_new (o_bsl rfl) ?_
    | refine wG_new (o_box_agg rfl rfl) ?_
    | refine wG_new (o_mks rfl rfl (by omega) (by decide)) ?_
    | refine wG_new (o_box1 rfl) ?_
    | refine wG_upd (o_st_agg rfl rfl rfl rfl rfl rfl rfl) ?_
    | refine wG_upd (o_st1 rfl rfl rfl rfl rfl rfl) ?_))
    exact ret_boolE (.inr rfl) ⟨_, retV_mv rfl, rfl⟩
end Go.Proofs.Ytkbgadipkihifaa.Shc
