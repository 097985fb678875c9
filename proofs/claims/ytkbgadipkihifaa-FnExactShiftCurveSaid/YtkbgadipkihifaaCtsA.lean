/- The turns of a curve: both sides. -/
import Derived.Test.YtkbgadipkihifaaIvcD
import Derived.Test.YtkbgadipkihifaaIntA
namespace Go.Proofs.Ytkbgadipkihifaa.Cts
open Go Go.Proofs.Ytkbgadipkihifaa Go.Proofs.Ytkbgadipkihifaa.Ab Go.Proofs.Ytkbgadipkihifaa.Il
attribute [local irreducible] wpO wpC wpDr wpQ wpG wpE stepA seqQ blkQ Ret ev
set_option maxRecDepth 10000
set_option maxHeartbeats 4000000
set_option linter.unusedSimpArgs false
set_option linter.unusedVariables false

def ac25 : AC := (.seq (.reg [⟨(some 2), none, (.mv (.c .nilS))⟩, ⟨(some 3), none, (.mv (.c (.bool false)))⟩]) (.seq (.reg [⟨(some 8), none, (.bsl 1 [(.int .i64 0)] 0 [])⟩, ⟨(some 4), none, (.mv (.t 8))⟩]) (.seq (.seq (.reg [⟨(some 9), none, (.mv (.t 0))⟩, ⟨(some 10), none, (.call 36 [(.t 9)])⟩, ⟨(some 11), none, (.un .not (.t 10))⟩]) (.cond (.t 11) (.seq (.reg [⟨(some 12), none, (.mv (.t 4))⟩, ⟨(some 2), none, (.mv (.t 12))⟩, ⟨(some 3), none, (.mv (.c (.bool false)))⟩]) .ret) .skip)) (.seq (.seq (.reg [⟨(some 5), none, (.mv (.c (.int .i64 1)))⟩]) (.blk 0 (.loop (.seq (.seq (.reg [⟨(some 13), none, (.mv (.t 5))⟩, ⟨(some 14), none, (.bin .add (.t 13) (.c (.int .i64 1)))⟩, ⟨(some 15), none, (.mv (.t 0))⟩, ⟨(some 16), none, (.len (.t 15))⟩, ⟨(some 17), none, (.bin .lss (.t 14) (.t 16))⟩]) (.cond (.t 17) .skip (.exit 0))) (.seq (.blk 1 (.seq (.dreg [⟨(some 20), none, (.mv (.t 0))⟩, ⟨(some 21), none, (.mv (.t 5))⟩, ⟨(some 22), none, (.bin .sub (.t 21) (.c (.int .i64 1)))⟩, ⟨(some 23), none, (.ia 3 (.t 20) (.t 22))⟩, ⟨(some 24), none, (.fa 1 (.t 23))⟩, ⟨(some 25), none, (.ld false 1 (.t 24))⟩, ⟨(some 26), none, (.mv (.t 0))⟩, ⟨(some 27), none, (.mv (.t 5))⟩, ⟨(some 28), none, (.ia 3 (.t 26) (.t 27))⟩, ⟨(some 29), none, (.fa 1 (.t 28))⟩, ⟨(some 30), none, (.ld false 1 (.t 29))⟩, ⟨(some 31), none, (.bin .sub (.t 25) (.t 30))⟩, ⟨(some 32), none, (.mv (.t 0))⟩, ⟨(some 33), none, (.mv (.t 5))⟩, ⟨(some 34), none, (.bin .add (.t 33) (.c (.int .i64 1)))⟩, ⟨(some 35), none, (.ia 3 (.t 32) (.t 34))⟩, ⟨(some 36), none, (.fa 1 (.t 35))⟩, ⟨(some 37), none, (.ld false 1 (.t 36))⟩, ⟨(some 38), none, (.mv (.t 0))⟩, ⟨(some 39), none, (.mv (.t 5))⟩, ⟨(some 40), none, (.ia 3 (.t 38) (.t 39))⟩, ⟨(some 41), none, (.fa 1 (.t 40))⟩, ⟨(some 42), none, (.ld false 1 (.t 41))⟩, ⟨(some 43), none, (.bin .sub (.t 37) (.t 42))⟩, ⟨(some 6), none, (.mv (.t 31))⟩, ⟨(some 7), none, (.mv (.t 43))⟩] [[], [], [1], [0, 1, 2], [0, 1, 2, 3], [0, 1, 2, 3, 4], [], [], [6, 7], [6, 7, 8], [6, 7, 8, 9], [0, 1, 2, 3, 4, 5, 6, 7, 8, 9, 10], [], [], [13], [12, 13, 14], [12, 13, 14, 15], [12, 13, 14, 15, 16], [], [], [18, 19], [18, 19, 20], [18, 19, 20, 21], [12, 13, 14, 15, 16, 17, 18, 19, 20, 21, 22], [0, 1, 2, 3, 4, 5, 6, 7, 8, 9, 10, 11], [0, 1, 2, 3, 4, 5, 6, 7, 8, 9, 10, 11, 12, 13, 14, 15, 16, 17, 18, 19, 20, 21, 22, 23, 24]]) (.seq (.reg [⟨(some 44), none, (.mv (.t 6))⟩, ⟨(some 45), none, (.bin .gtr (.t 44) (.c (.int .i64 0)))⟩, ⟨(some 46), none, (.mv (.t 45))⟩, ⟨(some 47), (some (46, true)), (.mv (.t 7))⟩, ⟨(some 48), (some (46, true)), (.bin .gtr (.t 47) (.c (.int .i64 0)))⟩, ⟨(some 49), none, (.pick (.t 46) (.t 48) (.c (.bool false)))⟩, ⟨(some 50), none, (.mv (.t 49))⟩, ⟨(some 51), (some (50, false)), (.mv (.t 6))⟩, ⟨(some 52), (some (50, false)), (.bin .lss (.t 51) (.c (.int .i64 0)))⟩, ⟨(some 53), (some (50, false)), (.mv (.t 52))⟩, ⟨(some 54), (some (53, true)), (.mv (.t 7))⟩, ⟨(some 55), (some (53, true)), (.bin .lss (.t 54) (.c (.int .i64 0)))⟩, ⟨(some 56), (some (50, false)), (.pick (.t 53) (.t 55) (.c (.bool false)))⟩, ⟨(some 57), none, (.pick (.t 50) (.c (.bool true)) (.t 56))⟩]) (.cond (.t 57) (.reg [⟨(some 58), none, (.mv (.t 4))⟩, ⟨(some 59), none, (.mv (.t 0))⟩, ⟨(some 60), none, (.mv (.t 5))⟩, ⟨(some 61), none, (.ia 3 (.t 59) (.t 60))⟩, ⟨(some 62), none, (.fa 0 (.t 61))⟩, ⟨(some 63), none, (.ld false 1 (.t 62))⟩, ⟨(some 64), none, (.bsl 1 [(.int .i64 0)] 1 [(0, (.t 63))])⟩, ⟨(some 65), none, (.app 1 8 [(.int .i64 0)] (.t 58) (.t 64))⟩, ⟨(some 4), none, (.mv (.t 65))⟩]) .skip)))) (.reg [⟨(some 18), none, (.mv (.t 5))⟩, ⟨(some 19), none, (.bin .add (.t 18) (.c (.int .i64 1)))⟩, ⟨(some 5), none, (.mv (.t 19))⟩])))))) (.seq (.reg [⟨(some 66), none, (.mv (.t 4))⟩, ⟨(some 2), none, (.mv (.t 66))⟩, ⟨(some 3), none, (.mv (.c (.bool true)))⟩]) .ret)))))
def ro25 : List AOp := [(.mv (.t 2)), (.mv (.t 3))]
theorem fun25 : Fun Try.prog 25 67 ac25 ro25 := ⟨Try.f25, _, Try.func25, by kernel_rfl, rfl, rfl, by kernel_rfl, by kernel_rfl, by decide⟩
def ac26 : AC := (.seq (.reg [⟨(some 2), none, (.mv (.c .nilS))⟩, ⟨(some 3), none, (.mv (.c (.bool false)))⟩]) (.seq (.seq (.reg [⟨(some 6), none, (.mv (.t 0))⟩, ⟨(some 7), none, (.call 13 [(.t 6)])⟩, ⟨(some 8), none, (.un .not (.t 7))⟩]) (.cond (.t 8) (.seq (.reg [⟨(some 2), none, (.mv (.c .nilS))⟩, ⟨(some 3), none, (.mv (.c (.bool false)))⟩]) .ret) .skip)) (.seq (.reg [⟨(some 9), none, (.bsl 1 [(.int .i64 0)] 0 [])⟩, ⟨(some 4), none, (.mv (.t 9))⟩]) (.seq (.seq (.reg [⟨(some 5), none, (.mv (.c (.int .i64 1)))⟩]) (.blk 0 (.loop (.seq (.seq (.reg [⟨(some 10), none, (.mv (.t 5))⟩, ⟨(some 11), none, (.bin .add (.t 10) (.c (.int .i64 1)))⟩, ⟨(some 12), none, (.mv (.t 0))⟩, ⟨(some 13), none, (.len (.t 12))⟩, ⟨(some 14), none, (.bin .lss (.t 11) (.t 13))⟩]) (.cond (.t 14) .skip (.exit 0))) (.seq (.blk 1 (.seq (.dreg [⟨(some 17), none, (.mv (.t 0))⟩, ⟨(some 18), none, (.mv (.t 5))⟩, ⟨(some 19), none, (.bin .sub (.t 18) (.c (.int .i64 1)))⟩, ⟨(some 20), none, (.ia 3 (.t 17) (.t 19))⟩, ⟨(some 21), none, (.fa 1 (.t 20))⟩, ⟨(some 22), none, (.ld false 1 (.t 21))⟩, ⟨(some 23), none, (.mv (.t 0))⟩, ⟨(some 24), none, (.mv (.t 5))⟩, ⟨(some 25), none, (.ia 3 (.t 23) (.t 24))⟩, ⟨(some 26), none, (.fa 1 (.t 25))⟩, ⟨(some 27), none, (.ld false 1 (.t 26))⟩, ⟨(some 28), none, (.bin .sub (.t 22) (.t 27))⟩, ⟨(some 29), none, (.mv (.t 0))⟩, ⟨(some 30), none, (.mv (.t 5))⟩, ⟨(some 31), none, (.bin .add (.t 30) (.c (.int .i64 1)))⟩, ⟨(some 32), none, (.ia 3 (.t 29) (.t 31))⟩, ⟨(some 33), none, (.fa 1 (.t 32))⟩, ⟨(some 34), none, (.ld false 1 (.t 33))⟩, ⟨(some 35), none, (.mv (.t 0))⟩, ⟨(some 36), none, (.mv (.t 5))⟩, ⟨(some 37), none, (.ia 3 (.t 35) (.t 36))⟩, ⟨(some 38), none, (.fa 1 (.t 37))⟩, ⟨(some 39), none, (.ld false 1 (.t 38))⟩, ⟨(some 40), none, (.bin .sub (.t 34) (.t 39))⟩, ⟨(some 41), none, (.bin .mul (.t 28) (.t 40))⟩, ⟨(some 42), none, (.bin .gtr (.t 41) (.c (.int .i64 0)))⟩] [[], [], [1], [0, 1, 2], [0, 1, 2, 3], [0, 1, 2, 3, 4], [], [], [6, 7], [6, 7, 8], [6, 7, 8, 9], [0, 1, 2, 3, 4, 5, 6, 7, 8, 9, 10], [], [], [13], [12, 13, 14], [12, 13, 14, 15], [12, 13, 14, 15, 16], [], [], [18, 19], [18, 19, 20], [18, 19, 20, 21], [12, 13, 14, 15, 16, 17, 18, 19, 20, 21, 22], [0, 1, 2, 3, 4, 5, 6, 7, 8, 9, 10, 11, 12, 13, 14, 15, 16, 17, 18, 19, 20, 21, 22, 23], [0, 1, 2, 3, 4, 5, 6, 7, 8, 9, 10, 11, 12, 13, 14, 15, 16, 17, 18, 19, 20, 21, 22, 23, 24]]) (.cond (.t 42) (.reg [⟨(some 43), none, (.mv (.t 4))⟩, ⟨(some 44), none, (.mv (.t 0))⟩, ⟨(some 45), none, (.mv (.t 5))⟩, ⟨(some 46), none, (.ia 3 (.t 44) (.t 45))⟩, ⟨(some 47), none, (.fa 0 (.t 46))⟩, ⟨(some 48), none, (.ld false 1 (.t 47))⟩, ⟨(some 49), none, (.bsl 1 [(.int .i64 0)] 1 [(0, (.t 48))])⟩, ⟨(some 50), none, (.app 1 8 [(.int .i64 0)] (.t 43) (.t 49))⟩, ⟨(some 4), none, (.mv (.t 50))⟩]) .skip))) (.reg [⟨(some 15), none, (.mv (.t 5))⟩, ⟨(some 16), none, (.bin .add (.t 15) (.c (.int .i64 1)))⟩, ⟨(some 5), none, (.mv (.t 16))⟩])))))) (.seq (.reg [⟨(some 51), none, (.mv (.t 4))⟩, ⟨(some 2), none, (.mv (.t 51))⟩, ⟨(some 3), none, (.mv (.c (.bool true)))⟩]) .ret)))))
def ro26 : List AOp := [(.mv (.t 2)), (.mv (.t 3))]
theorem fun26 : Fun Try.prog 26 52 ac26 ro26 := ⟨Try.f26, _, Try.func26, by kernel_rfl, rfl, rfl, by kernel_rfl, by kernel_rfl, by decide⟩

theorem mul_gt (a b : Int) : a * b > 0 ↔ (a > 0 ∧ b > 0) ∨ (a < 0 ∧ b < 0) := by
  constructor
  · intro h
    rcases Int.lt_trichotomy a 0 with ha | ha | ha
    · right
      refine ⟨ha, ?_⟩
      refine Classical.byContradiction fun hb => ?_
      have := Int.mul_nonpos_of_nonpos_of_nonneg (Int.le_of_lt ha) (show 0 ≤ b by omega)
      omega
    · subst ha; simp at h
    · left
      refine ⟨ha, ?_⟩
      refine Classical.byContradiction fun hb => ?_
      have := Int.mul_nonpos_of_nonneg_of_nonpos (Int.le_of_lt ha) (show b ≤ 0 by omega)
      omega
  · rintro (⟨h1, h2⟩ | ⟨h1, h2⟩)
    · exact Int.mul_pos h1 h2
    · exact Int.mul_pos_of_neg_of_neg h1 h2
def dl (xs : List CP) (i : Nat) : Int := (xs.getD (i - 1) default).a - (xs.getD i default).a
def dr' (xs : List CP) (i : Nat) : Int := (xs.getD (i + 1) default).a - (xs.getD i default).a
def tn (xs : List CP) (i : Nat) : Prop := (dl xs i > 0 ∧ dr' xs i > 0) ∨ (dl xs i < 0 ∧ dr' xs i < 0)
instance (xs : List CP) (i : Nat) : Decidable (tn xs i) := by unfold tn; infer_instance
/-- The years of the turns before a place. -/
def tl (xs : List CP) : Nat → List Int
  | 0 => []
  | i + 1 => if i = 0 then [] else tl xs i ++ (if tn xs i then [(xs.getD i default).y] else [])
theorem tl_one (xs : List CP) : tl xs 1 = [] := rfl
theorem tl_step (xs : List CP) {i : Nat} (h : 1 ≤ i) : tl xs (i + 1) = tl xs i ++ (if tn xs i then [(xs.getD i default).y] else []) := by
  simp only [tl]; rw [if_neg (by omega)]
theorem tl_yes (xs : List CP) {i : Nat} (h : 1 ≤ i) (ht : tn xs i) : tl xs (i + 1) = tl xs i ++ [(xs.getD i default).y] := by rw [tl_step xs h, if_pos ht]
theorem tl_no (xs : List CP) {i : Nat} (h : 1 ≤ i) (ht : ¬ tn xs i) : tl xs (i + 1) = tl xs i := by rw [tl_step xs h, if_neg ht, List.append_nil]
theorem tl_len (xs : List CP) : ∀ i, (tl xs i).length ≤ i
  | 0 => Nat.le_refl _
  | i + 1 => by
    have := tl_len xs i
    simp only [tl]
    split
    · simp
    · rw [List.length_append]; split <;> simp <;> omega
def turns (xs : List CP) : List Int := tl xs (xs.length - 1)

theorem mul_bb {a b : Int} (h1 : -60000 ≤ a) (h2 : a ≤ 60000) (h3 : -60000 ≤ b) (h4 : b ≤ 60000) : -4000000000 ≤ a * b ∧ a * b ≤ 4000000000 := by
  have hh : (a * b).natAbs ≤ 60000 * 60000 := by
    rw [Int.natAbs_mul]
    exact Nat.mul_le_mul (by omega) (by omega)
  omega
theorem con25_bad (nn : Bool) (xs : List CP) (hlen : xs.length ≤ 1048576) (hG : ¬ Good xs) : Con Try.prog 25 true [.vw nn (xs.map cpRow)] (.tup [.sl 0 1 0 0, .bool false]) [[]] := by
  classical
  refine con_of_wp mixed fun25 (by simp) [0] (plain_map iRow_plain []) ?_
  unfold ac25 ro25
  simp only [zipT]
  have c1 := con36 nn xs hlen
  rw [decide_eq_false hG] at c1
  repeat (first | refine wG_call c1 rfl rfl ?_ | (first
    | refine wC_seq ?_
    | refine wC_reg ?_
    | refine wC_dregq rfl ?_
    | refine wC_dregE ?_
    | refine wC_skip ?_
    | refine wC_blk ?_
    | refine wC_exit ?_
    | refine wC_ret ?_
    | refine q_seq_n ?_
    | refine q_seq_x ?_
    | refine q_seq_r ?_
    | refine q_blk_n ?_
    | refine q_blk_r ?_
    | refine q_blk_x ?_
    | refine q_blk_o rfl ?_
    | refine wG_nil ?_
    | refine wG_gy rfl ?_
    | refine wG_gn rfl rfl ?_
    | refine wG_gu rfl ?_
    | refine wC_cond_t rfl ?_
    | refine wC_cond_f rfl ?_
    | refine wG_pure (o_mv_int rfl) ?_
    | refine wG_pure (o_mv_bool rfl) ?_
    | refine wG_pure (o_mv_sl rfl) ?_
    | refine wG_pure (o_mv_pt rfl) ?_
    | refine wG_pure (o_mv_vw rfl) ?_
    | refine wG_pure (o_mv_vp rfl) ?_
    | refine wG_pure (o_mv_agg rfl) ?_
    | refine wG_pure (o_mv_nilS rfl) ?_
    | refine wG_pure (o_mv_str rfl) ?_
    | refine wG_pure (o_mv_fn rfl) ?_
    | refine wG_pure (o_mv_tup rfl) ?_
    | refine wG_pure (o_mv_nilP rfl) ?_
    | refine wG_pure (o_mv_nilF rfl) ?_
    | refine wG_pure (o_ldf_pt rfl rfl rfl rfl) ?_
    | refine wG_pure (o_ldt_pt rfl rfl rfl rfl rfl) ?_
    | refine wG_pure (o_ldf_vp rfl) ?_
    | refine wG_pure (o_ldt_vp rfl rfl rfl) ?_
    | refine wG_pure (o_fa_pt rfl) ?_
    | refine wG_pure (o_fa_vp rfl rfl) ?_
    | refine wG_pure (o_nck_pt rfl) ?_
    | refine wG_pure (o_nck_vp rfl) ?_
    | refine wG_pure (o_nck_fn rfl) ?_
    | refine wG_pure (e_ia_vw0 rfl rfl (by omega) rfl) ?_
    | refine wG_pure (e_ia_vwp rfl rfl (by omega) rfl) ?_
    | refine wG_pure (e_ia_vwm rfl rfl (by omega) (by omega) rfl) ?_
    | refine wG_pure (e_ia_vwi rfl rfl (by omega) rfl) ?_
    | refine wG_pure (e_ia_vwn rfl rfl (by omega) (by omega) rfl) ?_
    | refine wG_pure (e_add rfl rfl (by omega) (by omega)) ?_
    | refine wG_pure (e_sub rfl rfl (by omega) (by omega)) ?_
    | refine wG_pure (e_mul rfl rfl (by omega) (by omega)) ?_
    | refine wG_pure (o_lss rfl rfl) ?_
    | refine wG_pure (o_leq rfl rfl) ?_
    | refine wG_pure (o_gtr rfl rfl) ?_
    | refine wG_pure (o_geq rfl rfl) ?_
    | refine wG_pure (o_eql rfl rfl) ?_
    | refine wG_pure (o_neq rfl rfl) ?_
    | refine wG_pure (o_not_d rfl) ?_
    | refine wG_pure (o_not rfl) ?_
    | refine wG_pure (o_beq rfl rfl) ?_
    | refine wG_pure (o_bne rfl rfl) ?_
    | refine wG_pure (o_pick_t_int rfl rfl) ?_
    | refine wG_pure (o_pick_f_int rfl rfl) ?_
    | refine wG_pure (o_pick_t_bool rfl rfl) ?_
    | refine wG_pure (o_pick_f_bool rfl rfl) ?_
    | refine wG_pure (o_build rfl) ?_
    | refine wG_pure (o_isnil_vw rfl rfl) ?_
    | refine wG_pure (o_isnil_sl rfl rfl) ?_
    | refine wG_pure (o_isnil_nil rfl rfl) ?_
    | refine wG_pure (o_len_sl rfl) ?_
    | refine wG_pure (o_len_vwm rfl) ?_
    | refine wG_pure (o_len_vw rfl) ?_
    | refine wG_pure (o_len_nil rfl) ?_
    | refine wG_pure (o_slen rfl) ?_
    | refine wG_pure (o_fldf rfl rfl) ?_
    | refine wG_pure (o_fldt rfl rfl rfl) ?_
    | refine wG_pure (o_ext rfl rfl) ?_
    | refine wG_pure (o_mx rfl rfl) ?_
    | refine wG_pure (o_mn rfl rfl) ?_
    | refine wG_pure (o_neg rfl (by omega) (by omega)) ?_
    | refine wG_new (o_alloc) ?_
    | refine wG_new (o_bsl rfl) ?_
    | refine wG_new (o_box_agg rfl rfl) ?_
    | refine wG_new (o_box_int rfl) ?_
    | refine wG_new (o_box_bool rfl) ?_
    | refine wG_new (o_box_sl rfl) ?_
    | refine wG_new (o_box_pt rfl) ?_
    | refine wG_new (o_box_vw rfl) ?_
    | refine wG_new (o_box_vp rfl) ?_
    | refine wG_new (o_box_nilS rfl) ?_
    | refine wG_new (o_box_str rfl) ?_
    | refine wG_new (o_box_fn rfl) ?_
    | refine wG_new (o_box_nilP rfl) ?_
    | refine wG_new (o_box_nilF rfl) ?_
    | refine wG_new (o_mks rfl rfl (by omega) (by decide)) ?_
    | refine wG_upd (o_st_agg rfl rfl rfl rfl rfl rfl rfl) ?_
    | refine wG_upd (o_st_int rfl rfl rfl rfl rfl rfl) ?_
    | refine wG_upd (o_st_bool rfl rfl rfl rfl rfl rfl) ?_
    | refine wG_upd (o_st_sl rfl rfl rfl rfl rfl rfl) ?_
    | refine wG_upd (o_st_pt rfl rfl rfl rfl rfl rfl) ?_
    | refine wG_upd (o_st_vw rfl rfl rfl rfl rfl rfl) ?_
    | refine wG_upd (o_st_vp rfl rfl rfl rfl rfl rfl) ?_
    | refine wG_upd (o_st_nilS rfl rfl rfl rfl rfl rfl) ?_
    | refine wG_upd (o_st_str rfl rfl rfl rfl rfl rfl) ?_
    | refine wG_upd (o_st_fn rfl rfl rfl rfl rfl rfl) ?_
    | refine wG_upd (o_st_nilP rfl rfl rfl rfl rfl rfl) ?_
    | refine wG_upd (o_st_nilF rfl rfl rfl rfl rfl rfl) ?_))
  exact ret_sb (.inr rfl) rfl ⟨_, retV_mv rfl, retV_mv rfl, rfl⟩ rfl
theorem con26_bad (nn : Bool) (xs : List CP) (hlen : xs.length ≤ 1048576) (hG : ¬ Good xs) : Con Try.prog 26 true [.vw nn (xs.map cpRow)] (.tup [.nilS, .bool false]) [] := by
  classical
  refine con_of_wp mixed fun26 (by simp) [] plain_nil ?_
  unfold ac26 ro26
  simp only [zipT]
  have c1 := con13 nn xs hlen
  rw [decide_eq_false hG] at c1
  repeat (first | refine wG_call c1 rfl rfl ?_ | (first
    | refine wC_seq ?_
    | refine wC_reg ?_
    | refine wC_dregq rfl ?_
    | refine wC_dregE ?_
    | refine wC_skip ?_
    | refine wC_blk ?_
    | refine wC_exit ?_
    | refine wC_ret ?_
    | refine q_seq_n ?_
    | refine q_seq_x ?_
    | refine q_seq_r ?_
    | refine q_blk_n ?_
    | refine q_blk_r ?_
    | refine q_blk_x ?_
    | refine q_blk_o rfl ?_
    | refine wG_nil ?_
    | refine wG_gy rfl ?_
    | refine wG_gn rfl rfl ?_
    | refine wG_gu rfl ?_
    | refine wC_cond_t rfl ?_
    | refine wC_cond_f rfl ?_
    | refine wG_pure (o_mv_int rfl) ?_
    | refine wG_pure (o_mv_bool rfl) ?_
    | refine wG_pure (o_mv_sl rfl) ?_
    | refine wG_pure (o_mv_pt rfl) ?_
    | refine wG_pure (o_mv_vw rfl) ?_
    | refine wG_pure (o_mv_vp rfl) ?_
    | refine wG_pure (o_mv_agg rfl) ?_
    | refine wG_pure (o_mv_nilS rfl) ?_
    | refine wG_pure (o_mv_str rfl) ?_
    | refine wG_pure (o_mv_fn rfl) ?_
    | refine wG_pure (o_mv_tup rfl) ?_
    | refine wG_pure (o_mv_nilP rfl) ?_
    | refine wG_pure (o_mv_nilF rfl) ?_
    | refine wG_pure (o_ldf_pt rfl rfl rfl rfl) ?_
    | refine wG_pure (o_ldt_pt rfl rfl rfl rfl rfl) ?_
    | refine wG_pure (o_ldf_vp rfl) ?_
    | refine wG_pure (o_ldt_vp rfl rfl rfl) ?_
    | refine wG_pure (o_fa_pt rfl) ?_
    | refine wG_pure (o_fa_vp rfl rfl) ?_
    | refine wG_pure (o_nck_pt rfl) ?_
    | refine wG_pure (o_nck_vp rfl) ?_
    | refine wG_pure (o_nck_fn rfl) ?_
    | refine wG_pure (e_ia_vw0 rfl rfl (by omega) rfl) ?_
    | refine wG_pure (e_ia_vwp rfl rfl (by omega) rfl) ?_
    | refine wG_pure (e_ia_vwm rfl rfl (by omega) (by omega) rfl) ?_
    | refine wG_pure (e_ia_vwi rfl rfl (by omega) rfl) ?_
    | refine wG_pure (e_ia_vwn rfl rfl (by omega) (by omega) rfl) ?_
    | refine wG_pure (e_add rfl rfl (by omega) (by omega)) ?_
    | refine wG_pure (e_sub rfl rfl (by omega) (by omega)) ?_
    | refine wG_pure (e_mul rfl rfl (by omega) (by omega)) ?_
    | refine wG_pure (o_lss rfl rfl) ?_
    | refine wG_pure (o_leq rfl rfl) ?_
    | refine wG_pure (o_gtr rfl rfl) ?_
    | refine wG_pure (o_geq rfl rfl) ?_
    | refine wG_pure (o_eql rfl rfl) ?_
    | refine wG_pure (o_neq rfl rfl) ?_
    | refine wG_pure (o_not_d rfl) ?_
    | refine wG_pure (o_not rfl) ?_
    | refine wG_pure (o_beq rfl rfl) ?_
    | refine wG_pure (o_bne rfl rfl) ?_
    | refine wG_pure (o_pick_t_int rfl rfl) ?_
    | refine wG_pure (o_pick_f_int rfl rfl) ?_
    | refine wG_pure (o_pick_t_bool rfl rfl) ?_
    | refine wG_pure (o_pick_f_bool rfl rfl) ?_
    | refine wG_pure (o_build rfl) ?_
    | refine wG_pure (o_isnil_vw rfl rfl) ?_
    | refine wG_pure (o_isnil_sl rfl rfl) ?_
    | refine wG_pure (o_isnil_nil rfl rfl) ?_
    | refine wG_pure (o_len_sl rfl) ?_
    | refine wG_pure (o_len_vwm rfl) ?_
    | refine wG_pure (o_len_vw rfl) ?_
    | refine wG_pure (o_len_nil rfl) ?_
    | refine wG_pure (o_slen rfl) ?_
    | refine wG_pure (o_fldf rfl rfl) ?_
    | refine wG_pure (o_fldt rfl rfl rfl) ?_
    | refine wG_pure (o_ext rfl rfl) ?_
    | refine wG_pure (o_mx rfl rfl) ?_
    | refine wG_pure (o_mn rfl rfl) ?_
    | refine wG_pure (o_neg rfl (by omega) (by omega)) ?_
    | refine wG_new (o_alloc) ?_
    | refine wG_new (o_bsl rfl) ?_
    | refine wG_new (o_box_agg rfl rfl) ?_
    | refine wG_new (o_box_int rfl) ?_
    | refine wG_new (o_box_bool rfl) ?_
    | refine wG_new (o_box_sl rfl) ?_
    | refine wG_new (o_box_pt rfl) ?_
    | refine wG_new (o_box_vw rfl) ?_
    | refine wG_new (o_box_vp rfl) ?_
    | refine wG_new (o_box_nilS rfl) ?_
    | refine wG_new (o_box_str rfl) ?_
    | refine wG_new (o_box_fn rfl) ?_
    | refine wG_new (o_box_nilP rfl) ?_
    | refine wG_new (o_box_nilF rfl) ?_
    | refine wG_new (o_mks rfl rfl (by omega) (by decide)) ?_
    | refine wG_upd (o_st_agg rfl rfl rfl rfl rfl rfl rfl) ?_
    | refine wG_upd (o_st_int rfl rfl rfl rfl rfl rfl) ?_
    | refine wG_upd (o_st_bool rfl rfl rfl rfl rfl rfl) ?_
    | refine wG_upd (o_st_sl rfl rfl rfl rfl rfl rfl) ?_
    | refine wG_upd (o_st_pt rfl rfl rfl rfl rfl rfl) ?_
    | refine wG_upd (o_st_vw rfl rfl rfl rfl rfl rfl) ?_
    | refine wG_upd (o_st_vp rfl rfl rfl rfl rfl rfl) ?_
    | refine wG_upd (o_st_nilS rfl rfl rfl rfl rfl rfl) ?_
    | refine wG_upd (o_st_str rfl rfl rfl rfl rfl rfl) ?_
    | refine wG_upd (o_st_fn rfl rfl rfl rfl rfl rfl) ?_
    | refine wG_upd (o_st_nilP rfl rfl rfl rfl rfl rfl) ?_
    | refine wG_upd (o_st_nilF rfl rfl rfl rfl rfl rfl) ?_))
  exact ret_2 (.inr rfl) rfl rfl ⟨_, _, retV_mv rfl, retV_mv rfl, rfl, rfl⟩
theorem age_b {xs : List CP} (hG : Good xs) {i : Nat} (h : i < xs.length) : 0 ≤ (xs.getD i default).a ∧ (xs.getD i default).a ≤ 60000 := by
  have := hG.2.1 i h
  unfold okAt at this
  exact this.2.1
theorem con25 (nn : Bool) (xs : List CP) (hlen : xs.length ≤ 1048576) (hG : Good xs) : Con Try.prog 25 true [.vw nn (xs.map cpRow)] (.tup [.sl 0 1 0 (turns xs).length, .bool true]) [(turns xs).map iRow] := by
  classical
  refine con_of_wp mixed fun25 (by simp) [0] (plain_map iRow_plain _) ?_
  unfold ac25 ro25
  simp only [zipT]
  have c1 := con36 nn xs hlen
  rw [decide_eq_true hG] at c1
  have h2 := hG.1
  repeat (first | refine wG_call c1 rfl rfl ?_ | (first
    | refine wC_seq ?_
    | refine wC_reg ?_
    | refine wC_dregq rfl ?_
    | refine wC_dregE ?_
    | refine wC_skip ?_
    | refine wC_blk ?_
    | refine wC_exit ?_
    | refine wC_ret ?_
    | refine q_seq_n ?_
    | refine q_seq_x ?_
    | refine q_seq_r ?_
    | refine q_blk_n ?_
    | refine q_blk_r ?_
    | refine q_blk_x ?_
    | refine q_blk_o rfl ?_
    | refine wG_nil ?_
    | refine wG_gy rfl ?_
    | refine wG_gn rfl rfl ?_
    | refine wG_gu rfl ?_
    | refine wC_cond_t rfl ?_
    | refine wC_cond_f rfl ?_
    | refine wG_pure (o_mv_int rfl) ?_
    | refine wG_pure (o_mv_bool rfl) ?_
    | refine wG_pure (o_mv_sl rfl) ?_
    | refine wG_pure (o_mv_pt rfl) ?_
    | refine wG_pure (o_mv_vw rfl) ?_
    | refine wG_pure (o_mv_vp rfl) ?_
    | refine wG_pure (o_mv_agg rfl) ?_
    | refine wG_pure (o_mv_nilS rfl) ?_
    | refine wG_pure (o_mv_str rfl) ?_
    | refine wG_pure (o_mv_fn rfl) ?_
    | refine wG_pure (o_mv_tup rfl) ?_
    | refine wG_pure (o_mv_nilP rfl) ?_
    | refine wG_pure (o_mv_nilF rfl) ?_
    | refine wG_pure (o_ldf_pt rfl rfl rfl rfl) ?_
    | refine wG_pure (o_ldt_pt rfl rfl rfl rfl rfl) ?_
    | refine wG_pure (o_ldf_vp rfl) ?_
    | refine wG_pure (o_ldt_vp rfl rfl rfl) ?_
    | refine wG_pure (o_fa_pt rfl) ?_
    | refine wG_pure (o_fa_vp rfl rfl) ?_
    | refine wG_pure (o_nck_pt rfl) ?_
    | refine wG_pure (o_nck_vp rfl) ?_
    | refine wG_pure (o_nck_fn rfl) ?_
    | refine wG_pure (e_ia_vw0 rfl rfl (by omega) rfl) ?_
    | refine wG_pure (e_ia_vwp rfl rfl (by omega) rfl) ?_
    | refine wG_pure (e_ia_vwm rfl rfl (by omega) (by omega) rfl) ?_
    | refine wG_pure (e_ia_vwi rfl rfl (by omega) rfl) ?_
    | refine wG_pure (e_ia_vwn rfl rfl (by omega) (by omega) rfl) ?_
    | refine wG_pure (e_add rfl rfl (by omega) (by omega)) ?_
    | refine wG_pure (e_sub rfl rfl (by omega) (by omega)) ?_
    | refine wG_pure (e_mul rfl rfl (by omega) (by omega)) ?_
    | refine wG_pure (o_lss rfl rfl) ?_
    | refine wG_pure (o_leq rfl rfl) ?_
    | refine wG_pure (o_gtr rfl rfl) ?_
    | refine wG_pure (o_geq rfl rfl) ?_
    | refine wG_pure (o_eql rfl rfl) ?_
    | refine wG_pure (o_neq rfl rfl) ?_
    | refine wG_pure (o_not_d rfl) ?_
    | refine wG_pure (o_not rfl) ?_
    | refine wG_pure (o_beq rfl rfl) ?_
    | refine wG_pure (o_bne rfl rfl) ?_
    | refine wG_pure (o_pick_t_int rfl rfl) ?_
    | refine wG_pure (o_pick_f_int rfl rfl) ?_
    | refine wG_pure (o_pick_t_bool rfl rfl) ?_
    | refine wG_pure (o_pick_f_bool rfl rfl) ?_
    | refine wG_pure (o_build rfl) ?_
    | refine wG_pure (o_isnil_vw rfl rfl) ?_
    | refine wG_pure (o_isnil_sl rfl rfl) ?_
    | refine wG_pure (o_isnil_nil rfl rfl) ?_
    | refine wG_pure (o_len_sl rfl) ?_
    | refine wG_pure (o_len_vwm rfl) ?_
    | refine wG_pure (o_len_vw rfl) ?_
    | refine wG_pure (o_len_nil rfl) ?_
    | refine wG_pure (o_slen rfl) ?_
    | refine wG_pure (o_fldf rfl rfl) ?_
    | refine wG_pure (o_fldt rfl rfl rfl) ?_
    | refine wG_pure (o_ext rfl rfl) ?_
    | refine wG_pure (o_mx rfl rfl) ?_
    | refine wG_pure (o_mn rfl rfl) ?_
    | refine wG_pure (o_neg rfl (by omega) (by omega)) ?_
    | refine wG_new (o_alloc) ?_
    | refine wG_new (o_bsl rfl) ?_
    | refine wG_new (o_box_agg rfl rfl) ?_
    | refine wG_new (o_box_int rfl) ?_
    | refine wG_new (o_box_bool rfl) ?_
    | refine wG_new (o_box_sl rfl) ?_
    | refine wG_new (o_box_pt rfl) ?_
    | refine wG_new (o_box_vw rfl) ?_
    | refine wG_new (o_box_vp rfl) ?_
    | refine wG_new (o_box_nilS rfl) ?_
    | refine wG_new (o_box_str rfl) ?_
    | refine wG_new (o_box_fn rfl) ?_
    | refine wG_new (o_box_nilP rfl) ?_
    | refine wG_new (o_box_nilF rfl) ?_
    | refine wG_new (o_mks rfl rfl (by omega) (by decide)) ?_
    | refine wG_upd (o_st_agg rfl rfl rfl rfl rfl rfl rfl) ?_
    | refine wG_upd (o_st_int rfl rfl rfl rfl rfl rfl) ?_
    | refine wG_upd (o_st_bool rfl rfl rfl rfl rfl rfl) ?_
    | refine wG_upd (o_st_sl rfl rfl rfl rfl rfl rfl) ?_
    | refine wG_upd (o_st_pt rfl rfl rfl rfl rfl rfl) ?_
    | refine wG_upd (o_st_vw rfl rfl rfl rfl rfl rfl) ?_
    | refine wG_upd (o_st_vp rfl rfl rfl rfl rfl rfl) ?_
    | refine wG_upd (o_st_nilS rfl rfl rfl rfl rfl rfl) ?_
    | refine wG_upd (o_st_str rfl rfl rfl rfl rfl rfl) ?_
    | refine wG_upd (o_st_fn rfl rfl rfl rfl rfl rfl) ?_
    | refine wG_upd (o_st_nilP rfl rfl rfl rfl rfl rfl) ?_
    | refine wG_upd (o_st_nilF rfl rfl rfl rfl rfl rfl) ?_))
  refine wC_loopR Nat (fun i => ⟨[(0, .vw nn (xs.map cpRow)), (4, .sl 0 1 0 (tl xs i).length), (5, .int .i64 (i : Int))], [(0, some ((tl xs i).map iRow))], 1⟩) (fun i => 1 ≤ i ∧ i ≤ xs.length - 1) (fun i => xs.length - i) 1 ⟨by omega, by omega⟩ ⟨[0], ?_⟩ ?_
  · exact ⟨⟨⟨rfl, rfl⟩, ⟨rfl, rfl⟩, ⟨rfl, rfl⟩, trivial⟩, ⟨⟨⟨_, rfl, rfl⟩, Nat.zero_lt_one, ltrI _ _⟩, trivial⟩, rfl, by decide⟩
  rintro i ⟨hi1, hi2⟩
  repeat (first
    | refine wC_seq ?_
    | refine wC_reg ?_
    | refine wC_dregq rfl ?_
    | refine wC_dregE ?_
    | refine wC_skip ?_
    | refine wC_blk ?_
    | refine wC_exit ?_
    | refine wC_ret ?_
    | refine q_seq_n ?_
    | refine q_seq_x ?_
    | refine q_seq_r ?_
    | refine q_blk_n ?_
    | refine q_blk_r ?_
    | refine q_blk_x ?_
    | refine q_blk_o rfl ?_
    | refine wG_nil ?_
    | refine wG_gy rfl ?_
    | refine wG_gn rfl rfl ?_
    | refine wG_gu rfl ?_
    | refine wC_cond_t rfl ?_
    | refine wC_cond_f rfl ?_
    | refine wG_pure (o_mv_int rfl) ?_
    | refine wG_pure (o_mv_bool rfl) ?_
    | refine wG_pure (o_mv_sl rfl) ?_
    | refine wG_pure (o_mv_pt rfl) ?_
    | refine wG_pure (o_mv_vw rfl) ?_
    | refine wG_pure (o_mv_vp rfl) ?_
    | refine wG_pure (o_mv_agg rfl) ?_
    | refine wG_pure (o_mv_nilS rfl) ?_
    | refine wG_pure (o_mv_str rfl) ?_
    | refine wG_pure (o_mv_fn rfl) ?_
    | refine wG_pure (o_mv_tup rfl) ?_
    | refine wG_pure (o_mv_nilP rfl) ?_
    | refine wG_pure (o_mv_nilF rfl) ?_
    | refine wG_pure (o_ldf_pt rfl rfl rfl rfl) ?_
    | refine wG_pure (o_ldt_pt rfl rfl rfl rfl rfl) ?_
    | refine wG_pure (o_ldf_vp rfl) ?_
    | refine wG_pure (o_ldt_vp rfl rfl rfl) ?_
    | refine wG_pure (o_fa_pt rfl) ?_
    | refine wG_pure (o_fa_vp rfl rfl) ?_
    | refine wG_pure (o_nck_pt rfl) ?_
    | refine wG_pure (o_nck_vp rfl) ?_
    | refine wG_pure (o_nck_fn rfl) ?_
    | refine wG_pure (e_ia_vw0 rfl rfl (by omega) rfl) ?_
    | refine wG_pure (e_ia_vwp rfl rfl (by omega) rfl) ?_
    | refine wG_pure (e_ia_vwm rfl rfl (by omega) (by omega) rfl) ?_
    | refine wG_pure (e_ia_vwi rfl rfl (by omega) rfl) ?_
    | refine wG_pure (e_ia_vwn rfl rfl (by omega) (by omega) rfl) ?_
    | refine wG_pure (e_add rfl rfl (by omega) (by omega)) ?_
    | refine wG_pure (e_sub rfl rfl (by omega) (by omega)) ?_
    | refine wG_pure (e_mul rfl rfl (by omega) (by omega)) ?_
    | refine wG_pure (o_lss rfl rfl) ?_
    | refine wG_pure (o_leq rfl rfl) ?_
    | refine wG_pure (o_gtr rfl rfl) ?_
    | refine wG_pure (o_geq rfl rfl) ?_
    | refine wG_pure (o_eql rfl rfl) ?_
    | refine wG_pure (o_neq rfl rfl) ?_
    | refine wG_pure (o_not_d rfl) ?_
    | refine wG_pure (o_not rfl) ?_
    | refine wG_pure (o_beq rfl rfl) ?_
    | refine wG_pure (o_bne rfl rfl) ?_
    | refine wG_pure (o_pick_t_int rfl rfl) ?_
    | refine wG_pure (o_pick_f_int rfl rfl) ?_
    | refine wG_pure (o_pick_t_bool rfl rfl) ?_
    | refine wG_pure (o_pick_f_bool rfl rfl) ?_
    | refine wG_pure (o_build rfl) ?_
    | refine wG_pure (o_isnil_vw rfl rfl) ?_
    | refine wG_pure (o_isnil_sl rfl rfl) ?_
    | refine wG_pure (o_isnil_nil rfl rfl) ?_
    | refine wG_pure (o_len_sl rfl) ?_
    | refine wG_pure (o_len_vwm rfl) ?_
    | refine wG_pure (o_len_vw rfl) ?_
    | refine wG_pure (o_len_nil rfl) ?_
    | refine wG_pure (o_slen rfl) ?_
    | refine wG_pure (o_fldf rfl rfl) ?_
    | refine wG_pure (o_fldt rfl rfl rfl) ?_
    | refine wG_pure (o_ext rfl rfl) ?_
    | refine wG_pure (o_mx rfl rfl) ?_
    | refine wG_pure (o_mn rfl rfl) ?_
    | refine wG_pure (o_neg rfl (by omega) (by omega)) ?_
    | refine wG_new (o_alloc) ?_
    | refine wG_new (o_bsl rfl) ?_
    | refine wG_new (o_box_agg rfl rfl) ?_
    | refine wG_new (o_box_int rfl) ?_
    | refine wG_new (o_box_bool rfl) ?_
    | refine wG_new (o_box_sl rfl) ?_
    | refine wG_new (o_box_pt rfl) ?_
    | refine wG_new (o_box_vw rfl) ?_
    | refine wG_new (o_box_vp rfl) ?_
    | refine wG_new (o_box_nilS rfl) ?_
    | refine wG_new (o_box_str rfl) ?_
    | refine wG_new (o_box_fn rfl) ?_
    | refine wG_new (o_box_nilP rfl) ?_
    | refine wG_new (o_box_nilF rfl) ?_
    | refine wG_new (o_mks rfl rfl (by omega) (by decide)) ?_
    | refine wG_upd (o_st_agg rfl rfl rfl rfl rfl rfl rfl) ?_
    | refine wG_upd (o_st_int rfl rfl rfl rfl rfl rfl) ?_
    | refine wG_upd (o_st_bool rfl rfl rfl rfl rfl rfl) ?_
    | refine wG_upd (o_st_sl rfl rfl rfl rfl rfl rfl) ?_
    | refine wG_upd (o_st_pt rfl rfl rfl rfl rfl rfl) ?_
    | refine wG_upd (o_st_vw rfl rfl rfl rfl rfl rfl) ?_
    | refine wG_upd (o_st_vp rfl rfl rfl rfl rfl rfl) ?_
    | refine wG_upd (o_st_nilS rfl rfl rfl rfl rfl rfl) ?_
    | refine wG_upd (o_st_str rfl rfl rfl rfl rfl rfl) ?_
    | refine wG_upd (o_st_fn rfl rfl rfl rfl rfl rfl) ?_
    | refine wG_upd (o_st_nilP rfl rfl rfl rfl rfl rfl) ?_
    | refine wG_upd (o_st_nilF rfl rfl rfl rfl rfl rfl) ?_)
  refine wC_cond_d rfl (fun h3 => ?_) (fun h3 => ?_)
  · have hi3 : i + 1 < xs.length := by omega
    have ha := age_b hG (i := i - 1) (by omega)
    have hb := age_b hG (i := i) (by omega)
    have hc := age_b hG (i := i + 1) hi3
    have hm := mul_gt (dl xs i) (dr' xs i)
    have hl : (tl xs i).length ≤ 40 := by have := tl_len xs i; omega
    have hab : -4000000000 ≤ ((xs.getD (i - 1) default).a - (xs.getD i default).a) * ((xs.getD (i + 1) default).a - (xs.getD i default).a) ∧ ((xs.getD (i - 1) default).a - (xs.getD i default).a) * ((xs.getD (i + 1) default).a - (xs.getD i default).a) ≤ 4000000000 := mul_bb (by omega) (by omega) (by omega) (by omega)
    repeat' (first | refine wG_app rfl rfl (by simp) (rows_sl rfl rfl rfl) (by simp) (by simp; omega) (by decide) ?_ | (first
    | refine wC_seq ?_
    | refine wC_reg ?_
    | refine wC_dregq rfl ?_
    | refine wC_dregE ?_
    | refine wC_skip ?_
    | refine wC_blk ?_
    | refine wC_exit ?_
    | refine wC_ret ?_
    | refine q_seq_n ?_
    | refine q_seq_x ?_
    | refine q_seq_r ?_
    | refine q_blk_n ?_
    | refine q_blk_r ?_
    | refine q_blk_x ?_
    | refine q_blk_o rfl ?_
    | refine wG_nil ?_
    | refine wG_gy rfl ?_
    | refine wG_gn rfl rfl ?_
    | refine wG_gu rfl ?_
    | refine wC_cond_t rfl ?_
    | refine wC_cond_f rfl ?_
    | refine wG_pure (o_mv_int rfl) ?_
    | refine wG_pure (o_mv_bool rfl) ?_
    | refine wG_pure (o_mv_sl rfl) ?_
    | refine wG_pure (o_mv_pt rfl) ?_
    | refine wG_pure (o_mv_vw rfl) ?_
    | refine wG_pure (o_mv_vp rfl) ?_
    | refine wG_pure (o_mv_agg rfl) ?_
    | refine wG_pure (o_mv_nilS rfl) ?_
    | refine wG_pure (o_mv_str rfl) ?_
    | refine wG_pure (o_mv_fn rfl) ?_
    | refine wG_pure (o_mv_tup rfl) ?_
    | refine wG_pure (o_mv_nilP rfl) ?_
    | refine wG_pure (o_mv_nilF rfl) ?_
    | refine wG_pure (o_ldf_pt rfl rfl rfl rfl) ?_
    | refine wG_pure (o_ldt_pt rfl rfl rfl rfl rfl) ?_
    | refine wG_pure (o_ldf_vp rfl) ?_
    | refine wG_pure (o_ldt_vp rfl rfl rfl) ?_
    | refine wG_pure (o_fa_pt rfl) ?_
    | refine wG_pure (o_fa_vp rfl rfl) ?_
    | refine wG_pure (o_nck_pt rfl) ?_
    | refine wG_pure (o_nck_vp rfl) ?_
    | refine wG_pure (o_nck_fn rfl) ?_
    | refine wG_pure (e_ia_vw0 rfl rfl (by omega) rfl) ?_
    | refine wG_pure (e_ia_vwp rfl rfl (by omega) rfl) ?_
    | refine wG_pure (e_ia_vwm rfl rfl (by omega) (by omega) rfl) ?_
    | refine wG_pure (e_ia_vwi rfl rfl (by omega) rfl) ?_
    | refine wG_pure (e_ia_vwn rfl rfl (by omega) (by omega) rfl) ?_
    | refine wG_pure (e_add rfl rfl (by omega) (by omega)) ?_
    | refine wG_pure (e_sub rfl rfl (by omega) (by omega)) ?_
    | refine wG_pure (e_mul rfl rfl (by omega) (by omega)) ?_
    | refine wG_pure (o_lss rfl rfl) ?_
    | refine wG_pure (o_leq rfl rfl) ?_
    | refine wG_pure (o_gtr rfl rfl) ?_
    | refine wG_pure (o_geq rfl rfl) ?_
    | refine wG_pure (o_eql rfl rfl) ?_
    | refine wG_pure (o_neq rfl rfl) ?_
    | refine wG_pure (o_not_d rfl) ?_
    | refine wG_pure (o_not rfl) ?_
    | refine wG_pure (o_beq rfl rfl) ?_
    | refine wG_pure (o_bne rfl rfl) ?_
    | refine wG_pure (o_pick_t_int rfl rfl) ?_
    | refine wG_pure (o_pick_f_int rfl rfl) ?_
    | refine wG_pure (o_pick_t_bool rfl rfl) ?_
    | refine wG_pure (o_pick_f_bool rfl rfl) ?_
    | refine wG_pure (o_build rfl) ?_
    | refine wG_pure (o_isnil_vw rfl rfl) ?_
    | refine wG_pure (o_isnil_sl rfl rfl) ?_
    | refine wG_pure (o_isnil_nil rfl rfl) ?_
    | refine wG_pure (o_len_sl rfl) ?_
    | refine wG_pure (o_len_vwm rfl) ?_
    | refine wG_pure (o_len_vw rfl) ?_
    | refine wG_pure (o_len_nil rfl) ?_
    | refine wG_pure (o_slen rfl) ?_
    | refine wG_pure (o_fldf rfl rfl) ?_
    | refine wG_pure (o_fldt rfl rfl rfl) ?_
    | refine wG_pure (o_ext rfl rfl) ?_
    | refine wG_pure (o_mx rfl rfl) ?_
    | refine wG_pure (o_mn rfl rfl) ?_
    | refine wG_pure (o_neg rfl (by omega) (by omega)) ?_
    | refine wG_new (o_alloc) ?_
    | refine wG_new (o_bsl rfl) ?_
    | refine wG_new (o_box_agg rfl rfl) ?_
    | refine wG_new (o_box_int rfl) ?_
    | refine wG_new (o_box_bool rfl) ?_
    | refine wG_new (o_box_sl rfl) ?_
    | refine wG_new (o_box_pt rfl) ?_
    | refine wG_new (o_box_vw rfl) ?_
    | refine wG_new (o_box_vp rfl) ?_
    | refine wG_new (o_box_nilS rfl) ?_
    | refine wG_new (o_box_str rfl) ?_
    | refine wG_new (o_box_fn rfl) ?_
    | refine wG_new (o_box_nilP rfl) ?_
    | refine wG_new (o_box_nilF rfl) ?_
    | refine wG_new (o_mks rfl rfl (by omega) (by decide)) ?_
    | refine wG_upd (o_st_agg rfl rfl rfl rfl rfl rfl rfl) ?_
    | refine wG_upd (o_st_int rfl rfl rfl rfl rfl rfl) ?_
    | refine wG_upd (o_st_bool rfl rfl rfl rfl rfl rfl) ?_
    | refine wG_upd (o_st_sl rfl rfl rfl rfl rfl rfl) ?_
    | refine wG_upd (o_st_pt rfl rfl rfl rfl rfl rfl) ?_
    | refine wG_upd (o_st_vw rfl rfl rfl rfl rfl rfl) ?_
    | refine wG_upd (o_st_vp rfl rfl rfl rfl rfl rfl) ?_
    | refine wG_upd (o_st_nilS rfl rfl rfl rfl rfl rfl) ?_
    | refine wG_upd (o_st_str rfl rfl rfl rfl rfl rfl) ?_
    | refine wG_upd (o_st_fn rfl rfl rfl rfl rfl rfl) ?_
    | refine wG_upd (o_st_nilP rfl rfl rfl rfl rfl rfl) ?_
    | refine wG_upd (o_st_nilF rfl rfl rfl rfl rfl rfl) ?_) | (refine wG_gd rfl (fun hgt => ?_) (fun hgf => ?_) <;> (first | simp only [eq_true hgt, decide_true] | simp only [eq_false hgf, decide_false])) | refine wC_cond_d rfl (fun hg => ?_) (fun hg => ?_))
    all_goals (first
      | (have ht : tn xs i := by unfold tn dl dr' at *; omega
         refine ⟨i + 1, by omega, by omega, [2], ?_⟩
         rw [tl_yes xs hi1 ht]
         refine ⟨⟨⟨rfl, rfl⟩, ⟨by simp [lk, rn, πof], rfl⟩, ⟨rfl, rfl⟩, trivial⟩, ⟨⟨⟨_, rfl, ?_⟩, Nat.zero_lt_one, ltrI _ _⟩, trivial⟩, rfl, by decide⟩
         rw [← rn_rows (rowsP _), List.map_append]; rfl)
      | (have ht : ¬ tn xs i := by unfold tn dl dr' at *; omega
         refine ⟨i + 1, by omega, by omega, [0], ?_⟩
         rw [tl_no xs hi1 ht]
         exact ⟨⟨⟨rfl, rfl⟩, ⟨rfl, rfl⟩, ⟨rfl, rfl⟩, trivial⟩, ⟨⟨⟨_, rfl, rn_rows (rowsP _)⟩, Nat.zero_lt_one, ltrI _ _⟩, trivial⟩, rfl, by decide⟩)
      | trace_state)
  · have hi3 : i = xs.length - 1 := by omega
    subst hi3
    repeat (first
    | refine wC_seq ?_
    | refine wC_reg ?_
    | refine wC_dregq rfl ?_
    | refine wC_dregE ?_
    | refine wC_skip ?_
    | refine wC_blk ?_
    | refine wC_exit ?_
    | refine wC_ret ?_
    | refine q_seq_n ?_
    | refine q_seq_x ?_
    | refine q_seq_r ?_
    | refine q_blk_n ?_
    | refine q_blk_r ?_
    | refine q_blk_x ?_
    | refine q_blk_o rfl ?_
    | refine wG_nil ?_
    | refine wG_gy rfl ?_
    | refine wG_gn rfl rfl ?_
    | refine wG_gu rfl ?_
    | refine wC_cond_t rfl ?_
    | refine wC_cond_f rfl ?_
    | refine wG_pure (o_mv_int rfl) ?_
    | refine wG_pure (o_mv_bool rfl) ?_
    | refine wG_pure (o_mv_sl rfl) ?_
    | refine wG_pure (o_mv_pt rfl) ?_
    | refine wG_pure (o_mv_vw rfl) ?_
    | refine wG_pure (o_mv_vp rfl) ?_
    | refine wG_pure (o_mv_agg rfl) ?_
    | refine wG_pure (o_mv_nilS rfl) ?_
    | refine wG_pure (o_mv_str rfl) ?_
    | refine wG_pure (o_mv_fn rfl) ?_
    | refine wG_pure (o_mv_tup rfl) ?_
    | refine wG_pure (o_mv_nilP rfl) ?_
    | refine wG_pure (o_mv_nilF rfl) ?_
    | refine wG_pure (o_ldf_pt rfl rfl rfl rfl) ?_
    | refine wG_pure (o_ldt_pt rfl rfl rfl rfl rfl) ?_
    | refine wG_pure (o_ldf_vp rfl) ?_
    | refine wG_pure (o_ldt_vp rfl rfl rfl) ?_
    | refine wG_pure (o_fa_pt rfl) ?_
    | refine wG_pure (o_fa_vp rfl rfl) ?_
    | refine wG_pure (o_nck_pt rfl) ?_
    | refine wG_pure (o_nck_vp rfl) ?_
    | refine wG_pure (o_nck_fn rfl) ?_
    | refine wG_pure (e_ia_vw0 rfl rfl (by omega) rfl) ?_
    | refine wG_pure (e_ia_vwp rfl rfl (by omega) rfl) ?_
    | refine wG_pure (e_ia_vwm rfl rfl (by omega) (by omega) rfl) ?_
    | refine wG_pure (e_ia_vwi rfl rfl (by omega) rfl) ?_
    | refine wG_pure (e_ia_vwn rfl rfl (by omega) (by omega) rfl) ?_
    | refine wG_pure (e_add rfl rfl (by omega) (by omega)) ?_
    | refine wG_pure (e_sub rfl rfl (by omega) (by omega)) ?_
    | refine wG_pure (e_mul rfl rfl (by omega) (by omega)) ?_
    | refine wG_pure (o_lss rfl rfl) ?_
    | refine wG_pure (o_leq rfl rfl) ?_
    | refine wG_pure (o_gtr rfl rfl) ?_
    | refine wG_pure (o_geq rfl rfl) ?_
    | refine wG_pure (o_eql rfl rfl) ?_
    | refine wG_pure (o_neq rfl rfl) ?_
    | refine wG_pure (o_not_d rfl) ?_
    | refine wG_pure (o_not rfl) ?_
    | refine wG_pure (o_beq rfl rfl) ?_
    | refine wG_pure (o_bne rfl rfl) ?_
    | refine wG_pure (o_pick_t_int rfl rfl) ?_
    | refine wG_pure (o_pick_f_int rfl rfl) ?_
    | refine wG_pure (o_pick_t_bool rfl rfl) ?_
    | refine wG_pure (o_pick_f_bool rfl rfl) ?_
    | refine wG_pure (o_build rfl) ?_
    | refine wG_pure (o_isnil_vw rfl rfl) ?_
    | refine wG_pure (o_isnil_sl rfl rfl) ?_
    | refine wG_pure (o_isnil_nil rfl rfl) ?_
    | refine wG_pure (o_len_sl rfl) ?_
    | refine wG_pure (o_len_vwm rfl) ?_
    | refine wG_pure (o_len_vw rfl) ?_
    | refine wG_pure (o_len_nil rfl) ?_
    | refine wG_pure (o_slen rfl) ?_
    | refine wG_pure (o_fldf rfl rfl) ?_
    | refine wG_pure (o_fldt rfl rfl rfl) ?_
    | refine wG_pure (o_ext rfl rfl) ?_
    | refine wG_pure (o_mx rfl rfl) ?_
    | refine wG_pure (o_mn rfl rfl) ?_
    | refine wG_pure (o_neg rfl (by omega) (by omega)) ?_
    | refine wG_new (o_alloc) ?_
    | refine wG_new (o_bsl rfl) ?_
    | refine wG_new (o_box_agg rfl rfl) ?_
    | refine wG_new (o_box_int rfl) ?_
    | refine wG_new (o_box_bool rfl) ?_
    | refine wG_new (o_box_sl rfl) ?_
    | refine wG_new (o_box_pt rfl) ?_
    | refine wG_new (o_box_vw rfl) ?_
    | refine wG_new (o_box_vp rfl) ?_
    | refine wG_new (o_box_nilS rfl) ?_
    | refine wG_new (o_box_str rfl) ?_
    | refine wG_new (o_box_fn rfl) ?_
    | refine wG_new (o_box_nilP rfl) ?_
    | refine wG_new (o_box_nilF rfl) ?_
    | refine wG_new (o_mks rfl rfl (by omega) (by decide)) ?_
    | refine wG_upd (o_st_agg rfl rfl rfl rfl rfl rfl rfl) ?_
    | refine wG_upd (o_st_int rfl rfl rfl rfl rfl rfl) ?_
    | refine wG_upd (o_st_bool rfl rfl rfl rfl rfl rfl) ?_
    | refine wG_upd (o_st_sl rfl rfl rfl rfl rfl rfl) ?_
    | refine wG_upd (o_st_pt rfl rfl rfl rfl rfl rfl) ?_
    | refine wG_upd (o_st_vw rfl rfl rfl rfl rfl rfl) ?_
    | refine wG_upd (o_st_vp rfl rfl rfl rfl rfl rfl) ?_
    | refine wG_upd (o_st_nilS rfl rfl rfl rfl rfl rfl) ?_
    | refine wG_upd (o_st_str rfl rfl rfl rfl rfl rfl) ?_
    | refine wG_upd (o_st_fn rfl rfl rfl rfl rfl rfl) ?_
    | refine wG_upd (o_st_nilP rfl rfl rfl rfl rfl rfl) ?_
    | refine wG_upd (o_st_nilF rfl rfl rfl rfl rfl rfl) ?_)
    exact ret_sb (.inr rfl) rfl ⟨_, retV_mv rfl, retV_mv rfl, rfl⟩ rfl
theorem con26 (nn : Bool) (xs : List CP) (hlen : xs.length ≤ 1048576) (hG : Good xs) : Con Try.prog 26 true [.vw nn (xs.map cpRow)] (.tup [.sl 0 1 0 (turns xs).length, .bool true]) [(turns xs).map iRow] := by
  classical
  refine con_of_wp mixed fun26 (by simp) [0] (plain_map iRow_plain _) ?_
  unfold ac26 ro26
  simp only [zipT]
  have c1 := con13 nn xs hlen
  rw [decide_eq_true hG] at c1
  have h2 := hG.1
  repeat (first | refine wG_call c1 rfl rfl ?_ | (first
    | refine wC_seq ?_
    | refine wC_reg ?_
    | refine wC_dregq rfl ?_
    | refine wC_dregE ?_
    | refine wC_skip ?_
    | refine wC_blk ?_
    | refine wC_exit ?_
    | refine wC_ret ?_
    | refine q_seq_n ?_
    | refine q_seq_x ?_
    | refine q_seq_r ?_
    | refine q_blk_n ?_
    | refine q_blk_r ?_
    | refine q_blk_x ?_
    | refine q_blk_o rfl ?_
    | refine wG_nil ?_
    | refine wG_gy rfl ?_
    | refine wG_gn rfl rfl ?_
    | refine wG_gu rfl ?_
    | refine wC_cond_t rfl ?_
    | refine wC_cond_f rfl ?_
    | refine wG_pure (o_mv_int rfl) ?_
    | refine wG_pure (o_mv_bool rfl) ?_
    | refine wG_pure (o_mv_sl rfl) ?_
    | refine wG_pure (o_mv_pt rfl) ?_
    | refine wG_pure (o_mv_vw rfl) ?_
    | refine wG_pure (o_mv_vp rfl) ?_
    | refine wG_pure (o_mv_agg rfl) ?_
    | refine wG_pure (o_mv_nilS rfl) ?_
    | refine wG_pure (o_mv_str rfl) ?_
    | refine wG_pure (o_mv_fn rfl) ?_
    | refine wG_pure (o_mv_tup rfl) ?_
    | refine wG_pure (o_mv_nilP rfl) ?_
    | refine wG_pure (o_mv_nilF rfl) ?_
    | refine wG_pure (o_ldf_pt rfl rfl rfl rfl) ?_
    | refine wG_pure (o_ldt_pt rfl rfl rfl rfl rfl) ?_
    | refine wG_pure (o_ldf_vp rfl) ?_
    | refine wG_pure (o_ldt_vp rfl rfl rfl) ?_
    | refine wG_pure (o_fa_pt rfl) ?_
    | refine wG_pure (o_fa_vp rfl rfl) ?_
    | refine wG_pure (o_nck_pt rfl) ?_
    | refine wG_pure (o_nck_vp rfl) ?_
    | refine wG_pure (o_nck_fn rfl) ?_
    | refine wG_pure (e_ia_vw0 rfl rfl (by omega) rfl) ?_
    | refine wG_pure (e_ia_vwp rfl rfl (by omega) rfl) ?_
    | refine wG_pure (e_ia_vwm rfl rfl (by omega) (by omega) rfl) ?_
    | refine wG_pure (e_ia_vwi rfl rfl (by omega) rfl) ?_
    | refine wG_pure (e_ia_vwn rfl rfl (by omega) (by omega) rfl) ?_
    | refine wG_pure (e_add rfl rfl (by omega) (by omega)) ?_
    | refine wG_pure (e_sub rfl rfl (by omega) (by omega)) ?_
    | refine wG_pure (e_mul rfl rfl (by omega) (by omega)) ?_
    | refine wG_pure (o_lss rfl rfl) ?_
    | refine wG_pure (o_leq rfl rfl) ?_
    | refine wG_pure (o_gtr rfl rfl) ?_
    | refine wG_pure (o_geq rfl rfl) ?_
    | refine wG_pure (o_eql rfl rfl) ?_
    | refine wG_pure (o_neq rfl rfl) ?_
    | refine wG_pure (o_not_d rfl) ?_
    | refine wG_pure (o_not rfl) ?_
    | refine wG_pure (o_beq rfl rfl) ?_
    | refine wG_pure (o_bne rfl rfl) ?_
    | refine wG_pure (o_pick_t_int rfl rfl) ?_
    | refine wG_pure (o_pick_f_int rfl rfl) ?_
    | refine wG_pure (o_pick_t_bool rfl rfl) ?_
    | refine wG_pure (o_pick_f_bool rfl rfl) ?_
    | refine wG_pure (o_build rfl) ?_
    | refine wG_pure (o_isnil_vw rfl rfl) ?_
    | refine wG_pure (o_isnil_sl rfl rfl) ?_
    | refine wG_pure (o_isnil_nil rfl rfl) ?_
    | refine wG_pure (o_len_sl rfl) ?_
    | refine wG_pure (o_len_vwm rfl) ?_
    | refine wG_pure (o_len_vw rfl) ?_
    | refine wG_pure (o_len_nil rfl) ?_
    | refine wG_pure (o_slen rfl) ?_
    | refine wG_pure (o_fldf rfl rfl) ?_
    | refine wG_pure (o_fldt rfl rfl rfl) ?_
    | refine wG_pure (o_ext rfl rfl) ?_
    | refine wG_pure (o_mx rfl rfl) ?_
    | refine wG_pure (o_mn rfl rfl) ?_
    | refine wG_pure (o_neg rfl (by omega) (by omega)) ?_
    | refine wG_new (o_alloc) ?_
    | refine wG_new (o_bsl rfl) ?_
    | refine wG_new (o_box_agg rfl rfl) ?_
    | refine wG_new (o_box_int rfl) ?_
    | refine wG_new (o_box_bool rfl) ?_
    | refine wG_new (o_box_sl rfl) ?_
    | refine wG_new (o_box_pt rfl) ?_
    | refine wG_new (o_box_vw rfl) ?_
    | refine wG_new (o_box_vp rfl) ?_
    | refine wG_new (o_box_nilS rfl) ?_
    | refine wG_new (o_box_str rfl) ?_
    | refine wG_new (o_box_fn rfl) ?_
    | refine wG_new (o_box_nilP rfl) ?_
    | refine wG_new (o_box_nilF rfl) ?_
    | refine wG_new (o_mks rfl rfl (by omega) (by decide)) ?_
    | refine wG_upd (o_st_agg rfl rfl rfl rfl rfl rfl rfl) ?_
    | refine wG_upd (o_st_int rfl rfl rfl rfl rfl rfl) ?_
    | refine wG_upd (o_st_bool rfl rfl rfl rfl rfl rfl) ?_
    | refine wG_upd (o_st_sl rfl rfl rfl rfl rfl rfl) ?_
    | refine wG_upd (o_st_pt rfl rfl rfl rfl rfl rfl) ?_
    | refine wG_upd (o_st_vw rfl rfl rfl rfl rfl rfl) ?_
    | refine wG_upd (o_st_vp rfl rfl rfl rfl rfl rfl) ?_
    | refine wG_upd (o_st_nilS rfl rfl rfl rfl rfl rfl) ?_
    | refine wG_upd (o_st_str rfl rfl rfl rfl rfl rfl) ?_
    | refine wG_upd (o_st_fn rfl rfl rfl rfl rfl rfl) ?_
    | refine wG_upd (o_st_nilP rfl rfl rfl rfl rfl rfl) ?_
    | refine wG_upd (o_st_nilF rfl rfl rfl rfl rfl rfl) ?_))
  refine wC_loopR Nat (fun i => ⟨[(0, .vw nn (xs.map cpRow)), (4, .sl 0 1 0 (tl xs i).length), (5, .int .i64 (i : Int))], [(0, some ((tl xs i).map iRow))], 1⟩) (fun i => 1 ≤ i ∧ i ≤ xs.length - 1) (fun i => xs.length - i) 1 ⟨by omega, by omega⟩ ⟨[0], ?_⟩ ?_
  · exact ⟨⟨⟨rfl, rfl⟩, ⟨rfl, rfl⟩, ⟨rfl, rfl⟩, trivial⟩, ⟨⟨⟨_, rfl, rfl⟩, Nat.zero_lt_one, ltrI _ _⟩, trivial⟩, rfl, by decide⟩
  rintro i ⟨hi1, hi2⟩
  repeat (first
    | refine wC_seq ?_
    | refine wC_reg ?_
    | refine wC_dregq rfl ?_
    | refine wC_dregE ?_
    | refine wC_skip ?_
    | refine wC_blk ?_
    | refine wC_exit ?_
    | refine wC_ret ?_
    | refine q_seq_n ?_
    | refine q_seq_x ?_
    | refine q_seq_r ?_
    | refine q_blk_n ?_
    | refine q_blk_r ?_
    | refine q_blk_x ?_
    | refine q_blk_o rfl ?_
    | refine wG_nil ?_
    | refine wG_gy rfl ?_
    | refine wG_gn rfl rfl ?_
    | refine wG_gu rfl ?_
    | refine wC_cond_t rfl ?_
    | refine wC_cond_f rfl ?_
    | refine wG_pure (o_mv_int rfl) ?_
    | refine wG_pure (o_mv_bool rfl) ?_
    | refine wG_pure (o_mv_sl rfl) ?_
    | refine wG_pure (o_mv_pt rfl) ?_
    | refine wG_pure (o_mv_vw rfl) ?_
    | refine wG_pure (o_mv_vp rfl) ?_
    | refine wG_pure (o_mv_agg rfl) ?_
    | refine wG_pure (o_mv_nilS rfl) ?_
    | refine wG_pure (o_mv_str rfl) ?_
    | refine wG_pure (o_mv_fn rfl) ?_
    | refine wG_pure (o_mv_tup rfl) ?_
    | refine wG_pure (o_mv_nilP rfl) ?_
    | refine wG_pure (o_mv_nilF rfl) ?_
    | refine wG_pure (o_ldf_pt rfl rfl rfl rfl) ?_
    | refine wG_pure (o_ldt_pt rfl rfl rfl rfl rfl) ?_
    | refine wG_pure (o_ldf_vp rfl) ?_
    | refine wG_pure (o_ldt_vp rfl rfl rfl) ?_
    | refine wG_pure (o_fa_pt rfl) ?_
    | refine wG_pure (o_fa_vp rfl rfl) ?_
    | refine wG_pure (o_nck_pt rfl) ?_
    | refine wG_pure (o_nck_vp rfl) ?_
    | refine wG_pure (o_nck_fn rfl) ?_
    | refine wG_pure (e_ia_vw0 rfl rfl (by omega) rfl) ?_
    | refine wG_pure (e_ia_vwp rfl rfl (by omega) rfl) ?_
    | refine wG_pure (e_ia_vwm rfl rfl (by omega) (by omega) rfl) ?_
    | refine wG_pure (e_ia_vwi rfl rfl (by omega) rfl) ?_
    | refine wG_pure (e_ia_vwn rfl rfl (by omega) (by omega) rfl) ?_
    | refine wG_pure (e_add rfl rfl (by omega) (by omega)) ?_
    | refine wG_pure (e_sub rfl rfl (by omega) (by omega)) ?_
    | refine wG_pure (e_mul rfl rfl (by omega) (by omega)) ?_
    | refine wG_pure (o_lss rfl rfl) ?_
    | refine wG_pure (o_leq rfl rfl) ?_
    | refine wG_pure (o_gtr rfl rfl) ?_
    | refine wG_pure (o_geq rfl rfl) ?_
    | refine wG_pure (o_eql rfl rfl) ?_
    | refine wG_pure (o_neq rfl rfl) ?_
    | refine wG_pure (o_not_d rfl) ?_
    | refine wG_pure (o_not rfl) ?_
    | refine wG_pure (o_beq rfl rfl) ?_
    | refine wG_pure (o_bne rfl rfl) ?_
    | refine wG_pure (o_pick_t_int rfl rfl) ?_
    | refine wG_pure (o_pick_f_int rfl rfl) ?_
    | refine wG_pure (o_pick_t_bool rfl rfl) ?_
    | refine wG_pure (o_pick_f_bool rfl rfl) ?_
    | refine wG_pure (o_build rfl) ?_
    | refine wG_pure (o_isnil_vw rfl rfl) ?_
    | refine wG_pure (o_isnil_sl rfl rfl) ?_
    | refine wG_pure (o_isnil_nil rfl rfl) ?_
    | refine wG_pure (o_len_sl rfl) ?_
    | refine wG_pure (o_len_vwm rfl) ?_
    | refine wG_pure (o_len_vw rfl) ?_
    | refine wG_pure (o_len_nil rfl) ?_
    | refine wG_pure (o_slen rfl) ?_
    | refine wG_pure (o_fldf rfl rfl) ?_
    | refine wG_pure (o_fldt rfl rfl rfl) ?_
    | refine wG_pure (o_ext rfl rfl) ?_
    | refine wG_pure (o_mx rfl rfl) ?_
    | refine wG_pure (o_mn rfl rfl) ?_
    | refine wG_pure (o_neg rfl (by omega) (by omega)) ?_
    | refine wG_new (o_alloc) ?_
    | refine wG_new (o_bsl rfl) ?_
    | refine wG_new (o_box_agg rfl rfl) ?_
    | refine wG_new (o_box_int rfl) ?_
    | refine wG_new (o_box_bool rfl) ?_
    | refine wG_new (o_box_sl rfl) ?_
    | refine wG_new (o_box_pt rfl) ?_
    | refine wG_new (o_box_vw rfl) ?_
    | refine wG_new (o_box_vp rfl) ?_
    | refine wG_new (o_box_nilS rfl) ?_
    | refine wG_new (o_box_str rfl) ?_
    | refine wG_new (o_box_fn rfl) ?_
    | refine wG_new (o_box_nilP rfl) ?_
    | refine wG_new (o_box_nilF rfl) ?_
    | refine wG_new (o_mks rfl rfl (by omega) (by decide)) ?_
    | refine wG_upd (o_st_agg rfl rfl rfl rfl rfl rfl rfl) ?_
    | refine wG_upd (o_st_int rfl rfl rfl rfl rfl rfl) ?_
    | refine wG_upd (o_st_bool rfl rfl rfl rfl rfl rfl) ?_
    | refine wG_upd (o_st_sl rfl rfl rfl rfl rfl rfl) ?_
    | refine wG_upd (o_st_pt rfl rfl rfl rfl rfl rfl) ?_
    | refine wG_upd (o_st_vw rfl rfl rfl rfl rfl rfl) ?_
    | refine wG_upd (o_st_vp rfl rfl rfl rfl rfl rfl) ?_
    | refine wG_upd (o_st_nilS rfl rfl rfl rfl rfl rfl) ?_
    | refine wG_upd (o_st_str rfl rfl rfl rfl rfl rfl) ?_
    | refine wG_upd (o_st_fn rfl rfl rfl rfl rfl rfl) ?_
    | refine wG_upd (o_st_nilP rfl rfl rfl rfl rfl rfl) ?_
    | refine wG_upd (o_st_nilF rfl rfl rfl rfl rfl rfl) ?_)
  refine wC_cond_d rfl (fun h3 => ?_) (fun h3 => ?_)
  · have hi3 : i + 1 < xs.length := by omega
    have ha := age_b hG (i := i - 1) (by omega)
    have hb := age_b hG (i := i) (by omega)
    have hc := age_b hG (i := i + 1) hi3
    have hm := mul_gt (dl xs i) (dr' xs i)
    have hl : (tl xs i).length ≤ 40 := by have := tl_len xs i; omega
    have hab : -4000000000 ≤ ((xs.getD (i - 1) default).a - (xs.getD i default).a) * ((xs.getD (i + 1) default).a - (xs.getD i default).a) ∧ ((xs.getD (i - 1) default).a - (xs.getD i default).a) * ((xs.getD (i + 1) default).a - (xs.getD i default).a) ≤ 4000000000 := mul_bb (by omega) (by omega) (by omega) (by omega)
    repeat' (first | refine wG_app rfl rfl (by simp) (rows_sl rfl rfl rfl) (by simp) (by simp; omega) (by decide) ?_ | (first
    | refine wC_seq ?_
    | refine wC_reg ?_
    | refine wC_dregq rfl ?_
    | refine wC_dregE ?_
    | refine wC_skip ?_
    | refine wC_blk ?_
    | refine wC_exit ?_
    | refine wC_ret ?_
    | refine q_seq_n ?_
    | refine q_seq_x ?_
    | refine q_seq_r ?_
    | refine q_blk_n ?_
    | refine q_blk_r ?_
    | refine q_blk_x ?_
    | refine q_blk_o rfl ?_
    | refine wG_nil ?_
    | refine wG_gy rfl ?_
    | refine wG_gn rfl rfl ?_
    | refine wG_gu rfl ?_
    | refine wC_cond_t rfl ?_
    | refine wC_cond_f rfl ?_
    | refine wG_pure (o_mv_int rfl) ?_
    | refine wG_pure (o_mv_bool rfl) ?_
    | refine wG_pure (o_mv_sl rfl) ?_
    | refine wG_pure (o_mv_pt rfl) ?_
    | refine wG_pure (o_mv_vw rfl) ?_
    | refine wG_pure (o_mv_vp rfl) ?_
    | refine wG_pure (o_mv_agg rfl) ?_
    | refine wG_pure (o_mv_nilS rfl) ?_
    | refine wG_pure (o_mv_str rfl) ?_
    | refine wG_pure (o_mv_fn rfl) ?_
    | refine wG_pure (o_mv_tup rfl) ?_
    | refine wG_pure (o_mv_nilP rfl) ?_
    | refine wG_pure (o_mv_nilF rfl) ?_
    | refine wG_pure (o_ldf_pt rfl rfl rfl rfl) ?_
    | refine wG_pure (o_ldt_pt rfl rfl rfl rfl rfl) ?_
    | refine wG_pure (o_ldf_vp rfl) ?_
    | refine wG_pure (o_ldt_vp rfl rfl rfl) ?_
    | refine wG_pure (o_fa_pt rfl) ?_
    | refine wG_pure (o_fa_vp rfl rfl) ?_
    | refine wG_pure (o_nck_pt rfl) ?_
    | refine wG_pure (o_nck_vp rfl) ?_
    | refine wG_pure (o_nck_fn rfl) ?_
    | refine wG_pure (e_ia_vw0 rfl rfl (by omega) rfl) ?_
    | refine wG_pure (e_ia_vwp rfl rfl (by omega) rfl) ?_
    | refine wG_pure (e_ia_vwm rfl rfl (by omega) (by omega) rfl) ?_
    | refine wG_pure (e_ia_vwi rfl rfl (by omega) rfl) ?_
    | refine wG_pure (e_ia_vwn rfl rfl (by omega) (by omega) rfl) ?_
    | refine wG_pure (e_add rfl rfl (by omega) (by omega)) ?_
    | refine wG_pure (e_sub rfl rfl (by omega) (by omega)) ?_
    | refine wG_pure (e_mul rfl rfl (by omega) (by omega)) ?_
    | refine wG_pure (o_lss rfl rfl) ?_
    | refine wG_pure (o_leq rfl rfl) ?_
    | refine wG_pure (o_gtr rfl rfl) ?_
    | refine wG_pure (o_geq rfl rfl) ?_
    | refine wG_pure (o_eql rfl rfl) ?_
    | refine wG_pure (o_neq rfl rfl) ?_
    | refine wG_pure (o_not_d rfl) ?_
    | refine wG_pure (o_not rfl) ?_
    | refine wG_pure (o_beq rfl rfl) ?_
    | refine wG_pure (o_bne rfl rfl) ?_
    | refine wG_pure (o_pick_t_int rfl rfl) ?_
    | refine wG_pure (o_pick_f_int rfl rfl) ?_
    | refine wG_pure (o_pick_t_bool rfl rfl) ?_
    | refine wG_pure (o_pick_f_bool rfl rfl) ?_
    | refine wG_pure (o_build rfl) ?_
    | refine wG_pure (o_isnil_vw rfl rfl) ?_
    | refine wG_pure (o_isnil_sl rfl rfl) ?_
    | refine wG_pure (o_isnil_nil rfl rfl) ?_
    | refine wG_pure (o_len_sl rfl) ?_
    | refine wG_pure (o_len_vwm rfl) ?_
    | refine wG_pure (o_len_vw rfl) ?_
    | refine wG_pure (o_len_nil rfl) ?_
    | refine wG_pure (o_slen rfl) ?_
    | refine wG_pure (o_fldf rfl rfl) ?_
    | refine wG_pure (o_fldt rfl rfl rfl) ?_
    | refine wG_pure (o_ext rfl rfl) ?_
    | refine wG_pure (o_mx rfl rfl) ?_
    | refine wG_pure (o_mn rfl rfl) ?_
    | refine wG_pure (o_neg rfl (by omega) (by omega)) ?_
    | refine wG_new (o_alloc) ?_
    | refine wG_new (o_bsl rfl) ?_
    | refine wG_new (o_box_agg rfl rfl) ?_
    | refine wG_new (o_box_int rfl) ?_
    | refine wG_new (o_box_bool rfl) ?_
    | refine wG_new (o_box_sl rfl) ?_
    | refine wG_new (o_box_pt rfl) ?_
    | refine wG_new (o_box_vw rfl) ?_
    | refine wG_new (o_box_vp rfl) ?_
    | refine wG_new (o_box_nilS rfl) ?_
    | refine wG_new (o_box_str rfl) ?_
    | refine wG_new (o_box_fn rfl) ?_
    | refine wG_new (o_box_nilP rfl) ?_
    | refine wG_new (o_box_nilF rfl) ?_
    | refine wG_new (o_mks rfl rfl (by omega) (by decide)) ?_
    | refine wG_upd (o_st_agg rfl rfl rfl rfl rfl rfl rfl) ?_
    | refine wG_upd (o_st_int rfl rfl rfl rfl rfl rfl) ?_
    | refine wG_upd (o_st_bool rfl rfl rfl rfl rfl rfl) ?_
    | refine wG_upd (o_st_sl rfl rfl rfl rfl rfl rfl) ?_
    | refine wG_upd (o_st_pt rfl rfl rfl rfl rfl rfl) ?_
    | refine wG_upd (o_st_vw rfl rfl rfl rfl rfl rfl) ?_
    | refine wG_upd (o_st_vp rfl rfl rfl rfl rfl rfl) ?_
    | refine wG_upd (o_st_nilS rfl rfl rfl rfl rfl rfl) ?_
    | refine wG_upd (o_st_str rfl rfl rfl rfl rfl rfl) ?_
    | refine wG_upd (o_st_fn rfl rfl rfl rfl rfl rfl) ?_
    | refine wG_upd (o_st_nilP rfl rfl rfl rfl rfl rfl) ?_
    | refine wG_upd (o_st_nilF rfl rfl rfl rfl rfl rfl) ?_) | (refine wG_gd rfl (fun hgt => ?_) (fun hgf => ?_) <;> (first | simp only [eq_true hgt, decide_true] | simp only [eq_false hgf, decide_false])) | refine wC_cond_d rfl (fun hg => ?_) (fun hg => ?_))
    all_goals (first
      | (have ht : tn xs i := by unfold tn dl dr' at *; omega
         refine ⟨i + 1, by omega, by omega, [2], ?_⟩
         rw [tl_yes xs hi1 ht]
         refine ⟨⟨⟨rfl, rfl⟩, ⟨by simp [lk, rn, πof], rfl⟩, ⟨rfl, rfl⟩, trivial⟩, ⟨⟨⟨_, rfl, ?_⟩, Nat.zero_lt_one, ltrI _ _⟩, trivial⟩, rfl, by decide⟩
         rw [← rn_rows (rowsP _), List.map_append]; rfl)
      | (have ht : ¬ tn xs i := by unfold tn dl dr' at *; omega
         refine ⟨i + 1, by omega, by omega, [0], ?_⟩
         rw [tl_no xs hi1 ht]
         exact ⟨⟨⟨rfl, rfl⟩, ⟨rfl, rfl⟩, ⟨rfl, rfl⟩, trivial⟩, ⟨⟨⟨_, rfl, rn_rows (rowsP _)⟩, Nat.zero_lt_one, ltrI _ _⟩, trivial⟩, rfl, by decide⟩)
      | trace_state)
  · have hi3 : i = xs.length - 1 := by omega
    subst hi3
    repeat (first
    | refine wC_seq ?_
    | refine wC_reg ?_
    | refine wC_dregq rfl ?_
    | refine wC_dregE ?_
    | refine wC_skip ?_
    | refine wC_blk ?_
    | refine wC_exit ?_
    | refine wC_ret ?_
    | refine q_seq_n ?_
    | refine q_seq_x ?_
    | refine q_seq_r ?_
    | refine q_blk_n ?_
    | refine q_blk_r ?_
    | refine q_blk_x ?_
    | refine q_blk_o rfl ?_
    | refine wG_nil ?_
    | refine wG_gy rfl ?_
    | refine wG_gn rfl rfl ?_
    | refine wG_gu rfl ?_
    | refine wC_cond_t rfl ?_
    | refine wC_cond_f rfl ?_
    | refine wG_pure (o_mv_int rfl) ?_
    | refine wG_pure (o_mv_bool rfl) ?_
    | refine wG_pure (o_mv_sl rfl) ?_
    | refine wG_pure (o_mv_pt rfl) ?_
    | refine wG_pure (o_mv_vw rfl) ?_
    | refine wG_pure (o_mv_vp rfl) ?_
    | refine wG_pure (o_mv_agg rfl) ?_
    | refine wG_pure (o_mv_nilS rfl) ?_
    | refine wG_pure (o_mv_str rfl) ?_
    | refine wG_pure (o_mv_fn rfl) ?_
    | refine wG_pure (o_mv_tup rfl) ?_
    | refine wG_pure (o_mv_nilP rfl) ?_
    | refine wG_pure (o_mv_nilF rfl) ?_
    | refine wG_pure (o_ldf_pt rfl rfl rfl rfl) ?_
    | refine wG_pure (o_ldt_pt rfl rfl rfl rfl rfl) ?_
    | refine wG_pure (o_ldf_vp rfl) ?_
    | refine wG_pure (o_ldt_vp rfl rfl rfl) ?_
    | refine wG_pure (o_fa_pt rfl) ?_
    | refine wG_pure (o_fa_vp rfl rfl) ?_
    | refine wG_pure (o_nck_pt rfl) ?_
    | refine wG_pure (o_nck_vp rfl) ?_
    | refine wG_pure (o_nck_fn rfl) ?_
    | refine wG_pure (e_ia_vw0 rfl rfl (by omega) rfl) ?_
    | refine wG_pure (e_ia_vwp rfl rfl (by omega) rfl) ?_
    | refine wG_pure (e_ia_vwm rfl rfl (by omega) (by omega) rfl) ?_
    | refine wG_pure (e_ia_vwi rfl rfl (by omega) rfl) ?_
    | refine wG_pure (e_ia_vwn rfl rfl (by omega) (by omega) rfl) ?_
    | refine wG_pure (e_add rfl rfl (by omega) (by omega)) ?_
    | refine wG_pure (e_sub rfl rfl (by omega) (by omega)) ?_
    | refine wG_pure (e_mul rfl rfl (by omega) (by omega)) ?_
    | refine wG_pure (o_lss rfl rfl) ?_
    | refine wG_pure (o_leq rfl rfl) ?_
    | refine wG_pure (o_gtr rfl rfl) ?_
    | refine wG_pure (o_geq rfl rfl) ?_
    | refine wG_pure (o_eql rfl rfl) ?_
    | refine wG_pure (o_neq rfl rfl) ?_
    | refine wG_pure (o_not_d rfl) ?_
    | refine wG_pure (o_not rfl) ?_
    | refine wG_pure (o_beq rfl rfl) ?_
    | refine wG_pure (o_bne rfl rfl) ?_
    | refine wG_pure (o_pick_t_int rfl rfl) ?_
    | refine wG_pure (o_pick_f_int rfl rfl) ?_
    | refine wG_pure (o_pick_t_bool rfl rfl) ?_
    | refine wG_pure (o_pick_f_bool rfl rfl) ?_
    | refine wG_pure (o_build rfl) ?_
    | refine wG_pure (o_isnil_vw rfl rfl) ?_
    | refine wG_pure (o_isnil_sl rfl rfl) ?_
    | refine wG_pure (o_isnil_nil rfl rfl) ?_
    | refine wG_pure (o_len_sl rfl) ?_
    | refine wG_pure (o_len_vwm rfl) ?_
    | refine wG_pure (o_len_vw rfl) ?_
    | refine wG_pure (o_len_nil rfl) ?_
    | refine wG_pure (o_slen rfl) ?_
    | refine wG_pure (o_fldf rfl rfl) ?_
    | refine wG_pure (o_fldt rfl rfl rfl) ?_
    | refine wG_pure (o_ext rfl rfl) ?_
    | refine wG_pure (o_mx rfl rfl) ?_
    | refine wG_pure (o_mn rfl rfl) ?_
    | refine wG_pure (o_neg rfl (by omega) (by omega)) ?_
    | refine wG_new (o_alloc) ?_
    | refine wG_new (o_bsl rfl) ?_
    | refine wG_new (o_box_agg rfl rfl) ?_
    | refine wG_new (o_box_int rfl) ?_
    | refine wG_new (o_box_bool rfl) ?_
    | refine wG_new (o_box_sl rfl) ?_
    | refine wG_new (o_box_pt rfl) ?_
    | refine wG_new (o_box_vw rfl) ?_
    | refine wG_new (o_box_vp rfl) ?_
    | refine wG_new (o_box_nilS rfl) ?_
    | refine wG_new (o_box_str rfl) ?_
    | refine wG_new (o_box_fn rfl) ?_
    | refine wG_new (o_box_nilP rfl) ?_
    | refine wG_new (o_box_nilF rfl) ?_
    | refine wG_new (o_mks rfl rfl (by omega) (by decide)) ?_
    | refine wG_upd (o_st_agg rfl rfl rfl rfl rfl rfl rfl) ?_
    | refine wG_upd (o_st_int rfl rfl rfl rfl rfl rfl) ?_
    | refine wG_upd (o_st_bool rfl rfl rfl rfl rfl rfl) ?_
    | refine wG_upd (o_st_sl rfl rfl rfl rfl rfl rfl) ?_
    | refine wG_upd (o_st_pt rfl rfl rfl rfl rfl rfl) ?_
    | refine wG_upd (o_st_vw rfl rfl rfl rfl rfl rfl) ?_
    | refine wG_upd (o_st_vp rfl rfl rfl rfl rfl rfl) ?_
    | refine wG_upd (o_st_nilS rfl rfl rfl rfl rfl rfl) ?_
    | refine wG_upd (o_st_str rfl rfl rfl rfl rfl rfl) ?_
    | refine wG_upd (o_st_fn rfl rfl rfl rfl rfl rfl) ?_
    | refine wG_upd (o_st_nilP rfl rfl rfl rfl rfl rfl) ?_
    | refine wG_upd (o_st_nilF rfl rfl rfl rfl rfl rfl) ?_)
    exact ret_sb (.inr rfl) rfl ⟨_, retV_mv rfl, retV_mv rfl, rfl⟩ rfl
end Go.Proofs.Ytkbgadipkihifaa.Cts
