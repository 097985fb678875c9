/- A shifted curve: both sides. -/
import Derived.Test.YtkbgadipkihifaaCtsB
namespace Go.Proofs.Ytkbgadipkihifaa.Shc
open Go Go.Proofs.Ytkbgadipkihifaa Go.Proofs.Ytkbgadipkihifaa.Ab Go.Proofs.Ytkbgadipkihifaa.Il Go.Proofs.Ytkbgadipkihifaa.Cts
attribute [local irreducible] wpO wpC wpDr wpQ wpG wpE stepA seqQ blkQ Ret ev
set_option maxRecDepth 10000
set_option maxHeartbeats 4000000
set_option linter.unusedSimpArgs false
set_option linter.unusedVariables false
def ac31 : AC := (.seq (.reg [⟨(some 6), none, (.mv (.c .nilS))⟩, ⟨(some 7), none, (.mv (.c (.bool false)))⟩]) (.seq (.reg [⟨(some 11), none, (.bsl 3 [(.int .i64 0), (.int .i64 0), (.int .i64 0)] 0 [])⟩, ⟨(some 8), none, (.mv (.t 11))⟩]) (.seq (.seq (.reg [⟨(some 12), none, (.mv (.t 0))⟩, ⟨(some 13), none, (.call 36 [(.t 12)])⟩, ⟨(some 14), none, (.un .not (.t 13))⟩, ⟨(some 15), none, (.mv (.t 14))⟩, ⟨(some 16), (some (15, false)), (.mv (.t 1))⟩, ⟨(some 17), (some (15, false)), (.call 50 [(.t 16), (.c (.int .i64 (-60000))), (.c (.int .i64 60000))])⟩, ⟨(some 18), (some (15, false)), (.un .not (.t 17))⟩, ⟨(some 19), none, (.pick (.t 15) (.c (.bool true)) (.t 18))⟩, ⟨(some 20), none, (.mv (.t 19))⟩, ⟨(some 21), (some (20, false)), (.mv (.t 2))⟩, ⟨(some 22), (some (20, false)), (.call 50 [(.t 21), (.c (.int .i64 (-1000))), (.c (.int .i64 1000))])⟩, ⟨(some 23), (some (20, false)), (.un .not (.t 22))⟩, ⟨(some 24), none, (.pick (.t 20) (.c (.bool true)) (.t 23))⟩]) (.cond (.t 24) (.seq (.reg [⟨(some 25), none, (.mv (.t 8))⟩, ⟨(some 6), none, (.mv (.t 25))⟩, ⟨(some 7), none, (.mv (.c (.bool false)))⟩]) .ret) .skip)) (.seq (.seq (.reg [⟨(some 9), none, (.mv (.c (.int .i64 0)))⟩]) (.blk 0 (.loop (.seq (.seq (.reg [⟨(some 26), none, (.mv (.t 9))⟩, ⟨(some 27), none, (.mv (.t 0))⟩, ⟨(some 28), none, (.len (.t 27))⟩, ⟨(some 29), none, (.bin .lss (.t 26) (.t 28))⟩]) (.cond (.t 29) .skip (.exit 0))) (.seq (.blk 1 (.seq (.reg [⟨(some 32), none, (.mv (.t 0))⟩, ⟨(some 33), none, (.mv (.t 9))⟩, ⟨(some 34), none, (.ia 3 (.t 32) (.t 33))⟩, ⟨(some 35), none, (.ld true 3 (.t 34))⟩, ⟨(some 10), none, (.alloc [(.int .i64 0), (.int .i64 0), (.int .i64 0)])⟩, ⟨none, none, (.st 3 (.t 10) (.t 35))⟩]) (.seq (.reg [⟨(some 36), none, (.fa 1 (.t 10))⟩, ⟨(some 37), none, (.ld false 1 (.t 36))⟩, ⟨(some 38), none, (.mv (.t 1))⟩, ⟨(some 39), none, (.bin .add (.t 37) (.t 38))⟩, ⟨(some 40), none, (.fa 1 (.t 10))⟩, ⟨none, none, (.st 1 (.t 40) (.t 39))⟩]) (.seq (.reg [⟨(some 41), none, (.fa 2 (.t 10))⟩, ⟨(some 42), none, (.ld false 1 (.t 41))⟩, ⟨(some 43), none, (.mv (.t 2))⟩, ⟨(some 44), none, (.bin .add (.t 42) (.t 43))⟩, ⟨(some 45), none, (.fa 2 (.t 10))⟩, ⟨none, none, (.st 1 (.t 45) (.t 44))⟩]) (.reg [⟨(some 46), none, (.mv (.t 8))⟩, ⟨(some 47), none, (.ld true 3 (.t 10))⟩, ⟨(some 48), none, (.bsl 3 [(.int .i64 0), (.int .i64 0), (.int .i64 0)] 1 [(0, (.t 47))])⟩, ⟨(some 49), none, (.app 3 24 [(.int .i64 0), (.int .i64 0), (.int .i64 0)] (.t 46) (.t 48))⟩, ⟨(some 8), none, (.mv (.t 49))⟩]))))) (.reg [⟨(some 30), none, (.mv (.t 9))⟩, ⟨(some 31), none, (.bin .add (.t 30) (.c (.int .i64 1)))⟩, ⟨(some 9), none, (.mv (.t 31))⟩])))))) (.seq (.seq (.reg [⟨(some 50), none, (.mv (.t 8))⟩, ⟨(some 51), none, (.call 36 [(.t 50)])⟩, ⟨(some 52), none, (.un .not (.t 51))⟩]) (.cond (.t 52) (.seq (.reg [⟨(some 53), none, (.bsl 3 [(.int .i64 0), (.int .i64 0), (.int .i64 0)] 0 [])⟩, ⟨(some 6), none, (.mv (.t 53))⟩, ⟨(some 7), none, (.mv (.c (.bool false)))⟩]) .ret) .skip)) (.seq (.reg [⟨(some 54), none, (.mv (.t 8))⟩, ⟨(some 6), none, (.mv (.t 54))⟩, ⟨(some 7), none, (.mv (.c (.bool true)))⟩]) .ret))))))
def ro31 : List AOp := [(.mv (.t 6)), (.mv (.t 7))]
theorem fun31 : Fun Try.prog 31 55 ac31 ro31 := ⟨Try.f31, _, Try.func31, by kernel_rfl, rfl, rfl, by kernel_rfl, by kernel_rfl, by decide⟩
def ac32 : AC := (.seq (.reg [⟨(some 6), none, (.mv (.c .nilS))⟩, ⟨(some 7), none, (.mv (.c (.bool false)))⟩]) (.seq (.seq (.reg [⟨(some 10), none, (.mv (.t 0))⟩, ⟨(some 11), none, (.call 13 [(.t 10)])⟩, ⟨(some 12), none, (.un .not (.t 11))⟩, ⟨(some 13), none, (.mv (.t 12))⟩, ⟨(some 14), (some (13, false)), (.mv (.t 1))⟩, ⟨(some 15), (some (13, false)), (.call 38 [(.t 14), (.c (.int .i64 (-60000))), (.c (.int .i64 60000))])⟩, ⟨(some 16), (some (13, false)), (.un .not (.t 15))⟩, ⟨(some 17), none, (.pick (.t 13) (.c (.bool true)) (.t 16))⟩, ⟨(some 18), none, (.mv (.t 17))⟩, ⟨(some 19), (some (18, false)), (.mv (.t 2))⟩, ⟨(some 20), (some (18, false)), (.call 38 [(.t 19), (.c (.int .i64 (-1000))), (.c (.int .i64 1000))])⟩, ⟨(some 21), (some (18, false)), (.un .not (.t 20))⟩, ⟨(some 22), none, (.pick (.t 18) (.c (.bool true)) (.t 21))⟩]) (.cond (.t 22) (.seq (.reg [⟨(some 6), none, (.mv (.c .nilS))⟩, ⟨(some 7), none, (.mv (.c (.bool false)))⟩]) .ret) .skip)) (.seq (.reg [⟨(some 23), none, (.mv (.t 0))⟩, ⟨(some 24), none, (.call 51 [(.t 23)])⟩, ⟨(some 8), none, (.mv (.t 24))⟩]) (.seq (.seq (.reg [⟨(some 25), none, (.mv (.t 8))⟩, ⟨(some 26), none, (.len (.t 25))⟩, ⟨(some 27), none, (.mv (.c (.int .i64 0)))⟩]) (.blk 0 (.loop (.seq (.reg [⟨(some 28), none, (.bin .lss (.t 27) (.t 26))⟩]) (.seq (.cond (.t 28) .skip (.exit 0)) (.seq (.blk 1 (.seq (.reg [⟨(some 29), none, (.mv (.t 27))⟩, ⟨(some 9), none, (.mv (.t 29))⟩]) (.seq (.reg [⟨(some 30), none, (.mv (.t 8))⟩, ⟨(some 31), none, (.mv (.t 9))⟩, ⟨(some 32), none, (.ia 3 (.t 30) (.t 31))⟩, ⟨(some 33), none, (.fa 1 (.t 32))⟩, ⟨(some 34), none, (.ld false 1 (.t 33))⟩, ⟨(some 35), none, (.mv (.t 1))⟩, ⟨(some 36), none, (.bin .add (.t 34) (.t 35))⟩, ⟨(some 37), none, (.ia 3 (.t 30) (.t 31))⟩, ⟨(some 38), none, (.fa 1 (.t 37))⟩, ⟨none, none, (.st 1 (.t 38) (.t 36))⟩]) (.reg [⟨(some 39), none, (.mv (.t 8))⟩, ⟨(some 40), none, (.mv (.t 9))⟩, ⟨(some 41), none, (.ia 3 (.t 39) (.t 40))⟩, ⟨(some 42), none, (.fa 2 (.t 41))⟩, ⟨(some 43), none, (.ld false 1 (.t 42))⟩, ⟨(some 44), none, (.mv (.t 2))⟩, ⟨(some 45), none, (.bin .add (.t 43) (.t 44))⟩, ⟨(some 46), none, (.ia 3 (.t 39) (.t 40))⟩, ⟨(some 47), none, (.fa 2 (.t 46))⟩, ⟨none, none, (.st 1 (.t 47) (.t 45))⟩])))) (.reg [⟨(some 48), none, (.bin .add (.t 27) (.c (.int .i64 1)))⟩, ⟨(some 27), none, (.mv (.t 48))⟩]))))))) (.seq (.seq (.reg [⟨(some 49), none, (.mv (.t 8))⟩, ⟨(some 50), none, (.call 13 [(.t 49)])⟩, ⟨(some 51), none, (.un .not (.t 50))⟩]) (.cond (.t 51) (.seq (.reg [⟨(some 6), none, (.mv (.c .nilS))⟩, ⟨(some 7), none, (.mv (.c (.bool false)))⟩]) .ret) .skip)) (.seq (.reg [⟨(some 52), none, (.mv (.t 8))⟩, ⟨(some 6), none, (.mv (.t 52))⟩, ⟨(some 7), none, (.mv (.c (.bool true)))⟩]) .ret))))))
def ro32 : List AOp := [(.mv (.t 6)), (.mv (.t 7))]
theorem fun32 : Fun Try.prog 32 53 ac32 ro32 := ⟨Try.f32, _, Try.func32, by kernel_rfl, rfl, rfl, by kernel_rfl, by kernel_rfl, by decide⟩
def ac51 : AC := (.seq (.reg [⟨(some 2), none, (.mv (.c .nilS))⟩]) (.seq (.seq (.reg [⟨(some 3), none, (.mv (.t 0))⟩, ⟨(some 4), none, (.nil2 false false (.t 3) (.c .nilS))⟩]) (.cond (.t 4) (.seq (.reg [⟨(some 2), none, (.mv (.c .nilS))⟩]) .ret) .skip)) (.seq (.reg [⟨(some 5), none, (.bsl 3 [(.int .i64 0), (.int .i64 0), (.int .i64 0)] 0 [])⟩, ⟨(some 6), none, (.mv (.t 0))⟩, ⟨(some 7), none, (.app 3 24 [(.int .i64 0), (.int .i64 0), (.int .i64 0)] (.t 5) (.t 6))⟩, ⟨(some 2), none, (.mv (.t 7))⟩]) .ret)))
def ro51 : List AOp := [(.mv (.t 2))]
theorem fun51 : Fun Try.prog 51 8 ac51 ro51 := ⟨Try.f51, _, Try.func51, by kernel_rfl, rfl, rfl, by kernel_rfl, by kernel_rfl, by decide⟩

def shp (a e : Int) (p : CP) : CP := ⟨p.y, p.a + a, p.e + e⟩
def shl (xs : List CP) (a e : Int) : List CP := xs.map (shp a e)
theorem cpRow_len (p : CP) : (cpRow p).length = 3 := rfl
def inS (a e : Int) : Prop := (-60000 ≤ a ∧ a ≤ 60000) ∧ (-1000 ≤ e ∧ e ≤ 1000)
theorem pt_b {xs : List CP} (hG : Good xs) {i : Nat} (h : i < xs.length) : (0 ≤ (xs.getD i default).a ∧ (xs.getD i default).a ≤ 60000) ∧ (0 ≤ (xs.getD i default).e ∧ (xs.getD i default).e ≤ 1000) := by
  have := hG.2.1 i h
  unfold okAt at this
  exact ⟨this.2.1, this.2.2.1⟩
theorem take_shl {xs : List CP} {a e : Int} {i : Nat} (h : i < xs.length) : shl (xs.take (i + 1)) a e = shl (xs.take i) a e ++ [shp a e (xs.getD i default)] := by
  unfold shl
  rw [List.take_succ_eq_append_getElem h, List.map_append]
  simp [List.getD_eq_getElem?_getD, List.getElem?_eq_getElem h]

theorem con51 (xs : List CP) (hlen : xs.length ≤ 1048576) (h0 : 0 < xs.length) : Con Try.prog 51 true [.vw true (xs.map cpRow)] (.sl 0 3 0 xs.length) [xs.map cpRow] := by
  refine con_of_wp mixed fun51 (by simp) [1] (plain_map cp_plain xs) ?_
  unfold ac51 ro51
  simp only [zipT]
  have hle : 0 + (xs.map cpRow).length ≤ 4294967296 := by simp; omega
  repeat (first | refine wG_app rfl rfl rfl (rows_vw rfl (okRows_map cpRow_len xs)) (by simp; omega) hle (by decide) ?_ | (first
    | refine wC_seq ?_
    | refine wC_reg ?_
    | refine wC_dregq rfl ?_
    | refine wC_dregE ?_
    | refine wC_skip ?_
    | refine wC_blk ?_
    | refine wC_exit ?_
    | refine wC_ret ?_
    | refine q_seq_n ?_
    | refine q_seq_x ?_
    | refine q_seq_r ?_
    | refine q_blk_n ?_
    | refine q_blk_r ?_
    | refine q_blk_x ?_
    | refine q_blk_o rfl ?_
    | refine wG_nil ?_
    | refine wG_gy rfl ?_
    | refine wG_gn rfl rfl ?_
    | refine wG_gu rfl ?_
    | refine wC_cond_t rfl ?_
    | refine wC_cond_f rfl ?_
    | refine wG_pure (o_mv rfl) ?_
    | refine wG_pure (o_pick_t rfl rfl) ?_
    | refine wG_pure (o_pick_f rfl rfl) ?_
    | refine wG_pure (o_ldf_pt rfl rfl rfl rfl) ?_
    | refine wG_pure (o_ldt_pt rfl rfl rfl rfl rfl) ?_
    | refine wG_pure (o_ldf_vp rfl) ?_
    | refine wG_pure (o_ldt_vp rfl rfl rfl) ?_
    | refine wG_pure (o_fa_pt rfl) ?_
    | refine wG_pure (o_fa_vp rfl rfl) ?_
    | refine wG_pure (o_nck_pt rfl) ?_
    | refine wG_pure (o_nck_vp rfl) ?_
    | refine wG_pure (o_nck_fn rfl) ?_
    | refine wG_pure (e_ia_vw0 rfl rfl (by omega) rfl) ?_
    | refine wG_pure (e_ia_vwp rfl rfl (by omega) rfl) ?_
    | refine wG_pure (e_ia_vwm rfl rfl (by omega) (by omega) rfl) ?_
    | refine wG_pure (e_ia_vwi rfl rfl (by omega) rfl) ?_
    | refine wG_pure (e_ia_vwn rfl rfl (by omega) (by omega) rfl) ?_
    | refine wG_pure (e_add rfl rfl (by omega) (by omega)) ?_
    | refine wG_pure (e_sub rfl rfl (by omega) (by omega)) ?_
    | refine wG_pure (e_mul rfl rfl (by omega) (by omega)) ?_
    | refine wG_pure (o_lss rfl rfl) ?_
    | refine wG_pure (o_leq rfl rfl) ?_
    | refine wG_pure (o_gtr rfl rfl) ?_
    | refine wG_pure (o_geq rfl rfl) ?_
    | refine wG_pure (o_eql rfl rfl) ?_
    | refine wG_pure (o_neq rfl rfl) ?_
    | refine wG_pure (o_not_d rfl) ?_
    | refine wG_pure (o_not rfl) ?_
    | refine wG_pure (o_beq rfl rfl) ?_
    | refine wG_pure (o_bne rfl rfl) ?_
    | refine wG_pure (o_build rfl) ?_
    | refine wG_pure (o_isnil_vw rfl rfl) ?_
    | refine wG_pure (o_isnil_sl rfl rfl) ?_
    | refine wG_pure (o_isnil_nil rfl rfl) ?_
    | refine wG_pure (o_len_sl rfl) ?_
    | refine wG_pure (o_len_vwm rfl) ?_
    | refine wG_pure (o_len_vw rfl) ?_
    | refine wG_pure (o_len_nil rfl) ?_
    | refine wG_pure (o_slen rfl) ?_
    | refine wG_pure (o_fldf rfl rfl) ?_
    | refine wG_pure (o_fldt rfl rfl rfl) ?_
    | refine wG_pure (o_ext rfl rfl) ?_
    | refine wG_pure (o_mx rfl rfl) ?_
    | refine wG_pure (o_mn rfl rfl) ?_
    | refine wG_pure (o_neg rfl (by omega) (by omega)) ?_
    | refine wG_new (o_alloc) ?_
    | refine wG_new (o_bsl rfl) ?_
    | refine wG_new (o_box_agg rfl rfl) ?_
    | refine wG_new (o_mks rfl rfl (by omega) (by decide)) ?_
    | refine wG_new (o_box1 rfl) ?_
    | refine wG_upd (o_st_agg rfl rfl rfl rfl rfl rfl rfl) ?_
    | refine wG_upd (o_st1 rfl rfl rfl rfl rfl rfl) ?_))
  have e : 0 + (xs.map cpRow).length = xs.length := by simp
  rw [e]
  exact ret_sl (.inr rfl) (retV_mv rfl) rfl

/-- The spec's result: the shifted curve, or nothing. -/
theorem con31_bad (nn : Bool) (xs : List CP) (hlen : xs.length ≤ 1048576) (a e : Int) (hb : ¬ (Good xs ∧ inS a e)) : Con Try.prog 31 true [.vw nn (xs.map cpRow), .int .i64 a, .int .i64 e] (.tup [.sl 0 3 0 0, .bool false]) [[]] := by
  classical
  refine con_of_wp mixed fun31 (by simp) [0] (plain_map cp_plain []) ?_
  unfold ac31 ro31
  simp only [zipT]
  have c1 := con36 nn xs hlen
  repeat' (first | refine wG_call c1 rfl rfl ?_ | refine wG_call (con50 _ _ _) rfl rfl ?_ | (first
    | refine wC_seq ?_
    | refine wC_reg ?_
    | refine wC_dregq rfl ?_
    | refine wC_dregE ?_
    | refine wC_skip ?_
    | refine wC_blk ?_
    | refine wC_exit ?_
    | refine wC_ret ?_
    | refine q_seq_n ?_
    | refine q_seq_x ?_
    | refine q_seq_r ?_
    | refine q_blk_n ?_
    | refine q_blk_r ?_
    | refine q_blk_x ?_
    | refine q_blk_o rfl ?_
    | refine wG_nil ?_
    | refine wG_gy rfl ?_
    | refine wG_gn rfl rfl ?_
    | refine wG_gu rfl ?_
    | refine wC_cond_t rfl ?_
    | refine wC_cond_f rfl ?_
    | refine wG_pure (o_mv rfl) ?_
    | refine wG_pure (o_pick_t rfl rfl) ?_
    | refine wG_pure (o_pick_f rfl rfl) ?_
    | refine wG_pure (o_ldf_pt rfl rfl rfl rfl) ?_
    | refine wG_pure (o_ldt_pt rfl rfl rfl rfl rfl) ?_
    | refine wG_pure (o_ldf_vp rfl) ?_
    | refine wG_pure (o_ldt_vp rfl rfl rfl) ?_
    | refine wG_pure (o_fa_pt rfl) ?_
    | refine wG_pure (o_fa_vp rfl rfl) ?_
    | refine wG_pure (o_nck_pt rfl) ?_
    | refine wG_pure (o_nck_vp rfl) ?_
    | refine wG_pure (o_nck_fn rfl) ?_
    | refine wG_pure (e_ia_vw0 rfl rfl (by omega) rfl) ?_
    | refine wG_pure (e_ia_vwp rfl rfl (by omega) rfl) ?_
    | refine wG_pure (e_ia_vwm rfl rfl (by omega) (by omega) rfl) ?_
    | refine wG_pure (e_ia_vwi rfl rfl (by omega) rfl) ?_
    | refine wG_pure (e_ia_vwn rfl rfl (by omega) (by omega) rfl) ?_
    | refine wG_pure (e_add rfl rfl (by omega) (by omega)) ?_
    | refine wG_pure (e_sub rfl rfl (by omega) (by omega)) ?_
    | refine wG_pure (e_mul rfl rfl (by omega) (by omega)) ?_
    | refine wG_pure (o_lss rfl rfl) ?_
    | refine wG_pure (o_leq rfl rfl) ?_
    | refine wG_pure (o_gtr rfl rfl) ?_
    | refine wG_pure (o_geq rfl rfl) ?_
    | refine wG_pure (o_eql rfl rfl) ?_
    | refine wG_pure (o_neq rfl rfl) ?_
    | refine wG_pure (o_not_d rfl) ?_
    | refine wG_pure (o_not rfl) ?_
    | refine wG_pure (o_beq rfl rfl) ?_
    | refine wG_pure (o_bne rfl rfl) ?_
    | refine wG_pure (o_build rfl) ?_
    | refine wG_pure (o_isnil_vw rfl rfl) ?_
    | refine wG_pure (o_isnil_sl rfl rfl) ?_
    | refine wG_pure (o_isnil_nil rfl rfl) ?_
    | refine wG_pure (o_len_sl rfl) ?_
    | refine wG_pure (o_len_vwm rfl) ?_
    | refine wG_pure (o_len_vw rfl) ?_
    | refine wG_pure (o_len_nil rfl) ?_
    | refine wG_pure (o_slen rfl) ?_
    | refine wG_pure (o_fldf rfl rfl) ?_
    | refine wG_pure (o_fldt rfl rfl rfl) ?_
    | refine wG_pure (o_ext rfl rfl) ?_
    | refine wG_pure (o_mx rfl rfl) ?_
    | refine wG_pure (o_mn rfl rfl) ?_
    | refine wG_pure (o_neg rfl (by omega) (by omega)) ?_
    | refine wG_new (o_alloc) ?_
    | refine wG_new (o_bsl rfl) ?_
    | refine wG_new (o_box_agg rfl rfl) ?_
    | refine wG_new (o_mks rfl rfl (by omega) (by decide)) ?_
    | refine wG_new (o_box1 rfl) ?_
    | refine wG_upd (o_st_agg rfl rfl rfl rfl rfl rfl rfl) ?_
    | refine wG_upd (o_st1 rfl rfl rfl rfl rfl rfl) ?_) | (refine wG_gd rfl (fun hgt => ?_) (fun hgf => ?_) <;> (first | simp only [eq_true hgt, decide_true] | simp only [eq_false hgf, decide_false])) | refine wC_cond_d rfl (fun hg => ?_) (fun hg => ?_))
  any_goals (exact ret_sb (.inr rfl) rfl ⟨_, retV_mv rfl, retV_mv rfl, rfl⟩ rfl)
  exact absurd ⟨Decidable.not_not.1 ‹_›, Decidable.not_not.1 ‹_›, Decidable.not_not.1 ‹_›⟩ hb
theorem con32_bad (nn : Bool) (xs : List CP) (hlen : xs.length ≤ 1048576) (a e : Int) (hb : ¬ (Good xs ∧ inS a e)) : Con Try.prog 32 true [.vw nn (xs.map cpRow), .int .i64 a, .int .i64 e] (.tup [.nilS, .bool false]) [] := by
  classical
  refine con_of_wp mixed fun32 (by simp) [] plain_nil ?_
  unfold ac32 ro32
  simp only [zipT]
  have c1 := con13 nn xs hlen
  repeat' (first | refine wG_call c1 rfl rfl ?_ | refine wG_call (con38 _ _ _) rfl rfl ?_ | (first
    | refine wC_seq ?_
    | refine wC_reg ?_
    | refine wC_dregq rfl ?_
    | refine wC_dregE ?_
    | refine wC_skip ?_
    | refine wC_blk ?_
    | refine wC_exit ?_
    | refine wC_ret ?_
    | refine q_seq_n ?_
    | refine q_seq_x ?_
    | refine q_seq_r ?_
    | refine q_blk_n ?_
    | refine q_blk_r ?_
    | refine q_blk_x ?_
    | refine q_blk_o rfl ?_
    | refine wG_nil ?_
    | refine wG_gy rfl ?_
    | refine wG_gn rfl rfl ?_
    | refine wG_gu rfl ?_
    | refine wC_cond_t rfl ?_
    | refine wC_cond_f rfl ?_
    | refine wG_pure (o_mv rfl) ?_
    | refine wG_pure (o_pick_t rfl rfl) ?_
    | refine wG_pure (o_pick_f rfl rfl) ?_
    | refine wG_pure (o_ldf_pt rfl rfl rfl rfl) ?_
    | refine wG_pure (o_ldt_pt rfl rfl rfl rfl rfl) ?_
    | refine wG_pure (o_ldf_vp rfl) ?_
    | refine wG_pure (o_ldt_vp rfl rfl rfl) ?_
    | refine wG_pure (o_fa_pt rfl) ?_
    | refine wG_pure (o_fa_vp rfl rfl) ?_
    | refine wG_pure (o_nck_pt rfl) ?_
    | refine wG_pure (o_nck_vp rfl) ?_
    | refine wG_pure (o_nck_fn rfl) ?_
    | refine wG_pure (e_ia_vw0 rfl rfl (by omega) rfl) ?_
    | refine wG_pure (e_ia_vwp rfl rfl (by omega) rfl) ?_
    | refine wG_pure (e_ia_vwm rfl rfl (by omega) (by omega) rfl) ?_
    | refine wG_pure (e_ia_vwi rfl rfl (by omega) rfl) ?_
    | refine wG_pure (e_ia_vwn rfl rfl (by omega) (by omega) rfl) ?_
    | refine wG_pure (e_add rfl rfl (by omega) (by omega)) ?_
    | refine wG_pure (e_sub rfl rfl (by omega) (by omega)) ?_
    | refine wG_pure (e_mul rfl rfl (by omega) (by omega)) ?_
    | refine wG_pure (o_lss rfl rfl) ?_
    | refine wG_pure (o_leq rfl rfl) ?_
    | refine wG_pure (o_gtr rfl rfl) ?_
    | refine wG_pure (o_geq rfl rfl) ?_
    | refine wG_pure (o_eql rfl rfl) ?_
    | refine wG_pure (o_neq rfl rfl) ?_
    | refine wG_pure (o_not_d rfl) ?_
    | refine wG_pure (o_not rfl) ?_
    | refine wG_pure (o_beq rfl rfl) ?_
    | refine wG_pure (o_bne rfl rfl) ?_
    | refine wG_pure (o_build rfl) ?_
    | refine wG_pure (o_isnil_vw rfl rfl) ?_
    | refine wG_pure (o_isnil_sl rfl rfl) ?_
    | refine wG_pure (o_isnil_nil rfl rfl) ?_
    | refine wG_pure (o_len_sl rfl) ?_
    | refine wG_pure (o_len_vwm rfl) ?_
    | refine wG_pure (o_len_vw rfl) ?_
    | refine wG_pure (o_len_nil rfl) ?_
    | refine wG_pure (o_slen rfl) ?_
    | refine wG_pure (o_fldf rfl rfl) ?_
    | refine wG_pure (o_fldt rfl rfl rfl) ?_
    | refine wG_pure (o_ext rfl rfl) ?_
    | refine wG_pure (o_mx rfl rfl) ?_
    | refine wG_pure (o_mn rfl rfl) ?_
    | refine wG_pure (o_neg rfl (by omega) (by omega)) ?_
    | refine wG_new (o_alloc) ?_
    | refine wG_new (o_bsl rfl) ?_
    | refine wG_new (o_box_agg rfl rfl) ?_
    | refine wG_new (o_mks rfl rfl (by omega) (by decide)) ?_
    | refine wG_new (o_box1 rfl) ?_
    | refine wG_upd (o_st_agg rfl rfl rfl rfl rfl rfl rfl) ?_
    | refine wG_upd (o_st1 rfl rfl rfl rfl rfl rfl) ?_) | (refine wG_gd rfl (fun hgt => ?_) (fun hgf => ?_) <;> (first | simp only [eq_true hgt, decide_true] | simp only [eq_false hgf, decide_false])) | refine wC_cond_d rfl (fun hg => ?_) (fun hg => ?_))
  any_goals (exact ret_2 (.inr rfl) rfl rfl ⟨_, _, retV_mv rfl, retV_mv rfl, rfl, rfl⟩)
  exact absurd ⟨Decidable.not_not.1 ‹_›, Decidable.not_not.1 ‹_›, Decidable.not_not.1 ‹_›⟩ hb
end Go.Proofs.Ytkbgadipkihifaa.Shc
