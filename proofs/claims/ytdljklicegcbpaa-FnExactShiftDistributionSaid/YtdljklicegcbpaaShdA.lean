/- Shifted distributions: both sides, and the body of the law. -/
import Derived.Test.YtdljklicegcbpaaMakA
namespace Go.Proofs.Ytdljklicegcbpaa.Dst
open Go Go.Proofs.Ytdljklicegcbpaa.Ab Go.Proofs.Ytdljklicegcbpaa.Il
attribute [local irreducible] wpO wpC wpDr wpQ wpG wpE stepA seqQ blkQ Ret ev
set_option maxRecDepth 10000
set_option maxHeartbeats 8000000
set_option linter.unusedSimpArgs false
set_option linter.unusedVariables false
def ac9 : AC := (.seq (.reg [⟨(some 2), none, (.box 2 true (.t 0))⟩, ⟨(some 4), none, (.mv (.c (.bool false)))⟩]) (.seq (.reg [⟨(some 5), none, (.mv (.c (.int .i64 1048576)))⟩]) (.seq (.reg [⟨(some 16), none, (.ld true 2 (.t 2))⟩, ⟨(some 17), none, (.mv (.t 5))⟩, ⟨(some 18), none, (.call 16 [(.t 16), (.t 17)])⟩, ⟨(some 5), none, (.mv (.t 18))⟩]) (.seq (.seq (.reg [⟨(some 19), none, (.mv (.t 5))⟩, ⟨(some 20), none, (.bin .lss (.t 19) (.c (.int .i64 0)))⟩]) (.cond (.t 20) (.seq (.reg [⟨(some 4), none, (.mv (.c (.bool true)))⟩]) .ret) .skip)) (.seq (.reg [⟨(some 22), none, (.ld true 2 (.t 2))⟩, ⟨(some 23), none, (.call 18 [(.t 22)])⟩, ⟨(some 24), none, (.mv (.t 1))⟩, ⟨(some 25), none, (.call 31 [(.t 23), (.t 24)])⟩, ⟨(some 21), none, (.mv (.t 25))⟩, ⟨(some 26), none, (.ext (.t 21) 0)⟩, ⟨(some 27), none, (.ext (.t 21) 1)⟩, ⟨(some 6), none, (.alloc [(.int .i64 0), .nilS])⟩, ⟨none, none, (.st 2 (.t 6) (.t 26))⟩, ⟨(some 7), none, (.mv (.t 27))⟩]) (.seq (.reg [⟨(some 28), none, (.ld true 2 (.t 2))⟩, ⟨(some 29), none, (.call 18 [(.t 28)])⟩, ⟨(some 8), none, (.alloc [(.int .i64 0), .nilS])⟩, ⟨none, none, (.st 2 (.t 8) (.t 29))⟩]) (.seq (.reg [⟨(some 31), none, (.ld true 2 (.t 8))⟩, ⟨(some 32), none, (.mv (.t 1))⟩, ⟨(some 33), none, (.call 32 [(.t 31), (.t 32)])⟩, ⟨(some 30), none, (.mv (.t 33))⟩, ⟨(some 34), none, (.ext (.t 30) 0)⟩, ⟨(some 35), none, (.ext (.t 30) 1)⟩, ⟨(some 9), none, (.alloc [(.int .i64 0), .nilS])⟩, ⟨none, none, (.st 2 (.t 9) (.t 34))⟩, ⟨(some 10), none, (.mv (.t 35))⟩]) (.seq (.seq (.reg [⟨(some 36), none, (.ld true 2 (.t 9))⟩, ⟨(some 37), none, (.ld true 2 (.t 6))⟩, ⟨(some 38), none, (.call 20 [(.t 36), (.t 37)])⟩, ⟨(some 39), none, (.un .not (.t 38))⟩, ⟨(some 40), none, (.mv (.t 39))⟩, ⟨(some 41), (some (40, false)), (.mv (.t 10))⟩, ⟨(some 42), (some (40, false)), (.mv (.t 7))⟩, ⟨(some 43), (some (40, false)), (.bool2 true (.t 41) (.t 42))⟩, ⟨(some 44), none, (.pick (.t 40) (.c (.bool true)) (.t 43))⟩]) (.cond (.t 44) (.seq (.reg [⟨(some 4), none, (.mv (.c (.bool false)))⟩]) .ret) .skip)) (.seq (.seq (.dreg [⟨(some 45), none, (.ld true 2 (.t 8))⟩, ⟨(some 46), none, (.ld true 2 (.t 2))⟩, ⟨(some 47), none, (.call 18 [(.t 46)])⟩, ⟨(some 48), none, (.call 20 [(.t 45), (.t 47)])⟩, ⟨(some 49), none, (.un .not (.t 48))⟩] [[], [], [1], [0, 1, 2], [0, 1, 2, 3]]) (.cond (.t 49) (.seq (.reg [⟨(some 4), none, (.mv (.c (.bool false)))⟩]) .ret) .skip)) (.seq (.reg [⟨(some 11), none, (.mv (.c (.int .i64 1)))⟩]) (.seq (.reg [⟨(some 50), none, (.ld true 2 (.t 8))⟩, ⟨(some 51), none, (.mv (.t 11))⟩, ⟨(some 52), none, (.call 33 [(.t 50), (.t 51)])⟩, ⟨(some 11), none, (.mv (.t 52))⟩]) (.seq (.seq (.reg [⟨(some 53), none, (.mv (.t 11))⟩, ⟨(some 54), none, (.bin .lss (.t 53) (.c (.int .i64 0)))⟩, ⟨(some 55), none, (.mv (.t 54))⟩, ⟨(some 56), (some (55, false)), (.ld true 2 (.t 9))⟩, ⟨(some 57), (some (55, false)), (.ld true 2 (.t 6))⟩, ⟨(some 58), (some (55, false)), (.call 20 [(.t 56), (.t 57)])⟩, ⟨(some 59), (some (55, false)), (.un .not (.t 58))⟩, ⟨(some 60), none, (.pick (.t 55) (.c (.bool true)) (.t 59))⟩, ⟨(some 61), none, (.mv (.t 60))⟩, ⟨(some 62), (some (61, false)), (.mv (.t 10))⟩, ⟨(some 63), (some (61, false)), (.mv (.t 7))⟩, ⟨(some 64), (some (61, false)), (.bool2 true (.t 62) (.t 63))⟩, ⟨(some 65), none, (.pick (.t 61) (.c (.bool true)) (.t 64))⟩]) (.cond (.t 65) (.seq (.reg [⟨(some 4), none, (.mv (.c (.bool false)))⟩]) .ret) .skip)) (.seq (.reg [⟨(some 12), none, (.mv (.c (.int .i64 1)))⟩]) (.seq (.reg [⟨(some 66), none, (.ld true 2 (.t 9))⟩, ⟨(some 67), none, (.mv (.t 12))⟩, ⟨(some 68), none, (.call 33 [(.t 66), (.t 67)])⟩, ⟨(some 12), none, (.mv (.t 68))⟩]) (.seq (.reg [⟨(some 13), none, (.mv (.c (.int .i64 1)))⟩]) (.seq (.reg [⟨(some 69), none, (.ld true 2 (.t 9))⟩, ⟨(some 70), none, (.mv (.t 13))⟩, ⟨(some 71), none, (.call 34 [(.t 69), (.t 70)])⟩, ⟨(some 13), none, (.mv (.t 71))⟩]) (.seq (.seq (.reg [⟨(some 72), none, (.mv (.t 13))⟩, ⟨(some 73), none, (.bin .lss (.t 72) (.c (.int .i64 0)))⟩]) (.cond (.t 73) (.seq (.reg [⟨(some 4), none, (.mv (.c (.bool false)))⟩]) .ret) .skip)) (.seq (.seq (.reg [⟨(some 74), none, (.mv (.t 13))⟩, ⟨(some 75), none, (.mv (.t 12))⟩, ⟨(some 76), none, (.bin .neq (.t 74) (.t 75))⟩]) (.cond (.t 76) (.seq (.reg [⟨(some 4), none, (.mv (.c (.bool false)))⟩]) .ret) .skip)) (.seq (.reg [⟨(some 78), none, (.ld true 2 (.t 2))⟩, ⟨(some 79), none, (.call 18 [(.t 78)])⟩, ⟨(some 80), none, (.mv (.t 1))⟩, ⟨(some 81), none, (.call 32 [(.t 79), (.t 80)])⟩, ⟨(some 77), none, (.mv (.t 81))⟩, ⟨(some 82), none, (.ext (.t 77) 0)⟩, ⟨(some 83), none, (.ext (.t 77) 1)⟩, ⟨(some 14), none, (.alloc [(.int .i64 0), .nilS])⟩, ⟨none, none, (.st 2 (.t 14) (.t 82))⟩, ⟨(some 15), none, (.mv (.t 83))⟩]) (.seq (.seq (.reg [⟨(some 84), none, (.ld true 2 (.t 14))⟩, ⟨(some 85), none, (.ld true 2 (.t 6))⟩, ⟨(some 86), none, (.call 20 [(.t 84), (.t 85)])⟩, ⟨(some 87), none, (.un .not (.t 86))⟩, ⟨(some 88), none, (.mv (.t 87))⟩, ⟨(some 89), (some (88, false)), (.mv (.t 15))⟩, ⟨(some 90), (some (88, false)), (.mv (.t 7))⟩, ⟨(some 91), (some (88, false)), (.bool2 true (.t 89) (.t 90))⟩, ⟨(some 92), none, (.pick (.t 88) (.c (.bool true)) (.t 91))⟩]) (.cond (.t 92) (.seq (.reg [⟨(some 4), none, (.mv (.c (.bool false)))⟩]) .ret) .skip)) (.seq (.reg [⟨(some 13), none, (.mv (.c (.int .i64 1)))⟩]) (.seq (.reg [⟨(some 93), none, (.ld true 2 (.t 9))⟩, ⟨(some 94), none, (.mv (.t 13))⟩, ⟨(some 95), none, (.call 34 [(.t 93), (.t 94)])⟩, ⟨(some 13), none, (.mv (.t 95))⟩]) (.seq (.seq (.reg [⟨(some 96), none, (.mv (.t 13))⟩, ⟨(some 97), none, (.bin .lss (.t 96) (.c (.int .i64 0)))⟩]) (.cond (.t 97) (.seq (.reg [⟨(some 4), none, (.mv (.c (.bool false)))⟩]) .ret) .skip)) (.seq (.seq (.reg [⟨(some 98), none, (.mv (.t 13))⟩, ⟨(some 99), none, (.mv (.t 12))⟩, ⟨(some 100), none, (.bin .neq (.t 98) (.t 99))⟩]) (.cond (.t 100) (.seq (.reg [⟨(some 4), none, (.mv (.c (.bool false)))⟩]) .ret) .skip)) (.seq (.reg [⟨(some 4), none, (.mv (.c (.bool true)))⟩]) .ret)))))))))))))))))))))))))
def ro9 : List AOp := [(.mv (.t 4))]
theorem fun9 : Fun Try.prog 9 101 ac9 ro9 := ⟨Try.f9, _, Try.func9, by kernel_rfl, rfl, rfl, by kernel_rfl, by kernel_rfl, by decide⟩
def ac31 : AC := (.seq (.reg [⟨(some 2), none, (.box 2 true (.t 0))⟩, ⟨(some 4), none, (.alloc [(.int .i64 0), .nilS])⟩, ⟨(some 5), none, (.mv (.c (.bool false)))⟩]) (.seq (.seq (.reg [⟨(some 7), none, (.ld true 2 (.t 2))⟩, ⟨(some 8), none, (.call 60 [(.t 7)])⟩, ⟨(some 9), none, (.un .not (.t 8))⟩, ⟨(some 10), none, (.mv (.t 9))⟩, ⟨(some 11), (some (10, false)), (.mv (.t 1))⟩, ⟨(some 12), (some (10, false)), (.call 67 [(.t 11), (.c (.int .i64 (-22100))), (.c (.int .i64 22100))])⟩, ⟨(some 13), (some (10, false)), (.un .not (.t 12))⟩, ⟨(some 14), none, (.pick (.t 10) (.c (.bool true)) (.t 13))⟩]) (.cond (.t 14) (.seq (.reg [⟨(some 15), none, (.build [(.int .i64 0), .nilS] [])⟩, ⟨none, none, (.st 2 (.t 4) (.t 15))⟩, ⟨(some 5), none, (.mv (.c (.bool false)))⟩]) .ret) .skip)) (.seq (.dreg [⟨(some 16), none, (.fa 0 (.t 2))⟩, ⟨(some 17), none, (.ld false 1 (.t 16))⟩, ⟨(some 18), none, (.mv (.t 1))⟩, ⟨(some 19), none, (.bin .add (.t 17) (.t 18))⟩, ⟨(some 20), none, (.fa 1 (.t 2))⟩, ⟨(some 21), none, (.ld false 1 (.t 20))⟩, ⟨(some 22), none, (.call 79 [(.t 21)])⟩, ⟨(some 23), none, (.build [(.int .i64 0), .nilS] [(0, (1, (.t 19))), (1, (1, (.t 22)))])⟩, ⟨(some 6), none, (.alloc [(.int .i64 0), .nilS])⟩, ⟨none, none, (.st 2 (.t 6) (.t 23))⟩] [[], [0], [], [0, 1, 2], [], [4], [4, 5], [0, 1, 2, 3, 4, 5, 6], [], [0, 1, 2, 3, 4, 5, 6, 7, 8]]) (.seq (.seq (.reg [⟨(some 24), none, (.ld true 2 (.t 6))⟩, ⟨(some 25), none, (.call 60 [(.t 24)])⟩, ⟨(some 26), none, (.un .not (.t 25))⟩]) (.cond (.t 26) (.seq (.reg [⟨(some 27), none, (.build [(.int .i64 0), .nilS] [])⟩, ⟨none, none, (.st 2 (.t 4) (.t 27))⟩, ⟨(some 5), none, (.mv (.c (.bool false)))⟩]) .ret) .skip)) (.seq (.reg [⟨(some 28), none, (.ld true 2 (.t 6))⟩, ⟨none, none, (.st 2 (.t 4) (.t 28))⟩, ⟨(some 5), none, (.mv (.c (.bool true)))⟩]) .ret)))))
def ro31 : List AOp := [(.ld true 2 (.t 4)), (.mv (.t 5))]
theorem fun31 : Fun Try.prog 31 29 ac31 ro31 := ⟨Try.f31, _, Try.func31, by kernel_rfl, rfl, rfl, by kernel_rfl, by kernel_rfl, by decide⟩
def ac32 : AC := (.seq (.reg [⟨(some 2), none, (.box 2 true (.t 0))⟩, ⟨(some 4), none, (.alloc [(.int .i64 0), .nilS])⟩, ⟨(some 5), none, (.mv (.c (.bool false)))⟩]) (.seq (.seq (.reg [⟨(some 7), none, (.ld true 2 (.t 2))⟩, ⟨(some 8), none, (.call 19 [(.t 7)])⟩, ⟨(some 9), none, (.un .not (.t 8))⟩, ⟨(some 10), none, (.mv (.t 9))⟩, ⟨(some 11), (some (10, false)), (.mv (.t 1))⟩, ⟨(some 12), (some (10, false)), (.call 65 [(.t 11), (.c (.int .i64 (-22100))), (.c (.int .i64 22100))])⟩, ⟨(some 13), (some (10, false)), (.un .not (.t 12))⟩, ⟨(some 14), none, (.pick (.t 10) (.c (.bool true)) (.t 13))⟩]) (.cond (.t 14) (.seq (.reg [⟨(some 15), none, (.build [(.int .i64 0), .nilS] [])⟩, ⟨none, none, (.st 2 (.t 4) (.t 15))⟩, ⟨(some 5), none, (.mv (.c (.bool false)))⟩]) .ret) .skip)) (.seq (.dreg [⟨(some 16), none, (.fa 0 (.t 2))⟩, ⟨(some 17), none, (.ld false 1 (.t 16))⟩, ⟨(some 18), none, (.mv (.t 1))⟩, ⟨(some 19), none, (.bin .add (.t 17) (.t 18))⟩, ⟨(some 20), none, (.fa 1 (.t 2))⟩, ⟨(some 21), none, (.ld false 1 (.t 20))⟩, ⟨(some 22), none, (.call 80 [(.t 21)])⟩, ⟨(some 23), none, (.build [(.int .i64 0), .nilS] [(0, (1, (.t 19))), (1, (1, (.t 22)))])⟩, ⟨(some 6), none, (.alloc [(.int .i64 0), .nilS])⟩, ⟨none, none, (.st 2 (.t 6) (.t 23))⟩] [[], [0], [], [0, 1, 2], [], [4], [4, 5], [0, 1, 2, 3, 4, 5, 6], [], [0, 1, 2, 3, 4, 5, 6, 7, 8]]) (.seq (.seq (.reg [⟨(some 24), none, (.ld true 2 (.t 6))⟩, ⟨(some 25), none, (.call 19 [(.t 24)])⟩, ⟨(some 26), none, (.un .not (.t 25))⟩]) (.cond (.t 26) (.seq (.reg [⟨(some 27), none, (.build [(.int .i64 0), .nilS] [])⟩, ⟨none, none, (.st 2 (.t 4) (.t 27))⟩, ⟨(some 5), none, (.mv (.c (.bool false)))⟩]) .ret) .skip)) (.seq (.reg [⟨(some 28), none, (.ld true 2 (.t 6))⟩, ⟨none, none, (.st 2 (.t 4) (.t 28))⟩, ⟨(some 5), none, (.mv (.c (.bool true)))⟩]) .ret)))))
def ro32 : List AOp := [(.ld true 2 (.t 4)), (.mv (.t 5))]
theorem fun32 : Fun Try.prog 32 29 ac32 ro32 := ⟨Try.f32, _, Try.func32, by kernel_rfl, rfl, rfl, by kernel_rfl, by kernel_rfl, by decide⟩

theorem con79CL (ws : List Int) (hlen : ws.length ≤ 1048576) : Con Try.prog 79 true [.vw true (ws.map iRow)] (.sl 0 1 0 ws.length) [ws.map iRow] := con79 true ws hlen
theorem con80CL (ws : List Int) (hlen : ws.length ≤ 1048576) : Con Try.prog 80 true [.vw true (ws.map iRow)] (.sl 0 1 0 ws.length) [ws.map iRow] := con80 ws hlen
def sdO (d : Ds) (y : Int) : Ds := ⟨d.f + y, d.ws⟩
def sdIn (d : Ds) (y : Int) : Prop := GoodD d ∧ (-22100 ≤ y ∧ y ≤ 22100)
def sdOK (d : Ds) (y : Int) : Prop := sdIn d y ∧ GoodD (sdO d y)
theorem con31_all (d : Ds) (hlen : d.ws.length ≤ 1048576) (y : Int) (v : AV) (rs : List Nat) (objs : List Ab.Rows) (hv : v.nvf = true) (hp : PlainObjs objs)
    (hend : (sdOK d y → v = dYes (sdO d y) ∧ rs = [2] ∧ objs = [(sdO d y).ws.map iRow]) ∧ (¬ sdOK d y → v = dNo ∧ rs = [] ∧ objs = [])) :
    Con Try.prog 31 true [.agg (dRow true d), .int .i64 y] v objs := by
  classical
  suffices key : Con Try.prog 31 v.nvf [.agg (dRow true d), .int .i64 y] v objs by rwa [hv] at key
  refine con_of_wp mixed fun31 (by simp) rs hp ?_
  unfold ac31 ro31
  simp only [zipT]
  have c1 := con60 true d hlen
  have c2 := con67 y (-22100) 22100
  by_cases hG : GoodD d
  · rw [decide_eq_true hG] at c1
    by_cases hy : -22100 ≤ y ∧ y ≤ 22100
    · rw [decide_eq_true hy] at c2
      have hf := hG.2.1
      have h60 := hG.1
      obtain ⟨f, ws⟩ := d
      simp only at hlen hf h60
      have c3 := con79CL ws hlen
      have c5 := con60 true ⟨f + y, ws⟩ hlen
      have hend' := hend
      unfold dRow dYes dNo sdOK sdO at *
      simp only at *
      by_cases hgo : GoodD ⟨f + y, ws⟩
      · rw [decide_eq_true hgo] at c5
        obtain ⟨rfl, rfl, rfl⟩ := hend'.1 ⟨⟨hG, hy⟩, hgo⟩
        repeat (first | refine wG_call c1 rfl rfl ?_ | refine wG_call c2 rfl rfl ?_ | refine wE_call1 c3 rfl rfl rfl ?_ | refine wG_call c5 (ag_is rfl rfl rfl iRow_plain ag_nil) rfl ?_ | (first
    | refine wC_seq ?_
    | refine wC_reg ?_
    | refine wC_dregq rfl ?_
    | refine wC_dregE ?_
    | refine wC_skip ?_
    | refine wC_blk ?_
    | refine wC_exit ?_
    | refine wC_ret ?_
    | refine q_seq_n ?_
    | refine q_seq_x ?_
    | refine q_seq_r ?_
    | refine q_blk_n ?_
    | refine q_blk_r ?_
    | refine q_blk_x ?_
    | refine q_blk_o rfl ?_
    | refine wG_nil ?_
    | refine wG_gy rfl ?_
    | refine wG_gn rfl rfl ?_
    | refine wG_gu rfl ?_
    | refine wC_cond_t rfl ?_
    | refine wC_cond_f rfl ?_
    | refine wG_pure (o_mv rfl) ?_
    | refine wG_pure (o_pick_t rfl rfl) ?_
    | refine wG_pure (o_pick_f rfl rfl) ?_
    | refine wG_pure (o_ldf_pt rfl rfl rfl rfl) ?_
    | refine wG_pure (o_ldt_pt rfl rfl rfl rfl rfl) ?_
    | refine wG_pure (o_ldf_vp rfl) ?_
    | refine wG_pure (o_ldt_vp rfl rfl rfl) ?_
    | refine wG_pure (o_fa_pt rfl) ?_
    | refine wG_pure (o_fa_vp rfl rfl) ?_
    | refine wG_pure (o_nck_pt rfl) ?_
    | refine wG_pure (o_nck_vp rfl) ?_
    | refine wG_pure (o_nck_fn rfl) ?_
    | refine wG_pure (e_ia_vw0 rfl rfl (by omega) rfl) ?_
    | refine wG_pure (e_ia_vwp rfl rfl (by omega) rfl) ?_
    | refine wG_pure (e_ia_vwm rfl rfl (by omega) (by omega) rfl) ?_
    | refine wG_pure (e_ia_vwi rfl rfl (by omega) rfl) ?_
    | refine wG_pure (e_ia_vwn rfl rfl (by omega) (by omega) rfl) ?_
    | refine wG_pure (e_add rfl rfl (by omega) (by omega)) ?_
    | refine wG_pure (e_sub rfl rfl (by omega) (by omega)) ?_
    | refine wG_pure (e_mul rfl rfl (by omega) (by omega)) ?_
    | refine wG_pure (o_lss rfl rfl) ?_
    | refine wG_pure (o_leq rfl rfl) ?_
    | refine wG_pure (o_gtr rfl rfl) ?_
    | refine wG_pure (o_geq rfl rfl) ?_
    | refine wG_pure (o_eql rfl rfl) ?_
    | refine wG_pure (o_neq rfl rfl) ?_
    | refine wG_pure (o_not_d rfl) ?_
    | refine wG_pure (o_not rfl) ?_
    | refine wG_pure (o_beq rfl rfl) ?_
    | refine wG_pure (o_bne rfl rfl) ?_
    | refine wG_pure (o_build rfl) ?_
    | refine wG_pure (o_mkf rfl) ?_
    | refine wG_pure (o_isnil_vw rfl rfl) ?_
    | refine wG_pure (o_isnil_sl rfl rfl) ?_
    | refine wG_pure (o_isnil_nil rfl rfl) ?_
    | refine wG_pure (o_len_sl rfl) ?_
    | refine wG_pure (o_len_vwm rfl) ?_
    | refine wG_pure (o_len_vw rfl) ?_
    | refine wG_pure (o_len_nil rfl) ?_
    | refine wG_pure (o_slen rfl) ?_
    | refine wG_pure (o_fldf rfl rfl) ?_
    | refine wG_pure (o_fldt rfl rfl rfl) ?_
    | refine wG_pure (o_ext rfl rfl) ?_
    | refine wG_pure (o_mx rfl rfl) ?_
    | refine wG_pure (o_mn rfl rfl) ?_
    | refine wG_pure (o_neg rfl (by omega) (by omega)) ?_
    | refine wG_new (o_alloc) ?_
    | refine wG_new (o_bsl rfl) ?_
    | refine wG_new (o_box_agg rfl rfl) ?_
    | refine wG_new (o_mks rfl rfl (by omega) (by decide)) ?_
    | refine wG_new (o_box1 rfl) ?_
    | refine wG_upd (o_st_agg rfl rfl rfl rfl rfl rfl rfl) ?_
    | refine wG_upd (o_st1 rfl rfl rfl rfl rfl rfl) ?_) | (first
    | refine wE_nil rfl ?_
    | refine wE_gy rfl ?_
    | refine wE_gn rfl rfl rfl ?_
    | refine wE_gu rfl rfl ?_
    | refine wE_gnn rfl rfl rfl ?_
    | refine wE_pure0 (o_mv rfl) rfl ?_
    | refine wE_pure (o_mv rfl) rfl ?_
    | refine wE_pure0 (o_pick_t rfl rfl) rfl ?_
    | refine wE_pure (o_pick_t rfl rfl) rfl ?_
    | refine wE_pure0 (o_pick_f rfl rfl) rfl ?_
    | refine wE_pure (o_pick_f rfl rfl) rfl ?_
    | refine wE_pure0 (o_ldf_pt rfl rfl rfl rfl) rfl ?_
    | refine wE_pure (o_ldf_pt rfl rfl rfl rfl) rfl ?_
    | refine wE_pure0 (o_ldt_pt rfl rfl rfl rfl rfl) rfl ?_
    | refine wE_pure (o_ldt_pt rfl rfl rfl rfl rfl) rfl ?_
    | refine wE_pure0 (o_ldf_vp rfl) rfl ?_
    | refine wE_pure (o_ldf_vp rfl) rfl ?_
    | refine wE_pure0 (o_ldt_vp rfl rfl rfl) rfl ?_
    | refine wE_pure (o_ldt_vp rfl rfl rfl) rfl ?_
    | refine wE_pure0 (o_fa_pt rfl) rfl ?_
    | refine wE_pure (o_fa_pt rfl) rfl ?_
    | refine wE_pure0 (o_fa_vp rfl rfl) rfl ?_
    | refine wE_pure (o_fa_vp rfl rfl) rfl ?_
    | refine wE_pure0 (o_nck_pt rfl) rfl ?_
    | refine wE_pure (o_nck_pt rfl) rfl ?_
    | refine wE_pure0 (o_nck_vp rfl) rfl ?_
    | refine wE_pure (o_nck_vp rfl) rfl ?_
    | refine wE_pure0 (o_nck_fn rfl) rfl ?_
    | refine wE_pure (o_nck_fn rfl) rfl ?_
    | refine wE_pure0 (e_ia_vw0 rfl rfl (by omega) rfl) rfl ?_
    | refine wE_pure (e_ia_vw0 rfl rfl (by omega) rfl) rfl ?_
    | refine wE_pure0 (e_ia_vwp rfl rfl (by omega) rfl) rfl ?_
    | refine wE_pure (e_ia_vwp rfl rfl (by omega) rfl) rfl ?_
    | refine wE_pure0 (e_ia_vwm rfl rfl (by omega) (by omega) rfl) rfl ?_
    | refine wE_pure (e_ia_vwm rfl rfl (by omega) (by omega) rfl) rfl ?_
    | refine wE_pure0 (e_ia_vwi rfl rfl (by omega) rfl) rfl ?_
    | refine wE_pure (e_ia_vwi rfl rfl (by omega) rfl) rfl ?_
    | refine wE_pure0 (e_ia_vwn rfl rfl (by omega) (by omega) rfl) rfl ?_
    | refine wE_pure (e_ia_vwn rfl rfl (by omega) (by omega) rfl) rfl ?_
    | refine wE_pure0 (e_add rfl rfl (by omega) (by omega)) rfl ?_
    | refine wE_pure (e_add rfl rfl (by omega) (by omega)) rfl ?_
    | refine wE_pure0 (e_sub rfl rfl (by omega) (by omega)) rfl ?_
    | refine wE_pure (e_sub rfl rfl (by omega) (by omega)) rfl ?_
    | refine wE_pure0 (e_mul rfl rfl (by omega) (by omega)) rfl ?_
    | refine wE_pure (e_mul rfl rfl (by omega) (by omega)) rfl ?_
    | refine wE_pure0 (o_lss rfl rfl) rfl ?_
    | refine wE_pure (o_lss rfl rfl) rfl ?_
    | refine wE_pure0 (o_leq rfl rfl) rfl ?_
    | refine wE_pure (o_leq rfl rfl) rfl ?_
    | refine wE_pure0 (o_gtr rfl rfl) rfl ?_
    | refine wE_pure (o_gtr rfl rfl) rfl ?_
    | refine wE_pure0 (o_geq rfl rfl) rfl ?_
    | refine wE_pure (o_geq rfl rfl) rfl ?_
    | refine wE_pure0 (o_eql rfl rfl) rfl ?_
    | refine wE_pure (o_eql rfl rfl) rfl ?_
    | refine wE_pure0 (o_neq rfl rfl) rfl ?_
    | refine wE_pure (o_neq rfl rfl) rfl ?_
    | refine wE_pure0 (o_not_d rfl) rfl ?_
    | refine wE_pure (o_not_d rfl) rfl ?_
    | refine wE_pure0 (o_not rfl) rfl ?_
    | refine wE_pure (o_not rfl) rfl ?_
    | refine wE_pure0 (o_beq rfl rfl) rfl ?_
    | refine wE_pure (o_beq rfl rfl) rfl ?_
    | refine wE_pure0 (o_bne rfl rfl) rfl ?_
    | refine wE_pure (o_bne rfl rfl) rfl ?_
    | refine wE_pure0 (o_build rfl) rfl ?_
    | refine wE_pure (o_build rfl) rfl ?_
    | refine wE_pure0 (o_mkf rfl) rfl ?_
    | refine wE_pure (o_mkf rfl) rfl ?_
    | refine wE_pure0 (o_isnil_vw rfl rfl) rfl ?_
    | refine wE_pure (o_isnil_vw rfl rfl) rfl ?_
    | refine wE_pure0 (o_isnil_sl rfl rfl) rfl ?_
    | refine wE_pure (o_isnil_sl rfl rfl) rfl ?_
    | refine wE_pure0 (o_isnil_nil rfl rfl) rfl ?_
    | refine wE_pure (o_isnil_nil rfl rfl) rfl ?_
    | refine wE_pure0 (o_len_sl rfl) rfl ?_
    | refine wE_pure (o_len_sl rfl) rfl ?_
    | refine wE_pure0 (o_len_vwm rfl) rfl ?_
    | refine wE_pure (o_len_vwm rfl) rfl ?_
    | refine wE_pure0 (o_len_vw rfl) rfl ?_
    | refine wE_pure (o_len_vw rfl) rfl ?_
    | refine wE_pure0 (o_len_nil rfl) rfl ?_
    | refine wE_pure (o_len_nil rfl) rfl ?_
    | refine wE_pure0 (o_slen rfl) rfl ?_
    | refine wE_pure (o_slen rfl) rfl ?_
    | refine wE_pure0 (o_fldf rfl rfl) rfl ?_
    | refine wE_pure (o_fldf rfl rfl) rfl ?_
    | refine wE_pure0 (o_fldt rfl rfl rfl) rfl ?_
    | refine wE_pure (o_fldt rfl rfl rfl) rfl ?_
    | refine wE_pure0 (o_ext rfl rfl) rfl ?_
    | refine wE_pure (o_ext rfl rfl) rfl ?_
    | refine wE_pure0 (o_mx rfl rfl) rfl ?_
    | refine wE_pure (o_mx rfl rfl) rfl ?_
    | refine wE_pure0 (o_mn rfl rfl) rfl ?_
    | refine wE_pure (o_mn rfl rfl) rfl ?_
    | refine wE_pure0 (o_neg rfl (by omega) (by omega)) rfl ?_
    | refine wE_pure (o_neg rfl (by omega) (by omega)) rfl ?_
    | refine wE_new (o_alloc) rfl ?_
    | refine wE_new (o_bsl rfl) rfl ?_
    | refine wE_new (o_box_agg rfl rfl) rfl ?_
    | refine wE_new (o_mks rfl rfl (by omega) (by decide)) rfl ?_
    | refine wE_new (o_box1 rfl) rfl ?_
    | refine wE_upd (o_st_agg rfl rfl rfl rfl rfl rfl rfl) rfl ?_
    | refine wE_upd (o_st1 rfl rfl rfl rfl rfl rfl) rfl ?_))
        exact ret_db (.inr rfl) rfl (retV_ldt rfl rfl rfl rfl rfl) (retV_mv rfl) rfl
      · rw [decide_eq_false hgo] at c5
        obtain ⟨rfl, rfl, rfl⟩ := hend'.2 (fun h => hgo h.2)
        repeat (first | refine wG_call c1 rfl rfl ?_ | refine wG_call c2 rfl rfl ?_ | refine wE_call1 c3 rfl rfl rfl ?_ | refine wG_call c5 (ag_is rfl rfl rfl iRow_plain ag_nil) rfl ?_ | (first
    | refine wC_seq ?_
    | refine wC_reg ?_
    | refine wC_dregq rfl ?_
    | refine wC_dregE ?_
    | refine wC_skip ?_
    | refine wC_blk ?_
    | refine wC_exit ?_
    | refine wC_ret ?_
    | refine q_seq_n ?_
    | refine q_seq_x ?_
    | refine q_seq_r ?_
    | refine q_blk_n ?_
    | refine q_blk_r ?_
    | refine q_blk_x ?_
    | refine q_blk_o rfl ?_
    | refine wG_nil ?_
    | refine wG_gy rfl ?_
    | refine wG_gn rfl rfl ?_
    | refine wG_gu rfl ?_
    | refine wC_cond_t rfl ?_
    | refine wC_cond_f rfl ?_
    | refine wG_pure (o_mv rfl) ?_
    | refine wG_pure (o_pick_t rfl rfl) ?_
    | refine wG_pure (o_pick_f rfl rfl) ?_
    | refine wG_pure (o_ldf_pt rfl rfl rfl rfl) ?_
    | refine wG_pure (o_ldt_pt rfl rfl rfl rfl rfl) ?_
    | refine wG_pure (o_ldf_vp rfl) ?_
    | refine wG_pure (o_ldt_vp rfl rfl rfl) ?_
    | refine wG_pure (o_fa_pt rfl) ?_
    | refine wG_pure (o_fa_vp rfl rfl) ?_
    | refine wG_pure (o_nck_pt rfl) ?_
    | refine wG_pure (o_nck_vp rfl) ?_
    | refine wG_pure (o_nck_fn rfl) ?_
    | refine wG_pure (e_ia_vw0 rfl rfl (by omega) rfl) ?_
    | refine wG_pure (e_ia_vwp rfl rfl (by omega) rfl) ?_
    | refine wG_pure (e_ia_vwm rfl rfl (by omega) (by omega) rfl) ?_
    | refine wG_pure (e_ia_vwi rfl rfl (by omega) rfl) ?_
    | refine wG_pure (e_ia_vwn rfl rfl (by omega) (by omega) rfl) ?_
    | refine wG_pure (e_add rfl rfl (by omega) (by omega)) ?_
    | refine wG_pure (e_sub rfl rfl (by omega) (by omega)) ?_
    | refine wG_pure (e_mul rfl rfl (by omega) (by omega)) ?_
    | refine wG_pure (o_lss rfl rfl) ?_
    | refine wG_pure (o_leq rfl rfl) ?_
    | refine wG_pure (o_gtr rfl rfl) ?_
    | refine wG_pure (o_geq rfl rfl) ?_
    | refine wG_pure (o_eql rfl rfl) ?_
    | refine wG_pure (o_neq rfl rfl) ?_
    | refine wG_pure (o_not_d rfl) ?_
    | refine wG_pure (o_not rfl) ?_
    | refine wG_pure (o_beq rfl rfl) ?_
    | refine wG_pure (o_bne rfl rfl) ?_
    | refine wG_pure (o_build rfl) ?_
    | refine wG_pure (o_mkf rfl) ?_
    | refine wG_pure (o_isnil_vw rfl rfl) ?_
    | refine wG_pure (o_isnil_sl rfl rfl) ?_
    | refine wG_pure (o_isnil_nil rfl rfl) ?_
    | refine wG_pure (o_len_sl rfl) ?_
    | refine wG_pure (o_len_vwm rfl) ?_
    | refine wG_pure (o_len_vw rfl) ?_
    | refine wG_pure (o_len_nil rfl) ?_
    | refine wG_pure (o_slen rfl) ?_
    | refine wG_pure (o_fldf rfl rfl) ?_
    | refine wG_pure (o_fldt rfl rfl rfl) ?_
    | refine wG_pure (o_ext rfl rfl) ?_
    | refine wG_pure (o_mx rfl rfl) ?_
    | refine wG_pure (o_mn rfl rfl) ?_
    | refine wG_pure (o_neg rfl (by omega) (by omega)) ?_
    | refine wG_new (o_alloc) ?_
    | refine wG_new (o_bsl rfl) ?_
    | refine wG_new (o_box_agg rfl rfl) ?_
    | refine wG_new (o_mks rfl rfl (by omega) (by decide)) ?_
    | refine wG_new (o_box1 rfl) ?_
    | refine wG_upd (o_st_agg rfl rfl rfl rfl rfl rfl rfl) ?_
    | refine wG_upd (o_st1 rfl rfl rfl rfl rfl rfl) ?_) | (first
    | refine wE_nil rfl ?_
    | refine wE_gy rfl ?_
    | refine wE_gn rfl rfl rfl ?_
    | refine wE_gu rfl rfl ?_
    | refine wE_gnn rfl rfl rfl ?_
    | refine wE_pure0 (o_mv rfl) rfl ?_
    | refine wE_pure (o_mv rfl) rfl ?_
    | refine wE_pure0 (o_pick_t rfl rfl) rfl ?_
    | refine wE_pure (o_pick_t rfl rfl) rfl ?_
    | refine wE_pure0 (o_pick_f rfl rfl) rfl ?_
    | refine wE_pure (o_pick_f rfl rfl) rfl ?_
    | refine wE_pure0 (o_ldf_pt rfl rfl rfl rfl) rfl ?_
    | refine wE_pure (o_ldf_pt rfl rfl rfl rfl) rfl ?_
    | refine wE_pure0 (o_ldt_pt rfl rfl rfl rfl rfl) rfl ?_
    | refine wE_pure (o_ldt_pt rfl rfl rfl rfl rfl) rfl ?_
    | refine wE_pure0 (o_ldf_vp rfl) rfl ?_
    | refine wE_pure (o_ldf_vp rfl) rfl ?_
    | refine wE_pure0 (o_ldt_vp rfl rfl rfl) rfl ?_
    | refine wE_pure (o_ldt_vp rfl rfl rfl) rfl ?_
    | refine wE_pure0 (o_fa_pt rfl) rfl ?_
    | refine wE_pure (o_fa_pt rfl) rfl ?_
    | refine wE_pure0 (o_fa_vp rfl rfl) rfl ?_
    | refine wE_pure (o_fa_vp rfl rfl) rfl ?_
    | refine wE_pure0 (o_nck_pt rfl) rfl ?_
    | refine wE_pure (o_nck_pt rfl) rfl ?_
    | refine wE_pure0 (o_nck_vp rfl) rfl ?_
    | refine wE_pure (o_nck_vp rfl) rfl ?_
    | refine wE_pure0 (o_nck_fn rfl) rfl ?_
    | refine wE_pure (o_nck_fn rfl) rfl ?_
    | refine wE_pure0 (e_ia_vw0 rfl rfl (by omega) rfl) rfl ?_
    | refine wE_pure (e_ia_vw0 rfl rfl (by omega) rfl) rfl ?_
    | refine wE_pure0 (e_ia_vwp rfl rfl (by omega) rfl) rfl ?_
    | refine wE_pure (e_ia_vwp rfl rfl (by omega) rfl) rfl ?_
    | refine wE_pure0 (e_ia_vwm rfl rfl (by omega) (by omega) rfl) rfl ?_
    | refine wE_pure (e_ia_vwm rfl rfl (by omega) (by omega) rfl) rfl ?_
    | refine wE_pure0 (e_ia_vwi rfl rfl (by omega) rfl) rfl ?_
    | refine wE_pure (e_ia_vwi rfl rfl (by omega) rfl) rfl ?_
    | refine wE_pure0 (e_ia_vwn rfl rfl (by omega) (by omega) rfl) rfl ?_
    | refine wE_pure (e_ia_vwn rfl rfl (by omega) (by omega) rfl) rfl ?_
    | refine wE_pure0 (e_add rfl rfl (by omega) (by omega)) rfl ?_
    | refine wE_pure (e_add rfl rfl (by omega) (by omega)) rfl ?_
    | refine wE_pure0 (e_sub rfl rfl (by omega) (by omega)) rfl ?_
    | refine wE_pure (e_sub rfl rfl (by omega) (by omega)) rfl ?_
    | refine wE_pure0 (e_mul rfl rfl (by omega) (by omega)) rfl ?_
    | refine wE_pure (e_mul rfl rfl (by omega) (by omega)) rfl ?_
    | refine wE_pure0 (o_lss rfl rfl) rfl ?_
    | refine wE_pure (o_lss rfl rfl) rfl ?_
    | refine wE_pure0 (o_leq rfl rfl) rfl ?_
    | refine wE_pure (o_leq rfl rfl) rfl ?_
    | refine wE_pure0 (o_gtr rfl rfl) rfl ?_
    | refine wE_pure (o_gtr rfl rfl) rfl ?_
    | refine wE_pure0 (o_geq rfl rfl) rfl ?_
    | refine wE_pure (o_geq rfl rfl) rfl ?_
    | refine wE_pure0 (o_eql rfl rfl) rfl ?_
    | refine wE_pure (o_eql rfl rfl) rfl ?_
    | refine wE_pure0 (o_neq rfl rfl) rfl ?_
    | refine wE_pure (o_neq rfl rfl) rfl ?_
    | refine wE_pure0 (o_not_d rfl) rfl ?_
    | refine wE_pure (o_not_d rfl) rfl ?_
    | refine wE_pure0 (o_not rfl) rfl ?_
    | refine wE_pure (o_not rfl) rfl ?_
    | refine wE_pure0 (o_beq rfl rfl) rfl ?_
    | refine wE_pure (o_beq rfl rfl) rfl ?_
    | refine wE_pure0 (o_bne rfl rfl) rfl ?_
    | refine wE_pure (o_bne rfl rfl) rfl ?_
    | refine wE_pure0 (o_build rfl) rfl ?_
    | refine wE_pure (o_build rfl) rfl ?_
    | refine wE_pure0 (o_mkf rfl) rfl ?_
    | refine wE_pure (o_mkf rfl) rfl ?_
    | refine wE_pure0 (o_isnil_vw rfl rfl) rfl ?_
    | refine wE_pure (o_isnil_vw rfl rfl) rfl ?_
    | refine wE_pure0 (o_isnil_sl rfl rfl) rfl ?_
    | refine wE_pure (o_isnil_sl rfl rfl) rfl ?_
    | refine wE_pure0 (o_isnil_nil rfl rfl) rfl ?_
    | refine wE_pure (o_isnil_nil rfl rfl) rfl ?_
    | refine wE_pure0 (o_len_sl rfl) rfl ?_
    | refine wE_pure (o_len_sl rfl) rfl ?_
    | refine wE_pure0 (o_len_vwm rfl) rfl ?_
    | refine wE_pure (o_len_vwm rfl) rfl ?_
    | refine wE_pure0 (o_len_vw rfl) rfl ?_
    | refine wE_pure (o_len_vw rfl) rfl ?_
    | refine wE_pure0 (o_len_nil rfl) rfl ?_
    | refine wE_pure (o_len_nil rfl) rfl ?_
    | refine wE_pure0 (o_slen rfl) rfl ?_
    | refine wE_pure (o_slen rfl) rfl ?_
    | refine wE_pure0 (o_fldf rfl rfl) rfl ?_
    | refine wE_pure (o_fldf rfl rfl) rfl ?_
    | refine wE_pure0 (o_fldt rfl rfl rfl) rfl ?_
    | refine wE_pure (o_fldt rfl rfl rfl) rfl ?_
    | refine wE_pure0 (o_ext rfl rfl) rfl ?_
    | refine wE_pure (o_ext rfl rfl) rfl ?_
    | refine wE_pure0 (o_mx rfl rfl) rfl ?_
    | refine wE_pure (o_mx rfl rfl) rfl ?_
    | refine wE_pure0 (o_mn rfl rfl) rfl ?_
    | refine wE_pure (o_mn rfl rfl) rfl ?_
    | refine wE_pure0 (o_neg rfl (by omega) (by omega)) rfl ?_
    | refine wE_pure (o_neg rfl (by omega) (by omega)) rfl ?_
    | refine wE_new (o_alloc) rfl ?_
    | refine wE_new (o_bsl rfl) rfl ?_
    | refine wE_new (o_box_agg rfl rfl) rfl ?_
    | refine wE_new (o_mks rfl rfl (by omega) (by decide)) rfl ?_
    | refine wE_new (o_box1 rfl) rfl ?_
    | refine wE_upd (o_st_agg rfl rfl rfl rfl rfl rfl rfl) rfl ?_
    | refine wE_upd (o_st1 rfl rfl rfl rfl rfl rfl) rfl ?_))
        exact ret_d0 (.inr rfl) rfl (retV_ldt rfl rfl rfl rfl rfl) (retV_mv rfl)
    · rw [decide_eq_false hy] at c2
      obtain ⟨rfl, rfl, rfl⟩ := hend.2 (fun h => hy h.1.2)
      unfold dRow dNo at *
      repeat (first | refine wG_call c1 rfl rfl ?_ | refine wG_call c2 rfl rfl ?_ | (first
    | refine wC_seq ?_
    | refine wC_reg ?_
    | refine wC_dregq rfl ?_
    | refine wC_dregE ?_
    | refine wC_skip ?_
    | refine wC_blk ?_
    | refine wC_exit ?_
    | refine wC_ret ?_
    | refine q_seq_n ?_
    | refine q_seq_x ?_
    | refine q_seq_r ?_
    | refine q_blk_n ?_
    | refine q_blk_r ?_
    | refine q_blk_x ?_
    | refine q_blk_o rfl ?_
    | refine wG_nil ?_
    | refine wG_gy rfl ?_
    | refine wG_gn rfl rfl ?_
    | refine wG_gu rfl ?_
    | refine wC_cond_t rfl ?_
    | refine wC_cond_f rfl ?_
    | refine wG_pure (o_mv rfl) ?_
    | refine wG_pure (o_pick_t rfl rfl) ?_
    | refine wG_pure (o_pick_f rfl rfl) ?_
    | refine wG_pure (o_ldf_pt rfl rfl rfl rfl) ?_
    | refine wG_pure (o_ldt_pt rfl rfl rfl rfl rfl) ?_
    | refine wG_pure (o_ldf_vp rfl) ?_
    | refine wG_pure (o_ldt_vp rfl rfl rfl) ?_
    | refine wG_pure (o_fa_pt rfl) ?_
    | refine wG_pure (o_fa_vp rfl rfl) ?_
    | refine wG_pure (o_nck_pt rfl) ?_
    | refine wG_pure (o_nck_vp rfl) ?_
    | refine wG_pure (o_nck_fn rfl) ?_
    | refine wG_pure (e_ia_vw0 rfl rfl (by omega) rfl) ?_
    | refine wG_pure (e_ia_vwp rfl rfl (by omega) rfl) ?_
    | refine wG_pure (e_ia_vwm rfl rfl (by omega) (by omega) rfl) ?_
    | refine wG_pure (e_ia_vwi rfl rfl (by omega) rfl) ?_
    | refine wG_pure (e_ia_vwn rfl rfl (by omega) (by omega) rfl) ?_
    | refine wG_pure (e_add rfl rfl (by omega) (by omega)) ?_
    | refine wG_pure (e_sub rfl rfl (by omega) (by omega)) ?_
    | refine wG_pure (e_mul rfl rfl (by omega) (by omega)) ?_
    | refine wG_pure (o_lss rfl rfl) ?_
    | refine wG_pure (o_leq rfl rfl) ?_
    | refine wG_pure (o_gtr rfl rfl) ?_
    | refine wG_pure (o_geq rfl rfl) ?_
    | refine wG_pure (o_eql rfl rfl) ?_
    | refine wG_pure (o_neq rfl rfl) ?_
    | refine wG_pure (o_not_d rfl) ?_
    | refine wG_pure (o_not rfl) ?_
    | refine wG_pure (o_beq rfl rfl) ?_
    | refine wG_pure (o_bne rfl rfl) ?_
    | refine wG_pure (o_build rfl) ?_
    | refine wG_pure (o_mkf rfl) ?_
    | refine wG_pure (o_isnil_vw rfl rfl) ?_
    | refine wG_pure (o_isnil_sl rfl rfl) ?_
    | refine wG_pure (o_isnil_nil rfl rfl) ?_
    | refine wG_pure (o_len_sl rfl) ?_
    | refine wG_pure (o_len_vwm rfl) ?_
    | refine wG_pure (o_len_vw rfl) ?_
    | refine wG_pure (o_len_nil rfl) ?_
    | refine wG_pure (o_slen rfl) ?_
    | refine wG_pure (o_fldf rfl rfl) ?_
    | refine wG_pure (o_fldt rfl rfl rfl) ?_
    | refine wG_pure (o_ext rfl rfl) ?_
    | refine wG_pure (o_mx rfl rfl) ?_
    | refine wG_pure (o_mn rfl rfl) ?_
    | refine wG_pure (o_neg rfl (by omega) (by omega)) ?_
    | refine wG_new (o_alloc) ?_
    | refine wG_new (o_bsl rfl) ?_
    | refine wG_new (o_box_agg rfl rfl) ?_
    | refine wG_new (o_mks rfl rfl (by omega) (by decide)) ?_
    | refine wG_new (o_box1 rfl) ?_
    | refine wG_upd (o_st_agg rfl rfl rfl rfl rfl rfl rfl) ?_
    | refine wG_upd (o_st1 rfl rfl rfl rfl rfl rfl) ?_))
      exact ret_d0 (.inr rfl) rfl (retV_ldt rfl rfl rfl rfl rfl) (retV_mv rfl)
  · rw [decide_eq_false hG] at c1
    obtain ⟨rfl, rfl, rfl⟩ := hend.2 (fun h => hG h.1.1)
    unfold dRow dNo at *
    repeat (first | refine wG_call c1 rfl rfl ?_ | (first
    | refine wC_seq ?_
    | refine wC_reg ?_
    | refine wC_dregq rfl ?_
    | refine wC_dregE ?_
    | refine wC_skip ?_
    | refine wC_blk ?_
    | refine wC_exit ?_
    | refine wC_ret ?_
    | refine q_seq_n ?_
    | refine q_seq_x ?_
    | refine q_seq_r ?_
    | refine q_blk_n ?_
    | refine q_blk_r ?_
    | refine q_blk_x ?_
    | refine q_blk_o rfl ?_
    | refine wG_nil ?_
    | refine wG_gy rfl ?_
    | refine wG_gn rfl rfl ?_
    | refine wG_gu rfl ?_
    | refine wC_cond_t rfl ?_
    | refine wC_cond_f rfl ?_
    | refine wG_pure (o_mv rfl) ?_
    | refine wG_pure (o_pick_t rfl rfl) ?_
    | refine wG_pure (o_pick_f rfl rfl) ?_
    | refine wG_pure (o_ldf_pt rfl rfl rfl rfl) ?_
    | refine wG_pure (o_ldt_pt rfl rfl rfl rfl rfl) ?_
    | refine wG_pure (o_ldf_vp rfl) ?_
    | refine wG_pure (o_ldt_vp rfl rfl rfl) ?_
    | refine wG_pure (o_fa_pt rfl) ?_
    | refine wG_pure (o_fa_vp rfl rfl) ?_
    | refine wG_pure (o_nck_pt rfl) ?_
    | refine wG_pure (o_nck_vp rfl) ?_
    | refine wG_pure (o_nck_fn rfl) ?_
    | refine wG_pure (e_ia_vw0 rfl rfl (by omega) rfl) ?_
    | refine wG_pure (e_ia_vwp rfl rfl (by omega) rfl) ?_
    | refine wG_pure (e_ia_vwm rfl rfl (by omega) (by omega) rfl) ?_
    | refine wG_pure (e_ia_vwi rfl rfl (by omega) rfl) ?_
    | refine wG_pure (e_ia_vwn rfl rfl (by omega) (by omega) rfl) ?_
    | refine wG_pure (e_add rfl rfl (by omega) (by omega)) ?_
    | refine wG_pure (e_sub rfl rfl (by omega) (by omega)) ?_
    | refine wG_pure (e_mul rfl rfl (by omega) (by omega)) ?_
    | refine wG_pure (o_lss rfl rfl) ?_
    | refine wG_pure (o_leq rfl rfl) ?_
    | refine wG_pure (o_gtr rfl rfl) ?_
    | refine wG_pure (o_geq rfl rfl) ?_
    | refine wG_pure (o_eql rfl rfl) ?_
    | refine wG_pure (o_neq rfl rfl) ?_
    | refine wG_pure (o_not_d rfl) ?_
    | refine wG_pure (o_not rfl) ?_
    | refine wG_pure (o_beq rfl rfl) ?_
    | refine wG_pure (o_bne rfl rfl) ?_
    | refine wG_pure (o_build rfl) ?_
    | refine wG_pure (o_mkf rfl) ?_
    | refine wG_pure (o_isnil_vw rfl rfl) ?_
    | refine wG_pure (o_isnil_sl rfl rfl) ?_
    | refine wG_pure (o_isnil_nil rfl rfl) ?_
    | refine wG_pure (o_len_sl rfl) ?_
    | refine wG_pure (o_len_vwm rfl) ?_
    | refine wG_pure (o_len_vw rfl) ?_
    | refine wG_pure (o_len_nil rfl) ?_
    | refine wG_pure (o_slen rfl) ?_
    | refine wG_pure (o_fldf rfl rfl) ?_
    | refine wG_pure (o_fldt rfl rfl rfl) ?_
    | refine wG_pure (o_ext rfl rfl) ?_
    | refine wG_pure (o_mx rfl rfl) ?_
    | refine wG_pure (o_mn rfl rfl) ?_
    | refine wG_pure (o_neg rfl (by omega) (by omega)) ?_
    | refine wG_new (o_alloc) ?_
    | refine wG_new (o_bsl rfl) ?_
    | refine wG_new (o_box_agg rfl rfl) ?_
    | refine wG_new (o_mks rfl rfl (by omega) (by decide)) ?_
    | refine wG_new (o_box1 rfl) ?_
    | refine wG_upd (o_st_agg rfl rfl rfl rfl rfl rfl rfl) ?_
    | refine wG_upd (o_st1 rfl rfl rfl rfl rfl rfl) ?_))
    exact ret_d0 (.inr rfl) rfl (retV_ldt rfl rfl rfl rfl rfl) (retV_mv rfl)
theorem con31_yes (d : Ds) (hlen : d.ws.length ≤ 1048576) (y : Int) (h : sdOK d y) : Con Try.prog 31 true [.agg (dRow true d), .int .i64 y] (dYes (sdO d y)) [(sdO d y).ws.map iRow] :=
  con31_all d hlen y _ [2] _ rfl (plain_map iRow_plain _) ⟨fun _ => ⟨rfl, rfl, rfl⟩, fun hn => absurd h hn⟩
theorem con31_no (d : Ds) (hlen : d.ws.length ≤ 1048576) (y : Int) (h : ¬ sdOK d y) : Con Try.prog 31 true [.agg (dRow true d), .int .i64 y] dNo [] :=
  con31_all d hlen y _ [] _ rfl plain_nil ⟨fun hy => absurd hy h, fun _ => ⟨rfl, rfl, rfl⟩⟩
theorem con32_all (d : Ds) (hlen : d.ws.length ≤ 1048576) (y : Int) (v : AV) (rs : List Nat) (objs : List Ab.Rows) (hv : v.nvf = true) (hp : PlainObjs objs)
    (hend : (sdOK d y → v = dYes (sdO d y) ∧ rs = [2] ∧ objs = [(sdO d y).ws.map iRow]) ∧ (¬ sdOK d y → v = dNo ∧ rs = [] ∧ objs = [])) :
    Con Try.prog 32 true [.agg (dRow true d), .int .i64 y] v objs := by
  classical
  suffices key : Con Try.prog 32 v.nvf [.agg (dRow true d), .int .i64 y] v objs by rwa [hv] at key
  refine con_of_wp mixed fun32 (by simp) rs hp ?_
  unfold ac32 ro32
  simp only [zipT]
  have c1 := con19 true d hlen
  have c2 := con65 y (-22100) 22100
  by_cases hG : GoodD d
  · rw [decide_eq_true hG] at c1
    by_cases hy : -22100 ≤ y ∧ y ≤ 22100
    · rw [decide_eq_true hy] at c2
      have hf := hG.2.1
      have h60 := hG.1
      obtain ⟨f, ws⟩ := d
      simp only at hlen hf h60
      have c3 := con80CL ws hlen
      have c5 := con19 true ⟨f + y, ws⟩ hlen
      have hend' := hend
      unfold dRow dYes dNo sdOK sdO at *
      simp only at *
      by_cases hgo : GoodD ⟨f + y, ws⟩
      · rw [decide_eq_true hgo] at c5
        obtain ⟨rfl, rfl, rfl⟩ := hend'.1 ⟨⟨hG, hy⟩, hgo⟩
        repeat (first | refine wG_call c1 rfl rfl ?_ | refine wG_call c2 rfl rfl ?_ | refine wE_call1 c3 rfl rfl rfl ?_ | refine wG_call c5 (ag_is rfl rfl rfl iRow_plain ag_nil) rfl ?_ | (first
    | refine wC_seq ?_
    | refine wC_reg ?_
    | refine wC_dregq rfl ?_
    | refine wC_dregE ?_
    | refine wC_skip ?_
    | refine wC_blk ?_
    | refine wC_exit ?_
    | refine wC_ret ?_
    | refine q_seq_n ?_
    | refine q_seq_x ?_
    | refine q_seq_r ?_
    | refine q_blk_n ?_
    | refine q_blk_r ?_
    | refine q_blk_x ?_
    | refine q_blk_o rfl ?_
    | refine wG_nil ?_
    | refine wG_gy rfl ?_
    | refine wG_gn rfl rfl ?_
    | refine wG_gu rfl ?_
    | refine wC_cond_t rfl ?_
    | refine wC_cond_f rfl ?_
    | refine wG_pure (o_mv rfl) ?_
    | refine wG_pure (o_pick_t rfl rfl) ?_
    | refine wG_pure (o_pick_f rfl rfl) ?_
    | refine wG_pure (o_ldf_pt rfl rfl rfl rfl) ?_
    | refine wG_pure (o_ldt_pt rfl rfl rfl rfl rfl) ?_
    | refine wG_pure (o_ldf_vp rfl) ?_
    | refine wG_pure (o_ldt_vp rfl rfl rfl) ?_
    | refine wG_pure (o_fa_pt rfl) ?_
    | refine wG_pure (o_fa_vp rfl rfl) ?_
    | refine wG_pure (o_nck_pt rfl) ?_
    | refine wG_pure (o_nck_vp rfl) ?_
    | refine wG_pure (o_nck_fn rfl) ?_
    | refine wG_pure (e_ia_vw0 rfl rfl (by omega) rfl) ?_
    | refine wG_pure (e_ia_vwp rfl rfl (by omega) rfl) ?_
    | refine wG_pure (e_ia_vwm rfl rfl (by omega) (by omega) rfl) ?_
    | refine wG_pure (e_ia_vwi rfl rfl (by omega) rfl) ?_
    | refine wG_pure (e_ia_vwn rfl rfl (by omega) (by omega) rfl) ?_
    | refine wG_pure (e_add rfl rfl (by omega) (by omega)) ?_
    | refine wG_pure (e_sub rfl rfl (by omega) (by omega)) ?_
    | refine wG_pure (e_mul rfl rfl (by omega) (by omega)) ?_
    | refine wG_pure (o_lss rfl rfl) ?_
    | refine wG_pure (o_leq rfl rfl) ?_
    | refine wG_pure (o_gtr rfl rfl) ?_
    | refine wG_pure (o_geq rfl rfl) ?_
    | refine wG_pure (o_eql rfl rfl) ?_
    | refine wG_pure (o_neq rfl rfl) ?_
    | refine wG_pure (o_not_d rfl) ?_
    | refine wG_pure (o_not rfl) ?_
    | refine wG_pure (o_beq rfl rfl) ?_
    | refine wG_pure (o_bne rfl rfl) ?_
    | refine wG_pure (o_build rfl) ?_
    | refine wG_pure (o_mkf rfl) ?_
    | refine wG_pure (o_isnil_vw rfl rfl) ?_
    | refine wG_pure (o_isnil_sl rfl rfl) ?_
    | refine wG_pure (o_isnil_nil rfl rfl) ?_
    | refine wG_pure (o_len_sl rfl) ?_
    | refine wG_pure (o_len_vwm rfl) ?_
    | refine wG_pure (o_len_vw rfl) ?_
    | refine wG_pure (o_len_nil rfl) ?_
    | refine wG_pure (o_slen rfl) ?_
    | refine wG_pure (o_fldf rfl rfl) ?_
    | refine wG_pure (o_fldt rfl rfl rfl) ?_
    | refine wG_pure (o_ext rfl rfl) ?_
    | refine wG_pure (o_mx rfl rfl) ?_
    | refine wG_pure (o_mn rfl rfl) ?_
    | refine wG_pure (o_neg rfl (by omega) (by omega)) ?_
    | refine wG_new (o_alloc) ?_
    | refine wG_new (o_bsl rfl) ?_
    | refine wG_new (o_box_agg rfl rfl) ?_
    | refine wG_new (o_mks rfl rfl (by omega) (by decide)) ?_
    | refine wG_new (o_box1 rfl) ?_
    | refine wG_upd (o_st_agg rfl rfl rfl rfl rfl rfl rfl) ?_
    | refine wG_upd (o_st1 rfl rfl rfl rfl rfl rfl) ?_) | (first
    | refine wE_nil rfl ?_
    | refine wE_gy rfl ?_
    | refine wE_gn rfl rfl rfl ?_
    | refine wE_gu rfl rfl ?_
    | refine wE_gnn rfl rfl rfl ?_
    | refine wE_pure0 (o_mv rfl) rfl ?_
    | refine wE_pure (o_mv rfl) rfl ?_
    | refine wE_pure0 (o_pick_t rfl rfl) rfl ?_
    | refine wE_pure (o_pick_t rfl rfl) rfl ?_
    | refine wE_pure0 (o_pick_f rfl rfl) rfl ?_
    | refine wE_pure (o_pick_f rfl rfl) rfl ?_
    | refine wE_pure0 (o_ldf_pt rfl rfl rfl rfl) rfl ?_
    | refine wE_pure (o_ldf_pt rfl rfl rfl rfl) rfl ?_
    | refine wE_pure0 (o_ldt_pt rfl rfl rfl rfl rfl) rfl ?_
    | refine wE_pure (o_ldt_pt rfl rfl rfl rfl rfl) rfl ?_
    | refine wE_pure0 (o_ldf_vp rfl) rfl ?_
    | refine wE_pure (o_ldf_vp rfl) rfl ?_
    | refine wE_pure0 (o_ldt_vp rfl rfl rfl) rfl ?_
    | refine wE_pure (o_ldt_vp rfl rfl rfl) rfl ?_
    | refine wE_pure0 (o_fa_pt rfl) rfl ?_
    | refine wE_pure (o_fa_pt rfl) rfl ?_
    | refine wE_pure0 (o_fa_vp rfl rfl) rfl ?_
    | refine wE_pure (o_fa_vp rfl rfl) rfl ?_
    | refine wE_pure0 (o_nck_pt rfl) rfl ?_
    | refine wE_pure (o_nck_pt rfl) rfl ?_
    | refine wE_pure0 (o_nck_vp rfl) rfl ?_
    | refine wE_pure (o_nck_vp rfl) rfl ?_
    | refine wE_pure0 (o_nck_fn rfl) rfl ?_
    | refine wE_pure (o_nck_fn rfl) rfl ?_
    | refine wE_pure0 (e_ia_vw0 rfl rfl (by omega) rfl) rfl ?_
    | refine wE_pure (e_ia_vw0 rfl rfl (by omega) rfl) rfl ?_
    | refine wE_pure0 (e_ia_vwp rfl rfl (by omega) rfl) rfl ?_
    | refine wE_pure (e_ia_vwp rfl rfl (by omega) rfl) rfl ?_
    | refine wE_pure0 (e_ia_vwm rfl rfl (by omega) (by omega) rfl) rfl ?_
    | refine wE_pure (e_ia_vwm rfl rfl (by omega) (by omega) rfl) rfl ?_
    | refine wE_pure0 (e_ia_vwi rfl rfl (by omega) rfl) rfl ?_
    | refine wE_pure (e_ia_vwi rfl rfl (by omega) rfl) rfl ?_
    | refine wE_pure0 (e_ia_vwn rfl rfl (by omega) (by omega) rfl) rfl ?_
    | refine wE_pure (e_ia_vwn rfl rfl (by omega) (by omega) rfl) rfl ?_
    | refine wE_pure0 (e_add rfl rfl (by omega) (by omega)) rfl ?_
    | refine wE_pure (e_add rfl rfl (by omega) (by omega)) rfl ?_
    | refine wE_pure0 (e_sub rfl rfl (by omega) (by omega)) rfl ?_
    | refine wE_pure (e_sub rfl rfl (by omega) (by omega)) rfl ?_
    | refine wE_pure0 (e_mul rfl rfl (by omega) (by omega)) rfl ?_
    | refine wE_pure (e_mul rfl rfl (by omega) (by omega)) rfl ?_
    | refine wE_pure0 (o_lss rfl rfl) rfl ?_
    | refine wE_pure (o_lss rfl rfl) rfl ?_
    | refine wE_pure0 (o_leq rfl rfl) rfl ?_
    | refine wE_pure (o_leq rfl rfl) rfl ?_
    | refine wE_pure0 (o_gtr rfl rfl) rfl ?_
    | refine wE_pure (o_gtr rfl rfl) rfl ?_
    | refine wE_pure0 (o_geq rfl rfl) rfl ?_
    | refine wE_pure (o_geq rfl rfl) rfl ?_
    | refine wE_pure0 (o_eql rfl rfl) rfl ?_
    | refine wE_pure (o_eql rfl rfl) rfl ?_
    | refine wE_pure0 (o_neq rfl rfl) rfl ?_
    | refine wE_pure (o_neq rfl rfl) rfl ?_
    | refine wE_pure0 (o_not_d rfl) rfl ?_
    | refine wE_pure (o_not_d rfl) rfl ?_
    | refine wE_pure0 (o_not rfl) rfl ?_
    | refine wE_pure (o_not rfl) rfl ?_
    | refine wE_pure0 (o_beq rfl rfl) rfl ?_
    | refine wE_pure (o_beq rfl rfl) rfl ?_
    | refine wE_pure0 (o_bne rfl rfl) rfl ?_
    | refine wE_pure (o_bne rfl rfl) rfl ?_
    | refine wE_pure0 (o_build rfl) rfl ?_
    | refine wE_pure (o_build rfl) rfl ?_
    | refine wE_pure0 (o_mkf rfl) rfl ?_
    | refine wE_pure (o_mkf rfl) rfl ?_
    | refine wE_pure0 (o_isnil_vw rfl rfl) rfl ?_
    | refine wE_pure (o_isnil_vw rfl rfl) rfl ?_
    | refine wE_pure0 (o_isnil_sl rfl rfl) rfl ?_
    | refine wE_pure (o_isnil_sl rfl rfl) rfl ?_
    | refine wE_pure0 (o_isnil_nil rfl rfl) rfl ?_
    | refine wE_pure (o_isnil_nil rfl rfl) rfl ?_
    | refine wE_pure0 (o_len_sl rfl) rfl ?_
    | refine wE_pure (o_len_sl rfl) rfl ?_
    | refine wE_pure0 (o_len_vwm rfl) rfl ?_
    | refine wE_pure (o_len_vwm rfl) rfl ?_
    | refine wE_pure0 (o_len_vw rfl) rfl ?_
    | refine wE_pure (o_len_vw rfl) rfl ?_
    | refine wE_pure0 (o_len_nil rfl) rfl ?_
    | refine wE_pure (o_len_nil rfl) rfl ?_
    | refine wE_pure0 (o_slen rfl) rfl ?_
    | refine wE_pure (o_slen rfl) rfl ?_
    | refine wE_pure0 (o_fldf rfl rfl) rfl ?_
    | refine wE_pure (o_fldf rfl rfl) rfl ?_
    | refine wE_pure0 (o_fldt rfl rfl rfl) rfl ?_
    | refine wE_pure (o_fldt rfl rfl rfl) rfl ?_
    | refine wE_pure0 (o_ext rfl rfl) rfl ?_
    | refine wE_pure (o_ext rfl rfl) rfl ?_
    | refine wE_pure0 (o_mx rfl rfl) rfl ?_
    | refine wE_pure (o_mx rfl rfl) rfl ?_
    | refine wE_pure0 (o_mn rfl rfl) rfl ?_
    | refine wE_pure (o_mn rfl rfl) rfl ?_
    | refine wE_pure0 (o_neg rfl (by omega) (by omega)) rfl ?_
    | refine wE_pure (o_neg rfl (by omega) (by omega)) rfl ?_
    | refine wE_new (o_alloc) rfl ?_
    | refine wE_new (o_bsl rfl) rfl ?_
    | refine wE_new (o_box_agg rfl rfl) rfl ?_
    | refine wE_new (o_mks rfl rfl (by omega) (by decide)) rfl ?_
    | refine wE_new (o_box1 rfl) rfl ?_
    | refine wE_upd (o_st_agg rfl rfl rfl rfl rfl rfl rfl) rfl ?_
    | refine wE_upd (o_st1 rfl rfl rfl rfl rfl rfl) rfl ?_))
        exact ret_db (.inr rfl) rfl (retV_ldt rfl rfl rfl rfl rfl) (retV_mv rfl) rfl
      · rw [decide_eq_false hgo] at c5
        obtain ⟨rfl, rfl, rfl⟩ := hend'.2 (fun h => hgo h.2)
        repeat (first | refine wG_call c1 rfl rfl ?_ | refine wG_call c2 rfl rfl ?_ | refine wE_call1 c3 rfl rfl rfl ?_ | refine wG_call c5 (ag_is rfl rfl rfl iRow_plain ag_nil) rfl ?_ | (first
    | refine wC_seq ?_
    | refine wC_reg ?_
    | refine wC_dregq rfl ?_
    | refine wC_dregE ?_
    | refine wC_skip ?_
    | refine wC_blk ?_
    | refine wC_exit ?_
    | refine wC_ret ?_
    | refine q_seq_n ?_
    | refine q_seq_x ?_
    | refine q_seq_r ?_
    | refine q_blk_n ?_
    | refine q_blk_r ?_
    | refine q_blk_x ?_
    | refine q_blk_o rfl ?_
    | refine wG_nil ?_
    | refine wG_gy rfl ?_
    | refine wG_gn rfl rfl ?_
    | refine wG_gu rfl ?_
    | refine wC_cond_t rfl ?_
    | refine wC_cond_f rfl ?_
    | refine wG_pure (o_mv rfl) ?_
    | refine wG_pure (o_pick_t rfl rfl) ?_
    | refine wG_pure (o_pick_f rfl rfl) ?_
    | refine wG_pure (o_ldf_pt rfl rfl rfl rfl) ?_
    | refine wG_pure (o_ldt_pt rfl rfl rfl rfl rfl) ?_
    | refine wG_pure (o_ldf_vp rfl) ?_
    | refine wG_pure (o_ldt_vp rfl rfl rfl) ?_
    | refine wG_pure (o_fa_pt rfl) ?_
    | refine wG_pure (o_fa_vp rfl rfl) ?_
    | refine wG_pure (o_nck_pt rfl) ?_
    | refine wG_pure (o_nck_vp rfl) ?_
    | refine wG_pure (o_nck_fn rfl) ?_
    | refine wG_pure (e_ia_vw0 rfl rfl (by omega) rfl) ?_
    | refine wG_pure (e_ia_vwp rfl rfl (by omega) rfl) ?_
    | refine wG_pure (e_ia_vwm rfl rfl (by omega) (by omega) rfl) ?_
    | refine wG_pure (e_ia_vwi rfl rfl (by omega) rfl) ?_
    | refine wG_pure (e_ia_vwn rfl rfl (by omega) (by omega) rfl) ?_
    | refine wG_pure (e_add rfl rfl (by omega) (by omega)) ?_
    | refine wG_pure (e_sub rfl rfl (by omega) (by omega)) ?_
    | refine wG_pure (e_mul rfl rfl (by omega) (by omega)) ?_
    | refine wG_pure (o_lss rfl rfl) ?_
    | refine wG_pure (o_leq rfl rfl) ?_
    | refine wG_pure (o_gtr rfl rfl) ?_
    | refine wG_pure (o_geq rfl rfl) ?_
    | refine wG_pure (o_eql rfl rfl) ?_
    | refine wG_pure (o_neq rfl rfl) ?_
    | refine wG_pure (o_not_d rfl) ?_
    | refine wG_pure (o_not rfl) ?_
    | refine wG_pure (o_beq rfl rfl) ?_
    | refine wG_pure (o_bne rfl rfl) ?_
    | refine wG_pure (o_build rfl) ?_
    | refine wG_pure (o_mkf rfl) ?_
    | refine wG_pure (o_isnil_vw rfl rfl) ?_
    | refine wG_pure (o_isnil_sl rfl rfl) ?_
    | refine wG_pure (o_isnil_nil rfl rfl) ?_
    | refine wG_pure (o_len_sl rfl) ?_
    | refine wG_pure (o_len_vwm rfl) ?_
    | refine wG_pure (o_len_vw rfl) ?_
    | refine wG_pure (o_len_nil rfl) ?_
    | refine wG_pure (o_slen rfl) ?_
    | refine wG_pure (o_fldf rfl rfl) ?_
    | refine wG_pure (o_fldt rfl rfl rfl) ?_
    | refine wG_pure (o_ext rfl rfl) ?_
    | refine wG_pure (o_mx rfl rfl) ?_
    | refine wG_pure (o_mn rfl rfl) ?_
    | refine wG_pure (o_neg rfl (by omega) (by omega)) ?_
    | refine wG_new (o_alloc) ?_
    | refine wG_new (o_bsl rfl) ?_
    | refine wG_new (o_box_agg rfl rfl) ?_
    | refine wG_new (o_mks rfl rfl (by omega) (by decide)) ?_
    | refine wG_new (o_box1 rfl) ?_
    | refine wG_upd (o_st_agg rfl rfl rfl rfl rfl rfl rfl) ?_
    | refine wG_upd (o_st1 rfl rfl rfl rfl rfl rfl) ?_) | (first
    | refine wE_nil rfl ?_
    | refine wE_gy rfl ?_
    | refine wE_gn rfl rfl rfl ?_
    | refine wE_gu rfl rfl ?_
    | refine wE_gnn rfl rfl rfl ?_
    | refine wE_pure0 (o_mv rfl) rfl ?_
    | refine wE_pure (o_mv rfl) rfl ?_
    | refine wE_pure0 (o_pick_t rfl rfl) rfl ?_
    | refine wE_pure (o_pick_t rfl rfl) rfl ?_
    | refine wE_pure0 (o_pick_f rfl rfl) rfl ?_
    | refine wE_pure (o_pick_f rfl rfl) rfl ?_
    | refine wE_pure0 (o_ldf_pt rfl rfl rfl rfl) rfl ?_
    | refine wE_pure (o_ldf_pt rfl rfl rfl rfl) rfl ?_
    | refine wE_pure0 (o_ldt_pt rfl rfl rfl rfl rfl) rfl ?_
    | refine wE_pure (o_ldt_pt rfl rfl rfl rfl rfl) rfl ?_
    | refine wE_pure0 (o_ldf_vp rfl) rfl ?_
    | refine wE_pure (o_ldf_vp rfl) rfl ?_
    | refine wE_pure0 (o_ldt_vp rfl rfl rfl) rfl ?_
    | refine wE_pure (o_ldt_vp rfl rfl rfl) rfl ?_
    | refine wE_pure0 (o_fa_pt rfl) rfl ?_
    | refine wE_pure (o_fa_pt rfl) rfl ?_
    | refine wE_pure0 (o_fa_vp rfl rfl) rfl ?_
    | refine wE_pure (o_fa_vp rfl rfl) rfl ?_
    | refine wE_pure0 (o_nck_pt rfl) rfl ?_
    | refine wE_pure (o_nck_pt rfl) rfl ?_
    | refine wE_pure0 (o_nck_vp rfl) rfl ?_
    | refine wE_pure (o_nck_vp rfl) rfl ?_
    | refine wE_pure0 (o_nck_fn rfl) rfl ?_
    | refine wE_pure (o_nck_fn rfl) rfl ?_
    | refine wE_pure0 (e_ia_vw0 rfl rfl (by omega) rfl) rfl ?_
    | refine wE_pure (e_ia_vw0 rfl rfl (by omega) rfl) rfl ?_
    | refine wE_pure0 (e_ia_vwp rfl rfl (by omega) rfl) rfl ?_
    | refine wE_pure (e_ia_vwp rfl rfl (by omega) rfl) rfl ?_
    | refine wE_pure0 (e_ia_vwm rfl rfl (by omega) (by omega) rfl) rfl ?_
    | refine wE_pure (e_ia_vwm rfl rfl (by omega) (by omega) rfl) rfl ?_
    | refine wE_pure0 (e_ia_vwi rfl rfl (by omega) rfl) rfl ?_
    | refine wE_pure (e_ia_vwi rfl rfl (by omega) rfl) rfl ?_
    | refine wE_pure0 (e_ia_vwn rfl rfl (by omega) (by omega) rfl) rfl ?_
    | refine wE_pure (e_ia_vwn rfl rfl (by omega) (by omega) rfl) rfl ?_
    | refine wE_pure0 (e_add rfl rfl (by omega) (by omega)) rfl ?_
    | refine wE_pure (e_add rfl rfl (by omega) (by omega)) rfl ?_
    | refine wE_pure0 (e_sub rfl rfl (by omega) (by omega)) rfl ?_
    | refine wE_pure (e_sub rfl rfl (by omega) (by omega)) rfl ?_
    | refine wE_pure0 (e_mul rfl rfl (by omega) (by omega)) rfl ?_
    | refine wE_pure (e_mul rfl rfl (by omega) (by omega)) rfl ?_
    | refine wE_pure0 (o_lss rfl rfl) rfl ?_
    | refine wE_pure (o_lss rfl rfl) rfl ?_
    | refine wE_pure0 (o_leq rfl rfl) rfl ?_
    | refine wE_pure (o_leq rfl rfl) rfl ?_
    | refine wE_pure0 (o_gtr rfl rfl) rfl ?_
    | refine wE_pure (o_gtr rfl rfl) rfl ?_
    | refine wE_pure0 (o_geq rfl rfl) rfl ?_
    | refine wE_pure (o_geq rfl rfl) rfl ?_
    | refine wE_pure0 (o_eql rfl rfl) rfl ?_
    | refine wE_pure (o_eql rfl rfl) rfl ?_
    | refine wE_pure0 (o_neq rfl rfl) rfl ?_
    | refine wE_pure (o_neq rfl rfl) rfl ?_
    | refine wE_pure0 (o_not_d rfl) rfl ?_
    | refine wE_pure (o_not_d rfl) rfl ?_
    | refine wE_pure0 (o_not rfl) rfl ?_
    | refine wE_pure (o_not rfl) rfl ?_
    | refine wE_pure0 (o_beq rfl rfl) rfl ?_
    | refine wE_pure (o_beq rfl rfl) rfl ?_
    | refine wE_pure0 (o_bne rfl rfl) rfl ?_
    | refine wE_pure (o_bne rfl rfl) rfl ?_
    | refine wE_pure0 (o_build rfl) rfl ?_
    | refine wE_pure (o_build rfl) rfl ?_
    | refine wE_pure0 (o_mkf rfl) rfl ?_
    | refine wE_pure (o_mkf rfl) rfl ?_
    | refine wE_pure0 (o_isnil_vw rfl rfl) rfl ?_
    | refine wE_pure (o_isnil_vw rfl rfl) rfl ?_
    | refine wE_pure0 (o_isnil_sl rfl rfl) rfl ?_
    | refine wE_pure (o_isnil_sl rfl rfl) rfl ?_
    | refine wE_pure0 (o_isnil_nil rfl rfl) rfl ?_
    | refine wE_pure (o_isnil_nil rfl rfl) rfl ?_
    | refine wE_pure0 (o_len_sl rfl) rfl ?_
    | refine wE_pure (o_len_sl rfl) rfl ?_
    | refine wE_pure0 (o_len_vwm rfl) rfl ?_
    | refine wE_pure (o_len_vwm rfl) rfl ?_
    | refine wE_pure0 (o_len_vw rfl) rfl ?_
    | refine wE_pure (o_len_vw rfl) rfl ?_
    | refine wE_pure0 (o_len_nil rfl) rfl ?_
    | refine wE_pure (o_len_nil rfl) rfl ?_
    | refine wE_pure0 (o_slen rfl) rfl ?_
    | refine wE_pure (o_slen rfl) rfl ?_
    | refine wE_pure0 (o_fldf rfl rfl) rfl ?_
    | refine wE_pure (o_fldf rfl rfl) rfl ?_
    | refine wE_pure0 (o_fldt rfl rfl rfl) rfl ?_
    | refine wE_pure (o_fldt rfl rfl rfl) rfl ?_
    | refine wE_pure0 (o_ext rfl rfl) rfl ?_
    | refine wE_pure (o_ext rfl rfl) rfl ?_
    | refine wE_pure0 (o_mx rfl rfl) rfl ?_
    | refine wE_pure (o_mx rfl rfl) rfl ?_
    | refine wE_pure0 (o_mn rfl rfl) rfl ?_
    | refine wE_pure (o_mn rfl rfl) rfl ?_
    | refine wE_pure0 (o_neg rfl (by omega) (by omega)) rfl ?_
    | refine wE_pure (o_neg rfl (by omega) (by omega)) rfl ?_
    | refine wE_new (o_alloc) rfl ?_
    | refine wE_new (o_bsl rfl) rfl ?_
    | refine wE_new (o_box_agg rfl rfl) rfl ?_
    | refine wE_new (o_mks rfl rfl (by omega) (by decide)) rfl ?_
    | refine wE_new (o_box1 rfl) rfl ?_
    | refine wE_upd (o_st_agg rfl rfl rfl rfl rfl rfl rfl) rfl ?_
    | refine wE_upd (o_st1 rfl rfl rfl rfl rfl rfl) rfl ?_))
        exact ret_d0 (.inr rfl) rfl (retV_ldt rfl rfl rfl rfl rfl) (retV_mv rfl)
    · rw [decide_eq_false hy] at c2
      obtain ⟨rfl, rfl, rfl⟩ := hend.2 (fun h => hy h.1.2)
      unfold dRow dNo at *
      repeat (first | refine wG_call c1 rfl rfl ?_ | refine wG_call c2 rfl rfl ?_ | (first
    | refine wC_seq ?_
    | refine wC_reg ?_
    | refine wC_dregq rfl ?_
    | refine wC_dregE ?_
    | refine wC_skip ?_
    | refine wC_blk ?_
    | refine wC_exit ?_
    | refine wC_ret ?_
    | refine q_seq_n ?_
    | refine q_seq_x ?_
    | refine q_seq_r ?_
    | refine q_blk_n ?_
    | refine q_blk_r ?_
    | refine q_blk_x ?_
    | refine q_blk_o rfl ?_
    | refine wG_nil ?_
    | refine wG_gy rfl ?_
    | refine wG_gn rfl rfl ?_
    | refine wG_gu rfl ?_
    | refine wC_cond_t rfl ?_
    | refine wC_cond_f rfl ?_
    | refine wG_pure (o_mv rfl) ?_
    | refine wG_pure (o_pick_t rfl rfl) ?_
    | refine wG_pure (o_pick_f rfl rfl) ?_
    | refine wG_pure (o_ldf_pt rfl rfl rfl rfl) ?_
    | refine wG_pure (o_ldt_pt rfl rfl rfl rfl rfl) ?_
    | refine wG_pure (o_ldf_vp rfl) ?_
    | refine wG_pure (o_ldt_vp rfl rfl rfl) ?_
    | refine wG_pure (o_fa_pt rfl) ?_
    | refine wG_pure (o_fa_vp rfl rfl) ?_
    | refine wG_pure (o_nck_pt rfl) ?_
    | refine wG_pure (o_nck_vp rfl) ?_
    | refine wG_pure (o_nck_fn rfl) ?_
    | refine wG_pure (e_ia_vw0 rfl rfl (by omega) rfl) ?_
    | refine wG_pure (e_ia_vwp rfl rfl (by omega) rfl) ?_
    | refine wG_pure (e_ia_vwm rfl rfl (by omega) (by omega) rfl) ?_
    | refine wG_pure (e_ia_vwi rfl rfl (by omega) rfl) ?_
    | refine wG_pure (e_ia_vwn rfl rfl (by omega) (by omega) rfl) ?_
    | refine wG_pure (e_add rfl rfl (by omega) (by omega)) ?_
    | refine wG_pure (e_sub rfl rfl (by omega) (by omega)) ?_
    | refine wG_pure (e_mul rfl rfl (by omega) (by omega)) ?_
    | refine wG_pure (o_lss rfl rfl) ?_
    | refine wG_pure (o_leq rfl rfl) ?_
    | refine wG_pure (o_gtr rfl rfl) ?_
    | refine wG_pure (o_geq rfl rfl) ?_
    | refine wG_pure (o_eql rfl rfl) ?_
    | refine wG_pure (o_neq rfl rfl) ?_
    | refine wG_pure (o_not_d rfl) ?_
    | refine wG_pure (o_not rfl) ?_
    | refine wG_pure (o_beq rfl rfl) ?_
    | refine wG_pure (o_bne rfl rfl) ?_
    | refine wG_pure (o_build rfl) ?_
    | refine wG_pure (o_mkf rfl) ?_
    | refine wG_pure (o_isnil_vw rfl rfl) ?_
    | refine wG_pure (o_isnil_sl rfl rfl) ?_
    | refine wG_pure (o_isnil_nil rfl rfl) ?_
    | refine wG_pure (o_len_sl rfl) ?_
    | refine wG_pure (o_len_vwm rfl) ?_
    | refine wG_pure (o_len_vw rfl) ?_
    | refine wG_pure (o_len_nil rfl) ?_
    | refine wG_pure (o_slen rfl) ?_
    | refine wG_pure (o_fldf rfl rfl) ?_
    | refine wG_pure (o_fldt rfl rfl rfl) ?_
    | refine wG_pure (o_ext rfl rfl) ?_
    | refine wG_pure (o_mx rfl rfl) ?_
    | refine wG_pure (o_mn rfl rfl) ?_
    | refine wG_pure (o_neg rfl (by omega) (by omega)) ?_
    | refine wG_new (o_alloc) ?_
    | refine wG_new (o_bsl rfl) ?_
    | refine wG_new (o_box_agg rfl rfl) ?_
    | refine wG_new (o_mks rfl rfl (by omega) (by decide)) ?_
    | refine wG_new (o_box1 rfl) ?_
    | refine wG_upd (o_st_agg rfl rfl rfl rfl rfl rfl rfl) ?_
    | refine wG_upd (o_st1 rfl rfl rfl rfl rfl rfl) ?_))
      exact ret_d0 (.inr rfl) rfl (retV_ldt rfl rfl rfl rfl rfl) (retV_mv rfl)
  · rw [decide_eq_false hG] at c1
    obtain ⟨rfl, rfl, rfl⟩ := hend.2 (fun h => hG h.1.1)
    unfold dRow dNo at *
    repeat (first | refine wG_call c1 rfl rfl ?_ | (first
    | refine wC_seq ?_
    | refine wC_reg ?_
    | refine wC_dregq rfl ?_
    | refine wC_dregE ?_
    | refine wC_skip ?_
    | refine wC_blk ?_
    | refine wC_exit ?_
    | refine wC_ret ?_
    | refine q_seq_n ?_
    | refine q_seq_x ?_
    | refine q_seq_r ?_
    | refine q_blk_n ?_
    | refine q_blk_r ?_
    | refine q_blk_x ?_
    | refine q_blk_o rfl ?_
    | refine wG_nil ?_
    | refine wG_gy rfl ?_
    | refine wG_gn rfl rfl ?_
    | refine wG_gu rfl ?_
    | refine wC_cond_t rfl ?_
    | refine wC_cond_f rfl ?_
    | refine wG_pure (o_mv rfl) ?_
    | refine wG_pure (o_pick_t rfl rfl) ?_
    | refine wG_pure (o_pick_f rfl rfl) ?_
    | refine wG_pure (o_ldf_pt rfl rfl rfl rfl) ?_
    | refine wG_pure (o_ldt_pt rfl rfl rfl rfl rfl) ?_
    | refine wG_pure (o_ldf_vp rfl) ?_
    | refine wG_pure (o_ldt_vp rfl rfl rfl) ?_
    | refine wG_pure (o_fa_pt rfl) ?_
    | refine wG_pure (o_fa_vp rfl rfl) ?_
    | refine wG_pure (o_nck_pt rfl) ?_
    | refine wG_pure (o_nck_vp rfl) ?_
    | refine wG_pure (o_nck_fn rfl) ?_
    | refine wG_pure (e_ia_vw0 rfl rfl (by omega) rfl) ?_
    | refine wG_pure (e_ia_vwp rfl rfl (by omega) rfl) ?_
    | refine wG_pure (e_ia_vwm rfl rfl (by omega) (by omega) rfl) ?_
    | refine wG_pure (e_ia_vwi rfl rfl (by omega) rfl) ?_
    | refine wG_pure (e_ia_vwn rfl rfl (by omega) (by omega) rfl) ?_
    | refine wG_pure (e_add rfl rfl (by omega) (by omega)) ?_
    | refine wG_pure (e_sub rfl rfl (by omega) (by omega)) ?_
    | refine wG_pure (e_mul rfl rfl (by omega) (by omega)) ?_
    | refine wG_pure (o_lss rfl rfl) ?_
    | refine wG_pure (o_leq rfl rfl) ?_
    | refine wG_pure (o_gtr rfl rfl) ?_
    | refine wG_pure (o_geq rfl rfl) ?_
    | refine wG_pure (o_eql rfl rfl) ?_
    | refine wG_pure (o_neq rfl rfl) ?_
    | refine wG_pure (o_not_d rfl) ?_
    | refine wG_pure (o_not rfl) ?_
    | refine wG_pure (o_beq rfl rfl) ?_
    | refine wG_pure (o_bne rfl rfl) ?_
    | refine wG_pure (o_build rfl) ?_
    | refine wG_pure (o_mkf rfl) ?_
    | refine wG_pure (o_isnil_vw rfl rfl) ?_
    | refine wG_pure (o_isnil_sl rfl rfl) ?_
    | refine wG_pure (o_isnil_nil rfl rfl) ?_
    | refine wG_pure (o_len_sl rfl) ?_
    | refine wG_pure (o_len_vwm rfl) ?_
    | refine wG_pure (o_len_vw rfl) ?_
    | refine wG_pure (o_len_nil rfl) ?_
    | refine wG_pure (o_slen rfl) ?_
    | refine wG_pure (o_fldf rfl rfl) ?_
    | refine wG_pure (o_fldt rfl rfl rfl) ?_
    | refine wG_pure (o_ext rfl rfl) ?_
    | refine wG_pure (o_mx rfl rfl) ?_
    | refine wG_pure (o_mn rfl rfl) ?_
    | refine wG_pure (o_neg rfl (by omega) (by omega)) ?_
    | refine wG_new (o_alloc) ?_
    | refine wG_new (o_bsl rfl) ?_
    | refine wG_new (o_box_agg rfl rfl) ?_
    | refine wG_new (o_mks rfl rfl (by omega) (by decide)) ?_
    | refine wG_new (o_box1 rfl) ?_
    | refine wG_upd (o_st_agg rfl rfl rfl rfl rfl rfl rfl) ?_
    | refine wG_upd (o_st1 rfl rfl rfl rfl rfl rfl) ?_))
    exact ret_d0 (.inr rfl) rfl (retV_ldt rfl rfl rfl rfl rfl) (retV_mv rfl)
theorem con32_yes (d : Ds) (hlen : d.ws.length ≤ 1048576) (y : Int) (h : sdOK d y) : Con Try.prog 32 true [.agg (dRow true d), .int .i64 y] (dYes (sdO d y)) [(sdO d y).ws.map iRow] :=
  con32_all d hlen y _ [2] _ rfl (plain_map iRow_plain _) ⟨fun _ => ⟨rfl, rfl, rfl⟩, fun hn => absurd h hn⟩
theorem con32_no (d : Ds) (hlen : d.ws.length ≤ 1048576) (y : Int) (h : ¬ sdOK d y) : Con Try.prog 32 true [.agg (dRow true d), .int .i64 y] dNo [] :=
  con32_all d hlen y _ [] _ rfl plain_nil ⟨fun hy => absurd hy h, fun _ => ⟨rfl, rfl, rfl⟩⟩
theorem con9 (nn : Bool) (d : Ds) (hlen : d.ws.length ≤ 9223372036854775807) (y : Int) : Con Try.prog 9 true [.agg (dRow nn d), .int .i64 y] (.bool true) [] := by
  refine con_of_wp mixed fun9 (by simp) [] plain_nil ?_
  unfold ac9 ro9
  simp only [zipT]
  have c0 := con16 nn d hlen 1048576 (by decide) (by decide)
  by_cases hs : (d.ws.length : Int) ≤ 1048576
  · rw [if_pos hs] at c0
    have hs' : d.ws.length ≤ 1048576 := by omega
    have c1 := con18 nn d hs'
    have c4 := con20_same true true d hs'
    have sx := fun h nr r => @sh33 d 1 hs' (by decide) (by decide) h nr r
    by_cases hG : sdOK d y
    · have c2 := con31_yes d hs' y hG
      have c3 := con32_yes d hs' y hG
      have hl := hG.2.len
      generalize sdO d y = e at *
      have hd : e.ws.length ≤ 1048576 := by omega
      have c5 := con20_same true true e hd
      have c6 := con34 true e.f e.ws.length 1 hd (by decide) (by decide)
      have sm := fun h nr r => @sh33 e 1 hd (by decide) (by decide) h nr r
      obtain ⟨f, ws⟩ := d
      obtain ⟨g, vs⟩ := e
      unfold dYes dRow at *
      simp only at *
      repeat' (first
        | refine wC_dregE ?_ | refine wG_call c0 rfl rfl ?_ | refine wG_call1 c1 rfl rfl ?_ | refine wG_call1 c2 (ag_is rfl rfl rfl iRow_plain (ag_int rfl ag_nil)) rfl ?_ | refine wG_call1 c3 (ag_is rfl rfl rfl iRow_plain (ag_int rfl ag_nil)) rfl ?_ | refine wG_call c5 (ag_is rfl rfl rfl iRow_plain (ag_is rfl rfl rfl iRow_plain ag_nil)) rfl ?_ | refine wG_call c6 (ag_is rfl rfl (mks_len _ _).symm iRow_plain (ag_int rfl ag_nil)) rfl ?_
        | refine wE_call1 c1 rfl rfl rfl ?_ | refine wE_call c4 (ag_is rfl rfl rfl iRow_plain (ag_is rfl rfl rfl iRow_plain ag_nil)) rfl rfl ?_ | refine wE_call c5 (ag_is rfl rfl rfl iRow_plain (ag_is rfl rfl rfl iRow_plain ag_nil)) rfl rfl ?_
        | (refine wG_callS (f := 33) (sx _ _ _ rfl ?_) rfl ?_ <;> (repeat' (first | exact ltrI _ _ | exact ltrC _ _ | exact ltrI [] _ | exact wfH_nil | refine wfH_cons (by decide) ?_ ?_ | refine wfH_none ?_ | exact ltr_dec rfl)))
        | (refine wG_callS (f := 33) (sm _ _ _ rfl ?_) rfl ?_ <;> (repeat' (first | exact ltrI _ _ | exact ltrC _ _ | exact ltrI [] _ | exact wfH_nil | refine wfH_cons (by decide) ?_ ?_ | refine wfH_none ?_ | exact ltr_dec rfl)))
        | (first
    | refine wC_seq ?_
    | refine wC_reg ?_
    | refine wC_dregq rfl ?_
    | refine wC_dregE ?_
    | refine wC_skip ?_
    | refine wC_blk ?_
    | refine wC_exit ?_
    | refine wC_ret ?_
    | refine q_seq_n ?_
    | refine q_seq_x ?_
    | refine q_seq_r ?_
    | refine q_blk_n ?_
    | refine q_blk_r ?_
    | refine q_blk_x ?_
    | refine q_blk_o rfl ?_
    | refine wG_nil ?_
    | refine wG_gy rfl ?_
    | refine wG_gn rfl rfl ?_
    | refine wG_gu rfl ?_
    | refine wC_cond_t rfl ?_
    | refine wC_cond_f rfl ?_
    | refine wG_pure (o_mv rfl) ?_
    | refine wG_pure (o_pick_t rfl rfl) ?_
    | refine wG_pure (o_pick_f rfl rfl) ?_
    | refine wG_pure (o_ldf_pt rfl rfl rfl rfl) ?_
    | refine wG_pure (o_ldt_pt rfl rfl rfl rfl rfl) ?_
    | refine wG_pure (o_ldf_vp rfl) ?_
    | refine wG_pure (o_ldt_vp rfl rfl rfl) ?_
    | refine wG_pure (o_fa_pt rfl) ?_
    | refine wG_pure (o_fa_vp rfl rfl) ?_
    | refine wG_pure (o_nck_pt rfl) ?_
    | refine wG_pure (o_nck_vp rfl) ?_
    | refine wG_pure (o_nck_fn rfl) ?_
    | refine wG_pure (e_ia_vw0 rfl rfl (by omega) rfl) ?_
    | refine wG_pure (e_ia_vwp rfl rfl (by omega) rfl) ?_
    | refine wG_pure (e_ia_vwm rfl rfl (by omega) (by omega) rfl) ?_
    | refine wG_pure (e_ia_vwi rfl rfl (by omega) rfl) ?_
    | refine wG_pure (e_ia_vwn rfl rfl (by omega) (by omega) rfl) ?_
    | refine wG_pure (e_add rfl rfl (by omega) (by omega)) ?_
    | refine wG_pure (e_sub rfl rfl (by omega) (by omega)) ?_
    | refine wG_pure (e_mul rfl rfl (by omega) (by omega)) ?_
    | refine wG_pure (o_lss rfl rfl) ?_
    | refine wG_pure (o_leq rfl rfl) ?_
    | refine wG_pure (o_gtr rfl rfl) ?_
    | refine wG_pure (o_geq rfl rfl) ?_
    | refine wG_pure (o_eql rfl rfl) ?_
    | refine wG_pure (o_neq rfl rfl) ?_
    | refine wG_pure (o_not_d rfl) ?_
    | refine wG_pure (o_not rfl) ?_
    | refine wG_pure (o_beq rfl rfl) ?_
    | refine wG_pure (o_bne rfl rfl) ?_
    | refine wG_pure (o_build rfl) ?_
    | refine wG_pure (o_mkf rfl) ?_
    | refine wG_pure (o_isnil_vw rfl rfl) ?_
    | refine wG_pure (o_isnil_sl rfl rfl) ?_
    | refine wG_pure (o_isnil_nil rfl rfl) ?_
    | refine wG_pure (o_len_sl rfl) ?_
    | refine wG_pure (o_len_vwm rfl) ?_
    | refine wG_pure (o_len_vw rfl) ?_
    | refine wG_pure (o_len_nil rfl) ?_
    | refine wG_pure (o_slen rfl) ?_
    | refine wG_pure (o_fldf rfl rfl) ?_
    | refine wG_pure (o_fldt rfl rfl rfl) ?_
    | refine wG_pure (o_ext rfl rfl) ?_
    | refine wG_pure (o_mx rfl rfl) ?_
    | refine wG_pure (o_mn rfl rfl) ?_
    | refine wG_pure (o_neg rfl (by omega) (by omega)) ?_
    | refine wG_new (o_alloc) ?_
    | refine wG_new (o_bsl rfl) ?_
    | refine wG_new (o_box_agg rfl rfl) ?_
    | refine wG_new (o_mks rfl rfl (by omega) (by decide)) ?_
    | refine wG_new (o_box1 rfl) ?_
    | refine wG_upd (o_st_agg rfl rfl rfl rfl rfl rfl rfl) ?_
    | refine wG_upd (o_st1 rfl rfl rfl rfl rfl rfl) ?_) | (first
    | refine wE_nil rfl ?_
    | refine wE_gy rfl ?_
    | refine wE_gn rfl rfl rfl ?_
    | refine wE_gu rfl rfl ?_
    | refine wE_gnn rfl rfl rfl ?_
    | refine wE_pure0 (o_mv rfl) rfl ?_
    | refine wE_pure (o_mv rfl) rfl ?_
    | refine wE_pure0 (o_pick_t rfl rfl) rfl ?_
    | refine wE_pure (o_pick_t rfl rfl) rfl ?_
    | refine wE_pure0 (o_pick_f rfl rfl) rfl ?_
    | refine wE_pure (o_pick_f rfl rfl) rfl ?_
    | refine wE_pure0 (o_ldf_pt rfl rfl rfl rfl) rfl ?_
    | refine wE_pure (o_ldf_pt rfl rfl rfl rfl) rfl ?_
    | refine wE_pure0 (o_ldt_pt rfl rfl rfl rfl rfl) rfl ?_
    | refine wE_pure (o_ldt_pt rfl rfl rfl rfl rfl) rfl ?_
    | refine wE_pure0 (o_ldf_vp rfl) rfl ?_
    | refine wE_pure (o_ldf_vp rfl) rfl ?_
    | refine wE_pure0 (o_ldt_vp rfl rfl rfl) rfl ?_
    | refine wE_pure (o_ldt_vp rfl rfl rfl) rfl ?_
    | refine wE_pure0 (o_fa_pt rfl) rfl ?_
    | refine wE_pure (o_fa_pt rfl) rfl ?_
    | refine wE_pure0 (o_fa_vp rfl rfl) rfl ?_
    | refine wE_pure (o_fa_vp rfl rfl) rfl ?_
    | refine wE_pure0 (o_nck_pt rfl) rfl ?_
    | refine wE_pure (o_nck_pt rfl) rfl ?_
    | refine wE_pure0 (o_nck_vp rfl) rfl ?_
    | refine wE_pure (o_nck_vp rfl) rfl ?_
    | refine wE_pure0 (o_nck_fn rfl) rfl ?_
    | refine wE_pure (o_nck_fn rfl) rfl ?_
    | refine wE_pure0 (e_ia_vw0 rfl rfl (by omega) rfl) rfl ?_
    | refine wE_pure (e_ia_vw0 rfl rfl (by omega) rfl) rfl ?_
    | refine wE_pure0 (e_ia_vwp rfl rfl (by omega) rfl) rfl ?_
    | refine wE_pure (e_ia_vwp rfl rfl (by omega) rfl) rfl ?_
    | refine wE_pure0 (e_ia_vwm rfl rfl (by omega) (by omega) rfl) rfl ?_
    | refine wE_pure (e_ia_vwm rfl rfl (by omega) (by omega) rfl) rfl ?_
    | refine wE_pure0 (e_ia_vwi rfl rfl (by omega) rfl) rfl ?_
    | refine wE_pure (e_ia_vwi rfl rfl (by omega) rfl) rfl ?_
    | refine wE_pure0 (e_ia_vwn rfl rfl (by omega) (by omega) rfl) rfl ?_
    | refine wE_pure (e_ia_vwn rfl rfl (by omega) (by omega) rfl) rfl ?_
    | refine wE_pure0 (e_add rfl rfl (by omega) (by omega)) rfl ?_
    | refine wE_pure (e_add rfl rfl (by omega) (by omega)) rfl ?_
    | refine wE_pure0 (e_sub rfl rfl (by omega) (by omega)) rfl ?_
    | refine wE_pure (e_sub rfl rfl (by omega) (by omega)) rfl ?_
    | refine wE_pure0 (e_mul rfl rfl (by omega) (by omega)) rfl ?_
    | refine wE_pure (e_mul rfl rfl (by omega) (by omega)) rfl ?_
    | refine wE_pure0 (o_lss rfl rfl) rfl ?_
    | refine wE_pure (o_lss rfl rfl) rfl ?_
    | refine wE_pure0 (o_leq rfl rfl) rfl ?_
    | refine wE_pure (o_leq rfl rfl) rfl ?_
    | refine wE_pure0 (o_gtr rfl rfl) rfl ?_
    | refine wE_pure (o_gtr rfl rfl) rfl ?_
    | refine wE_pure0 (o_geq rfl rfl) rfl ?_
    | refine wE_pure (o_geq rfl rfl) rfl ?_
    | refine wE_pure0 (o_eql rfl rfl) rfl ?_
    | refine wE_pure (o_eql rfl rfl) rfl ?_
    | refine wE_pure0 (o_neq rfl rfl) rfl ?_
    | refine wE_pure (o_neq rfl rfl) rfl ?_
    | refine wE_pure0 (o_not_d rfl) rfl ?_
    | refine wE_pure (o_not_d rfl) rfl ?_
    | refine wE_pure0 (o_not rfl) rfl ?_
    | refine wE_pure (o_not rfl) rfl ?_
    | refine wE_pure0 (o_beq rfl rfl) rfl ?_
    | refine wE_pure (o_beq rfl rfl) rfl ?_
    | refine wE_pure0 (o_bne rfl rfl) rfl ?_
    | refine wE_pure (o_bne rfl rfl) rfl ?_
    | refine wE_pure0 (o_build rfl) rfl ?_
    | refine wE_pure (o_build rfl) rfl ?_
    | refine wE_pure0 (o_mkf rfl) rfl ?_
    | refine wE_pure (o_mkf rfl) rfl ?_
    | refine wE_pure0 (o_isnil_vw rfl rfl) rfl ?_
    | refine wE_pure (o_isnil_vw rfl rfl) rfl ?_
    | refine wE_pure0 (o_isnil_sl rfl rfl) rfl ?_
    | refine wE_pure (o_isnil_sl rfl rfl) rfl ?_
    | refine wE_pure0 (o_isnil_nil rfl rfl) rfl ?_
    | refine wE_pure (o_isnil_nil rfl rfl) rfl ?_
    | refine wE_pure0 (o_len_sl rfl) rfl ?_
    | refine wE_pure (o_len_sl rfl) rfl ?_
    | refine wE_pure0 (o_len_vwm rfl) rfl ?_
    | refine wE_pure (o_len_vwm rfl) rfl ?_
    | refine wE_pure0 (o_len_vw rfl) rfl ?_
    | refine wE_pure (o_len_vw rfl) rfl ?_
    | refine wE_pure0 (o_len_nil rfl) rfl ?_
    | refine wE_pure (o_len_nil rfl) rfl ?_
    | refine wE_pure0 (o_slen rfl) rfl ?_
    | refine wE_pure (o_slen rfl) rfl ?_
    | refine wE_pure0 (o_fldf rfl rfl) rfl ?_
    | refine wE_pure (o_fldf rfl rfl) rfl ?_
    | refine wE_pure0 (o_fldt rfl rfl rfl) rfl ?_
    | refine wE_pure (o_fldt rfl rfl rfl) rfl ?_
    | refine wE_pure0 (o_ext rfl rfl) rfl ?_
    | refine wE_pure (o_ext rfl rfl) rfl ?_
    | refine wE_pure0 (o_mx rfl rfl) rfl ?_
    | refine wE_pure (o_mx rfl rfl) rfl ?_
    | refine wE_pure0 (o_mn rfl rfl) rfl ?_
    | refine wE_pure (o_mn rfl rfl) rfl ?_
    | refine wE_pure0 (o_neg rfl (by omega) (by omega)) rfl ?_
    | refine wE_pure (o_neg rfl (by omega) (by omega)) rfl ?_
    | refine wE_new (o_alloc) rfl ?_
    | refine wE_new (o_bsl rfl) rfl ?_
    | refine wE_new (o_box_agg rfl rfl) rfl ?_
    | refine wE_new (o_mks rfl rfl (by omega) (by decide)) rfl ?_
    | refine wE_new (o_box1 rfl) rfl ?_
    | refine wE_upd (o_st_agg rfl rfl rfl rfl rfl rfl rfl) rfl ?_
    | refine wE_upd (o_st1 rfl rfl rfl rfl rfl rfl) rfl ?_) | (refine wG_gd rfl (fun hgt => ?_) (fun hgf => ?_) <;> (first | simp only [eq_true hgt, decide_true] | simp only [eq_false hgf, decide_false])) | refine wC_cond_d rfl (fun hg => ?_) (fun hg => ?_))
      all_goals (first | exact ret_boolE (.inr rfl) ⟨_, retV_mv rfl, rfl⟩ | (exfalso; omega) | trace_state)
    · have c2 := con31_no d hs' y hG
      have c3 := con32_no d hs' y hG
      have c5 := eqD_no
      have c6 := heldD_no
      have c7 := con33_nil 0 1
      obtain ⟨f, ws⟩ := d
      unfold dNo dRow at *
      simp only at *
      repeat' (first
        | refine wC_dregE ?_ | refine wG_call c0 rfl rfl ?_ | refine wG_call1 c1 rfl rfl ?_ | refine wG_call c2 (ag_is rfl rfl rfl iRow_plain (ag_int rfl ag_nil)) rfl ?_ | refine wG_call c3 (ag_is rfl rfl rfl iRow_plain (ag_int rfl ag_nil)) rfl ?_ | refine wG_call c5 rfl rfl ?_ | refine wG_call c6 rfl rfl ?_ | refine wG_call c7 rfl rfl ?_
        | refine wE_call1 c1 rfl rfl rfl ?_ | refine wE_call c4 (ag_is rfl rfl rfl iRow_plain (ag_is rfl rfl rfl iRow_plain ag_nil)) rfl rfl ?_ | refine wE_call c5 rfl rfl rfl ?_
        | (refine wG_callS (f := 33) (sx _ _ _ rfl ?_) rfl ?_ <;> (repeat' (first | exact ltrI _ _ | exact ltrC _ _ | exact ltrI [] _ | exact wfH_nil | refine wfH_cons (by decide) ?_ ?_ | refine wfH_none ?_ | exact ltr_dec rfl)))
        | (first
    | refine wC_seq ?_
    | refine wC_reg ?_
    | refine wC_dregq rfl ?_
    | refine wC_dregE ?_
    | refine wC_skip ?_
    | refine wC_blk ?_
    | refine wC_exit ?_
    | refine wC_ret ?_
    | refine q_seq_n ?_
    | refine q_seq_x ?_
    | refine q_seq_r ?_
    | refine q_blk_n ?_
    | refine q_blk_r ?_
    | refine q_blk_x ?_
    | refine q_blk_o rfl ?_
    | refine wG_nil ?_
    | refine wG_gy rfl ?_
    | refine wG_gn rfl rfl ?_
    | refine wG_gu rfl ?_
    | refine wC_cond_t rfl ?_
    | refine wC_cond_f rfl ?_
    | refine wG_pure (o_mv rfl) ?_
    | refine wG_pure (o_pick_t rfl rfl) ?_
    | refine wG_pure (o_pick_f rfl rfl) ?_
    | refine wG_pure (o_ldf_pt rfl rfl rfl rfl) ?_
    | refine wG_pure (o_ldt_pt rfl rfl rfl rfl rfl) ?_
    | refine wG_pure (o_ldf_vp rfl) ?_
    | refine wG_pure (o_ldt_vp rfl rfl rfl) ?_
    | refine wG_pure (o_fa_pt rfl) ?_
    | refine wG_pure (o_fa_vp rfl rfl) ?_
    | refine wG_pure (o_nck_pt rfl) ?_
    | refine wG_pure (o_nck_vp rfl) ?_
    | refine wG_pure (o_nck_fn rfl) ?_
    | refine wG_pure (e_ia_vw0 rfl rfl (by omega) rfl) ?_
    | refine wG_pure (e_ia_vwp rfl rfl (by omega) rfl) ?_
    | refine wG_pure (e_ia_vwm rfl rfl (by omega) (by omega) rfl) ?_
    | refine wG_pure (e_ia_vwi rfl rfl (by omega) rfl) ?_
    | refine wG_pure (e_ia_vwn rfl rfl (by omega) (by omega) rfl) ?_
    | refine wG_pure (e_add rfl rfl (by omega) (by omega)) ?_
    | refine wG_pure (e_sub rfl rfl (by omega) (by omega)) ?_
    | refine wG_pure (e_mul rfl rfl (by omega) (by omega)) ?_
    | refine wG_pure (o_lss rfl rfl) ?_
    | refine wG_pure (o_leq rfl rfl) ?_
    | refine wG_pure (o_gtr rfl rfl) ?_
    | refine wG_pure (o_geq rfl rfl) ?_
    | refine wG_pure (o_eql rfl rfl) ?_
    | refine wG_pure (o_neq rfl rfl) ?_
    | refine wG_pure (o_not_d rfl) ?_
    | refine wG_pure (o_not rfl) ?_
    | refine wG_pure (o_beq rfl rfl) ?_
    | refine wG_pure (o_bne rfl rfl) ?_
    | refine wG_pure (o_build rfl) ?_
    | refine wG_pure (o_mkf rfl) ?_
    | refine wG_pure (o_isnil_vw rfl rfl) ?_
    | refine wG_pure (o_isnil_sl rfl rfl) ?_
    | refine wG_pure (o_isnil_nil rfl rfl) ?_
    | refine wG_pure (o_len_sl rfl) ?_
    | refine wG_pure (o_len_vwm rfl) ?_
    | refine wG_pure (o_len_vw rfl) ?_
    | refine wG_pure (o_len_nil rfl) ?_
    | refine wG_pure (o_slen rfl) ?_
    | refine wG_pure (o_fldf rfl rfl) ?_
    | refine wG_pure (o_fldt rfl rfl rfl) ?_
    | refine wG_pure (o_ext rfl rfl) ?_
    | refine wG_pure (o_mx rfl rfl) ?_
    | refine wG_pure (o_mn rfl rfl) ?_
    | refine wG_pure (o_neg rfl (by omega) (by omega)) ?_
    | refine wG_new (o_alloc) ?_
    | refine wG_new (o_bsl rfl) ?_
    | refine wG_new (o_box_agg rfl rfl) ?_
    | refine wG_new (o_mks rfl rfl (by omega) (by decide)) ?_
    | refine wG_new (o_box1 rfl) ?_
    | refine wG_upd (o_st_agg rfl rfl rfl rfl rfl rfl rfl) ?_
    | refine wG_upd (o_st1 rfl rfl rfl rfl rfl rfl) ?_) | (first
    | refine wE_nil rfl ?_
    | refine wE_gy rfl ?_
    | refine wE_gn rfl rfl rfl ?_
    | refine wE_gu rfl rfl ?_
    | refine wE_gnn rfl rfl rfl ?_
    | refine wE_pure0 (o_mv rfl) rfl ?_
    | refine wE_pure (o_mv rfl) rfl ?_
    | refine wE_pure0 (o_pick_t rfl rfl) rfl ?_
    | refine wE_pure (o_pick_t rfl rfl) rfl ?_
    | refine wE_pure0 (o_pick_f rfl rfl) rfl ?_
    | refine wE_pure (o_pick_f rfl rfl) rfl ?_
    | refine wE_pure0 (o_ldf_pt rfl rfl rfl rfl) rfl ?_
    | refine wE_pure (o_ldf_pt rfl rfl rfl rfl) rfl ?_
    | refine wE_pure0 (o_ldt_pt rfl rfl rfl rfl rfl) rfl ?_
    | refine wE_pure (o_ldt_pt rfl rfl rfl rfl rfl) rfl ?_
    | refine wE_pure0 (o_ldf_vp rfl) rfl ?_
    | refine wE_pure (o_ldf_vp rfl) rfl ?_
    | refine wE_pure0 (o_ldt_vp rfl rfl rfl) rfl ?_
    | refine wE_pure (o_ldt_vp rfl rfl rfl) rfl ?_
    | refine wE_pure0 (o_fa_pt rfl) rfl ?_
    | refine wE_pure (o_fa_pt rfl) rfl ?_
    | refine wE_pure0 (o_fa_vp rfl rfl) rfl ?_
    | refine wE_pure (o_fa_vp rfl rfl) rfl ?_
    | refine wE_pure0 (o_nck_pt rfl) rfl ?_
    | refine wE_pure (o_nck_pt rfl) rfl ?_
    | refine wE_pure0 (o_nck_vp rfl) rfl ?_
    | refine wE_pure (o_nck_vp rfl) rfl ?_
    | refine wE_pure0 (o_nck_fn rfl) rfl ?_
    | refine wE_pure (o_nck_fn rfl) rfl ?_
    | refine wE_pure0 (e_ia_vw0 rfl rfl (by omega) rfl) rfl ?_
    | refine wE_pure (e_ia_vw0 rfl rfl (by omega) rfl) rfl ?_
    | refine wE_pure0 (e_ia_vwp rfl rfl (by omega) rfl) rfl ?_
    | refine wE_pure (e_ia_vwp rfl rfl (by omega) rfl) rfl ?_
    | refine wE_pure0 (e_ia_vwm rfl rfl (by omega) (by omega) rfl) rfl ?_
    | refine wE_pure (e_ia_vwm rfl rfl (by omega) (by omega) rfl) rfl ?_
    | refine wE_pure0 (e_ia_vwi rfl rfl (by omega) rfl) rfl ?_
    | refine wE_pure (e_ia_vwi rfl rfl (by omega) rfl) rfl ?_
    | refine wE_pure0 (e_ia_vwn rfl rfl (by omega) (by omega) rfl) rfl ?_
    | refine wE_pure (e_ia_vwn rfl rfl (by omega) (by omega) rfl) rfl ?_
    | refine wE_pure0 (e_add rfl rfl (by omega) (by omega)) rfl ?_
    | refine wE_pure (e_add rfl rfl (by omega) (by omega)) rfl ?_
    | refine wE_pure0 (e_sub rfl rfl (by omega) (by omega)) rfl ?_
    | refine wE_pure (e_sub rfl rfl (by omega) (by omega)) rfl ?_
    | refine wE_pure0 (e_mul rfl rfl (by omega) (by omega)) rfl ?_
    | refine wE_pure (e_mul rfl rfl (by omega) (by omega)) rfl ?_
    | refine wE_pure0 (o_lss rfl rfl) rfl ?_
    | refine wE_pure (o_lss rfl rfl) rfl ?_
    | refine wE_pure0 (o_leq rfl rfl) rfl ?_
    | refine wE_pure (o_leq rfl rfl) rfl ?_
    | refine wE_pure0 (o_gtr rfl rfl) rfl ?_
    | refine wE_pure (o_gtr rfl rfl) rfl ?_
    | refine wE_pure0 (o_geq rfl rfl) rfl ?_
    | refine wE_pure (o_geq rfl rfl) rfl ?_
    | refine wE_pure0 (o_eql rfl rfl) rfl ?_
    | refine wE_pure (o_eql rfl rfl) rfl ?_
    | refine wE_pure0 (o_neq rfl rfl) rfl ?_
    | refine wE_pure (o_neq rfl rfl) rfl ?_
    | refine wE_pure0 (o_not_d rfl) rfl ?_
    | refine wE_pure (o_not_d rfl) rfl ?_
    | refine wE_pure0 (o_not rfl) rfl ?_
    | refine wE_pure (o_not rfl) rfl ?_
    | refine wE_pure0 (o_beq rfl rfl) rfl ?_
    | refine wE_pure (o_beq rfl rfl) rfl ?_
    | refine wE_pure0 (o_bne rfl rfl) rfl ?_
    | refine wE_pure (o_bne rfl rfl) rfl ?_
    | refine wE_pure0 (o_build rfl) rfl ?_
    | refine wE_pure (o_build rfl) rfl ?_
    | refine wE_pure0 (o_mkf rfl) rfl ?_
    | refine wE_pure (o_mkf rfl) rfl ?_
    | refine wE_pure0 (o_isnil_vw rfl rfl) rfl ?_
    | refine wE_pure (o_isnil_vw rfl rfl) rfl ?_
    | refine wE_pure0 (o_isnil_sl rfl rfl) rfl ?_
    | refine wE_pure (o_isnil_sl rfl rfl) rfl ?_
    | refine wE_pure0 (o_isnil_nil rfl rfl) rfl ?_
    | refine wE_pure (o_isnil_nil rfl rfl) rfl ?_
    | refine wE_pure0 (o_len_sl rfl) rfl ?_
    | refine wE_pure (o_len_sl rfl) rfl ?_
    | refine wE_pure0 (o_len_vwm rfl) rfl ?_
    | refine wE_pure (o_len_vwm rfl) rfl ?_
    | refine wE_pure0 (o_len_vw rfl) rfl ?_
    | refine wE_pure (o_len_vw rfl) rfl ?_
    | refine wE_pure0 (o_len_nil rfl) rfl ?_
    | refine wE_pure (o_len_nil rfl) rfl ?_
    | refine wE_pure0 (o_slen rfl) rfl ?_
    | refine wE_pure (o_slen rfl) rfl ?_
    | refine wE_pure0 (o_fldf rfl rfl) rfl ?_
    | refine wE_pure (o_fldf rfl rfl) rfl ?_
    | refine wE_pure0 (o_fldt rfl rfl rfl) rfl ?_
    | refine wE_pure (o_fldt rfl rfl rfl) rfl ?_
    | refine wE_pure0 (o_ext rfl rfl) rfl ?_
    | refine wE_pure (o_ext rfl rfl) rfl ?_
    | refine wE_pure0 (o_mx rfl rfl) rfl ?_
    | refine wE_pure (o_mx rfl rfl) rfl ?_
    | refine wE_pure0 (o_mn rfl rfl) rfl ?_
    | refine wE_pure (o_mn rfl rfl) rfl ?_
    | refine wE_pure0 (o_neg rfl (by omega) (by omega)) rfl ?_
    | refine wE_pure (o_neg rfl (by omega) (by omega)) rfl ?_
    | refine wE_new (o_alloc) rfl ?_
    | refine wE_new (o_bsl rfl) rfl ?_
    | refine wE_new (o_box_agg rfl rfl) rfl ?_
    | refine wE_new (o_mks rfl rfl (by omega) (by decide)) rfl ?_
    | refine wE_new (o_box1 rfl) rfl ?_
    | refine wE_upd (o_st_agg rfl rfl rfl rfl rfl rfl rfl) rfl ?_
    | refine wE_upd (o_st1 rfl rfl rfl rfl rfl rfl) rfl ?_) | (refine wG_gd rfl (fun hgt => ?_) (fun hgf => ?_) <;> (first | simp only [eq_true hgt, decide_true] | simp only [eq_false hgf, decide_false])) | refine wC_cond_d rfl (fun hg => ?_) (fun hg => ?_))
      all_goals (first | exact ret_boolE (.inr rfl) ⟨_, retV_mv rfl, rfl⟩ | (exfalso; omega) | trace_state)
  · rw [if_neg hs] at c0
    repeat' (first | refine wG_call c0 rfl rfl ?_ | (first
    | refine wC_seq ?_
    | refine wC_reg ?_
    | refine wC_dregq rfl ?_
    | refine wC_dregE ?_
    | refine wC_skip ?_
    | refine wC_blk ?_
    | refine wC_exit ?_
    | refine wC_ret ?_
    | refine q_seq_n ?_
    | refine q_seq_x ?_
    | refine q_seq_r ?_
    | refine q_blk_n ?_
    | refine q_blk_r ?_
    | refine q_blk_x ?_
    | refine q_blk_o rfl ?_
    | refine wG_nil ?_
    | refine wG_gy rfl ?_
    | refine wG_gn rfl rfl ?_
    | refine wG_gu rfl ?_
    | refine wC_cond_t rfl ?_
    | refine wC_cond_f rfl ?_
    | refine wG_pure (o_mv rfl) ?_
    | refine wG_pure (o_pick_t rfl rfl) ?_
    | refine wG_pure (o_pick_f rfl rfl) ?_
    | refine wG_pure (o_ldf_pt rfl rfl rfl rfl) ?_
    | refine wG_pure (o_ldt_pt rfl rfl rfl rfl rfl) ?_
    | refine wG_pure (o_ldf_vp rfl) ?_
    | refine wG_pure (o_ldt_vp rfl rfl rfl) ?_
    | refine wG_pure (o_fa_pt rfl) ?_
    | refine wG_pure (o_fa_vp rfl rfl) ?_
    | refine wG_pure (o_nck_pt rfl) ?_
    | refine wG_pure (o_nck_vp rfl) ?_
    | refine wG_pure (o_nck_fn rfl) ?_
    | refine wG_pure (e_ia_vw0 rfl rfl (by omega) rfl) ?_
    | refine wG_pure (e_ia_vwp rfl rfl (by omega) rfl) ?_
    | refine wG_pure (e_ia_vwm rfl rfl (by omega) (by omega) rfl) ?_
    | refine wG_pure (e_ia_vwi rfl rfl (by omega) rfl) ?_
    | refine wG_pure (e_ia_vwn rfl rfl (by omega) (by omega) rfl) ?_
    | refine wG_pure (e_add rfl rfl (by omega) (by omega)) ?_
    | refine wG_pure (e_sub rfl rfl (by omega) (by omega)) ?_
    | refine wG_pure (e_mul rfl rfl (by omega) (by omega)) ?_
    | refine wG_pure (o_lss rfl rfl) ?_
    | refine wG_pure (o_leq rfl rfl) ?_
    | refine wG_pure (o_gtr rfl rfl) ?_
    | refine wG_pure (o_geq rfl rfl) ?_
    | refine wG_pure (o_eql rfl rfl) ?_
    | refine wG_pure (o_neq rfl rfl) ?_
    | refine wG_pure (o_not_d rfl) ?_
    | refine wG_pure (o_not rfl) ?_
    | refine wG_pure (o_beq rfl rfl) ?_
    | refine wG_pure (o_bne rfl rfl) ?_
    | refine wG_pure (o_build rfl) ?_
    | refine wG_pure (o_mkf rfl) ?_
    | refine wG_pure (o_isnil_vw rfl rfl) ?_
    | refine wG_pure (o_isnil_sl rfl rfl) ?_
    | refine wG_pure (o_isnil_nil rfl rfl) ?_
    | refine wG_pure (o_len_sl rfl) ?_
    | refine wG_pure (o_len_vwm rfl) ?_
    | refine wG_pure (o_len_vw rfl) ?_
    | refine wG_pure (o_len_nil rfl) ?_
    | refine wG_pure (o_slen rfl) ?_
    | refine wG_pure (o_fldf rfl rfl) ?_
    | refine wG_pure (o_fldt rfl rfl rfl) ?_
    | refine wG_pure (o_ext rfl rfl) ?_
    | refine wG_pure (o_mx rfl rfl) ?_
    | refine wG_pure (o_mn rfl rfl) ?_
    | refine wG_pure (o_neg rfl (by omega) (by omega)) ?_
    | refine wG_new (o_alloc) ?_
    | refine wG_new (o_bsl rfl) ?_
    | refine wG_new (o_box_agg rfl rfl) ?_
    | refine wG_new (o_mks rfl rfl (by omega) (by decide)) ?_
    | refine wG_new (o_box1 rfl) ?_
    | refine wG_upd (o_st_agg rfl rfl rfl rfl rfl rfl rfl) ?_
    | refine wG_upd (o_st1 rfl rfl rfl rfl rfl rfl) ?_) | (refine wG_gd rfl (fun hgt => ?_) (fun hgf => ?_) <;> (first | simp only [eq_true hgt, decide_true] | simp only [eq_false hgf, decide_false])) | refine wC_cond_d rfl (fun hg => ?_) (fun hg => ?_))
    all_goals (first | exact ret_boolE (.inr rfl) ⟨_, retV_mv rfl, rfl⟩ | (exfalso; omega))
end Go.Proofs.Ytdljklicegcbpaa.Dst
