/- The sequence with a rank, the next sequence, the distance of two sequences: both sides. -/
import Derived.Test.YthicnjgdngfbkaaSeqL
namespace Go.Proofs.Ythicnjgdngfbkaa.Rec
open Go Go.Proofs.Ythicnjgdngfbkaa.Ab Go.Proofs.Ythicnjgdngfbkaa.Il
attribute [local irreducible] wpO wpC wpDr wpQ wpG wpE stepA seqQ blkQ Ret RetG ev
set_option maxRecDepth 10000
set_option maxHeartbeats 8000000
set_option linter.unusedSimpArgs false
set_option linter.unusedVariables false

def ac25 : AC := (.seq (.reg [⟨(some 3), none, (.box 2 true (.t 0))⟩, ⟨(some 6), none, (.mv (.c (.int .i64 0)))⟩, ⟨(some 7), none, (.mv (.c (.bool false)))⟩]) (.seq (.seq (.reg [⟨(some 11), none, (.ld true 2 (.t 3))⟩, ⟨(some 12), none, (.call 40 [(.t 11)])⟩, ⟨(some 13), none, (.un .not (.t 12))⟩, ⟨(some 14), none, (.mv (.t 13))⟩, ⟨(some 15), (some (14, false)), (.ld true 2 (.t 3))⟩, ⟨(some 16), (some (14, false)), (.mv (.t 1))⟩, ⟨(some 17), (some (14, false)), (.call 52 [(.t 15), (.t 16)])⟩, ⟨(some 18), (some (14, false)), (.un .not (.t 17))⟩, ⟨(some 19), none, (.pick (.t 14) (.c (.bool true)) (.t 18))⟩, ⟨(some 20), none, (.mv (.t 19))⟩, ⟨(some 21), (some (20, false)), (.ld true 2 (.t 3))⟩, ⟨(some 22), (some (20, false)), (.mv (.t 2))⟩, ⟨(some 23), (some (20, false)), (.call 52 [(.t 21), (.t 22)])⟩, ⟨(some 24), (some (20, false)), (.un .not (.t 23))⟩, ⟨(some 25), none, (.pick (.t 20) (.c (.bool true)) (.t 24))⟩]) (.cond (.t 25) (.seq (.reg [⟨(some 6), none, (.mv (.c (.int .i64 0)))⟩, ⟨(some 7), none, (.mv (.c (.bool false)))⟩]) .ret) .skip)) (.seq (.reg [⟨(some 8), none, (.mv (.c (.int .i64 0)))⟩]) (.seq (.seq (.reg [⟨(some 9), none, (.mv (.c (.int .i64 0)))⟩]) (.blk 0 (.loop (.seq (.seq (.reg [⟨(some 26), none, (.mv (.t 9))⟩, ⟨(some 27), none, (.mv (.t 1))⟩, ⟨(some 28), none, (.len (.t 27))⟩, ⟨(some 29), none, (.bin .lss (.t 26) (.t 28))⟩]) (.cond (.t 29) .skip (.exit 0))) (.seq (.blk 1 (.seq (.reg [⟨(some 32), none, (.mv (.t 9))⟩, ⟨(some 33), none, (.bin .add (.t 32) (.c (.int .i64 1)))⟩, ⟨(some 10), none, (.mv (.t 33))⟩]) (.blk 2 (.loop (.seq (.seq (.reg [⟨(some 34), none, (.mv (.t 10))⟩, ⟨(some 35), none, (.mv (.t 1))⟩, ⟨(some 36), none, (.len (.t 35))⟩, ⟨(some 37), none, (.bin .lss (.t 34) (.t 36))⟩]) (.cond (.t 37) .skip (.exit 2))) (.seq (.blk 3 (.seq (.dreg [⟨(some 40), none, (.mv (.t 2))⟩, ⟨(some 41), none, (.mv (.t 1))⟩, ⟨(some 42), none, (.mv (.t 9))⟩, ⟨(some 43), none, (.ia 1 (.t 41) (.t 42))⟩, ⟨(some 44), none, (.ld false 1 (.t 43))⟩, ⟨(some 45), none, (.call 54 [(.t 40), (.t 44)])⟩, ⟨(some 46), none, (.mv (.t 2))⟩, ⟨(some 47), none, (.mv (.t 1))⟩, ⟨(some 48), none, (.mv (.t 10))⟩, ⟨(some 49), none, (.ia 1 (.t 47) (.t 48))⟩, ⟨(some 50), none, (.ld false 1 (.t 49))⟩, ⟨(some 51), none, (.call 54 [(.t 46), (.t 50)])⟩, ⟨(some 52), none, (.bin .gtr (.t 45) (.t 51))⟩] [[], [], [], [1, 2], [1, 2, 3], [0, 1, 2, 3, 4], [], [], [], [7, 8], [7, 8, 9], [0, 1, 2, 3, 4, 5, 6, 7, 8, 9, 10], [0, 1, 2, 3, 4, 5, 6, 7, 8, 9, 10, 11]]) (.cond (.t 52) (.reg [⟨(some 53), none, (.mv (.t 8))⟩, ⟨(some 54), none, (.bin .add (.t 53) (.c (.int .i64 1)))⟩, ⟨(some 8), none, (.mv (.t 54))⟩]) .skip))) (.reg [⟨(some 38), none, (.mv (.t 10))⟩, ⟨(some 39), none, (.bin .add (.t 38) (.c (.int .i64 1)))⟩, ⟨(some 10), none, (.mv (.t 39))⟩]))))))) (.reg [⟨(some 30), none, (.mv (.t 9))⟩, ⟨(some 31), none, (.bin .add (.t 30) (.c (.int .i64 1)))⟩, ⟨(some 9), none, (.mv (.t 31))⟩])))))) (.seq (.reg [⟨(some 55), none, (.mv (.t 8))⟩, ⟨(some 6), none, (.mv (.t 55))⟩, ⟨(some 7), none, (.mv (.c (.bool true)))⟩]) .ret)))))
def ro25 : List AOp := [(.mv (.t 6)), (.mv (.t 7))]
theorem fun25 : Fun Try.prog 25 56 ac25 ro25 := ⟨Try.f25, _, Try.func25, by kernel_rfl, rfl, rfl, by kernel_rfl, by kernel_rfl, by decide⟩
def ac26 : AC := (.seq (.reg [⟨(some 3), none, (.box 2 true (.t 0))⟩, ⟨(some 6), none, (.mv (.c (.int .i64 0)))⟩, ⟨(some 7), none, (.mv (.c (.bool false)))⟩]) (.seq (.reg [⟨(some 16), none, (.ld true 2 (.t 3))⟩, ⟨(some 17), none, (.call 45 [(.t 16)])⟩, ⟨(some 15), none, (.mv (.t 17))⟩, ⟨(some 18), none, (.ext (.t 15) 0)⟩, ⟨(some 19), none, (.ext (.t 15) 1)⟩, ⟨(some 8), none, (.mv (.t 18))⟩, ⟨(some 9), none, (.mv (.t 19))⟩]) (.seq (.seq (.reg [⟨(some 20), none, (.mv (.t 9))⟩, ⟨(some 21), none, (.un .not (.t 20))⟩, ⟨(some 22), none, (.mv (.t 21))⟩, ⟨(some 23), (some (22, false)), (.mv (.t 8))⟩, ⟨(some 24), (some (22, false)), (.mv (.t 1))⟩, ⟨(some 25), (some (22, false)), (.call 53 [(.t 23), (.t 24)])⟩, ⟨(some 26), (some (22, false)), (.un .not (.t 25))⟩, ⟨(some 27), none, (.pick (.t 22) (.c (.bool true)) (.t 26))⟩, ⟨(some 28), none, (.mv (.t 27))⟩, ⟨(some 29), (some (28, false)), (.mv (.t 8))⟩, ⟨(some 30), (some (28, false)), (.mv (.t 2))⟩, ⟨(some 31), (some (28, false)), (.call 53 [(.t 29), (.t 30)])⟩, ⟨(some 32), (some (28, false)), (.un .not (.t 31))⟩, ⟨(some 33), none, (.pick (.t 28) (.c (.bool true)) (.t 32))⟩]) (.cond (.t 33) (.seq (.reg [⟨(some 6), none, (.mv (.c (.int .i64 0)))⟩, ⟨(some 7), none, (.mv (.c (.bool false)))⟩]) .ret) .skip)) (.seq (.reg [⟨(some 10), none, (.mv (.c (.int .i64 0)))⟩]) (.seq (.seq (.reg [⟨(some 34), none, (.mv (.t 1))⟩, ⟨(some 35), none, (.len (.t 34))⟩, ⟨(some 36), none, (.mv (.c (.int .i64 0)))⟩]) (.blk 0 (.loop (.seq (.reg [⟨(some 37), none, (.bin .lss (.t 36) (.t 35))⟩]) (.seq (.cond (.t 37) .skip (.exit 0)) (.seq (.blk 1 (.seq (.reg [⟨(some 38), none, (.mv (.t 36))⟩, ⟨(some 39), none, (.ia 1 (.t 34) (.t 36))⟩, ⟨(some 40), none, (.ld false 1 (.t 39))⟩, ⟨(some 11), none, (.mv (.t 38))⟩, ⟨(some 12), none, (.mv (.t 40))⟩]) (.seq (.reg [⟨(some 41), none, (.mv (.t 1))⟩, ⟨(some 42), none, (.mv (.t 11))⟩, ⟨(some 43), none, (.bin .add (.t 42) (.c (.int .i64 1)))⟩, ⟨(some 44), none, (.slc 1 (.t 41) (some (.t 43)) none)⟩, ⟨(some 45), none, (.len (.t 44))⟩, ⟨(some 46), none, (.mv (.c (.int .i64 0)))⟩]) (.blk 2 (.loop (.seq (.reg [⟨(some 47), none, (.bin .lss (.t 46) (.t 45))⟩]) (.seq (.cond (.t 47) .skip (.exit 2)) (.seq (.blk 3 (.seq (.reg [⟨(some 48), none, (.ia 1 (.t 44) (.t 46))⟩, ⟨(some 49), none, (.ld false 1 (.t 48))⟩, ⟨(some 14), none, (.mv (.t 49))⟩]) (.seq (.reg [⟨(some 50), none, (.mv (.t 2))⟩, ⟨(some 51), none, (.mv (.t 12))⟩, ⟨(some 52), none, (.call 55 [(.t 50), (.t 51)])⟩, ⟨(some 53), none, (.mv (.t 2))⟩, ⟨(some 54), none, (.mv (.t 14))⟩, ⟨(some 55), none, (.call 55 [(.t 53), (.t 54)])⟩, ⟨(some 56), none, (.bin .gtr (.t 52) (.t 55))⟩]) (.cond (.t 56) (.reg [⟨(some 57), none, (.mv (.t 10))⟩, ⟨(some 58), none, (.bin .add (.t 57) (.c (.int .i64 1)))⟩, ⟨(some 10), none, (.mv (.t 58))⟩]) .skip)))) (.reg [⟨(some 59), none, (.bin .add (.t 46) (.c (.int .i64 1)))⟩, ⟨(some 46), none, (.mv (.t 59))⟩]))))))))) (.reg [⟨(some 60), none, (.bin .add (.t 36) (.c (.int .i64 1)))⟩, ⟨(some 36), none, (.mv (.t 60))⟩]))))))) (.seq (.reg [⟨(some 61), none, (.mv (.t 10))⟩, ⟨(some 6), none, (.mv (.t 61))⟩, ⟨(some 7), none, (.mv (.c (.bool true)))⟩]) .ret))))))
def ro26 : List AOp := [(.mv (.t 6)), (.mv (.t 7))]
theorem fun26 : Fun Try.prog 26 62 ac26 ro26 := ⟨Try.f26, _, Try.func26, by kernel_rfl, rfl, rfl, by kernel_rfl, by kernel_rfl, by decide⟩
def ac54 : AC := (.seq (.reg [⟨(some 4), none, (.mv (.c (.int .i64 0)))⟩]) (.seq (.seq (.reg [⟨(some 5), none, (.mv (.c (.int .i64 0)))⟩]) (.blk 0 (.loop (.seq (.seq (.reg [⟨(some 6), none, (.mv (.t 5))⟩, ⟨(some 7), none, (.mv (.t 0))⟩, ⟨(some 8), none, (.len (.t 7))⟩, ⟨(some 9), none, (.bin .lss (.t 6) (.t 8))⟩]) (.cond (.t 9) .skip (.exit 0))) (.seq (.blk 1 (.seq (.reg [⟨(some 12), none, (.mv (.t 0))⟩, ⟨(some 13), none, (.mv (.t 5))⟩, ⟨(some 14), none, (.ia 1 (.t 12) (.t 13))⟩, ⟨(some 15), none, (.ld false 1 (.t 14))⟩, ⟨(some 16), none, (.mv (.t 1))⟩, ⟨(some 17), none, (.bin .eql (.t 15) (.t 16))⟩]) (.cond (.t 17) (.seq (.reg [⟨(some 18), none, (.mv (.t 5))⟩, ⟨(some 4), none, (.mv (.t 18))⟩]) .ret) .skip))) (.reg [⟨(some 10), none, (.mv (.t 5))⟩, ⟨(some 11), none, (.bin .add (.t 10) (.c (.int .i64 1)))⟩, ⟨(some 5), none, (.mv (.t 11))⟩])))))) (.seq (.reg [⟨(some 4), none, (.mv (.c (.int .i64 (-1))))⟩]) .ret)))
def ro54 : List AOp := [(.mv (.t 4))]
theorem fun54 : Fun Try.prog 54 19 ac54 ro54 := ⟨Try.f54, _, Try.func54, by kernel_rfl, rfl, rfl, by kernel_rfl, by kernel_rfl, by decide⟩

theorem ret_sbb {r1 r2 r3 : AOp} {sz off len r : Nat} {rows : Ab.Rows} {v2 v3 : AV} {s : St} {e : EX} (he : e = .n ∨ e = .r) (p2 : v2.plain = true) (p3 : v3.plain = true) (g1 : retV s r1 = some (.sl r sz off len)) (g2 : retV s r2 = some v2) (g3 : retV s r3 = some v3) (h1 : hg s.h r = some rows) :
    Ret [r1, r2, r3] [r] (.tup [.sl 0 sz off len, v2, v3]) [rows] e s := by
  have q : ∀ v : AV, v.plain = true → rn (πof [r]) v = v ∧ v.ltr 1 = true := by intro v hv; cases v <;> first | exact ⟨rfl, rfl⟩ | simp [AV.plain] at hv
  refine ret_gen he (retVs_3 g1 g2 g3) ?_ (by simp [notOne]) ?_ rfl (by simp) (fun i rows' h => ?_)
  · simp only [retL, rnL, rn, (q _ p2).1, (q _ p3).1]; rfl
  · simp only [List.length_cons, List.length_nil, AV.ltr, ltrL, (q _ p2).2, (q _ p3).2, Bool.and_self]; rfl
  · cases i with
    | zero => simp at h; subst h; exact h1
    | succ i => simp at h
def inR (r : Rc) (x : Int) : Prop := 0 ≤ x ∧ x ≤ ((cnt r.cs.length (later r) 0 : Nat) : Int) - 1
theorem con34_yes (a b : Bool) (r : Rc) (x : Nat) (h1 : r.cs.length ≤ 1048576) (h2 : r.xs.length ≤ 1048576) (hC : GoodC r) (hx : x < cnt r.cs.length (later r) 0) : Con Try.prog 34 true [.agg (rRow a b r), .int .i64 (x : Int)] (.tup [.sl 0 1 0 r.cs.length, .bool true]) [(atL r x r.cs.length).map iRow] := by
  classical
  refine con_of_wp mixed fun34 (by simp) [1] (plain_map iRow_plain _) ?_
  unfold ac34 ro34
  simp only [zipT]
  have c1 := con40 a b r h1 h2
  rw [decide_eq_true hC] at c1
  have c2 := con61_yes a b r x hC.1 hx
  repeat (first | refine wG_call c1 rfl rfl ?_ | refine wG_call1 c2 rfl rfl ?_ | (first
    | refine wC_a rfl ?_
    | refine q_s rfl ?_
    | refine q_b rfl ?_
    | refine wG_nil ?_
    | refine wG_g rfl ?_
    | refine wG_pure (o_len_vwm rfl) ?_
    | refine wG_pure (o_not_d rfl) ?_
    | refine wG_p rfl (by first | exact rfl | omega) ?_
    | refine wG_pure (o_str2 rfl rfl rfl) ?_
    | refine wG_pure (e_istr rfl rfl (by omega)) ?_
    | refine wG_pure (e_istr0 rfl rfl (by omega)) ?_
    | refine wG_pure (o_not rfl) ?_
    | refine wG_pure (e_ia_vw0 rfl rfl (by omega) rfl) ?_
    | refine wG_pure (e_ia_vwp rfl rfl (by omega) rfl) ?_
    | refine wG_pure (e_ia_vwm rfl rfl (by omega) (by omega) rfl) ?_
    | refine wG_pure (e_ia_vwi rfl rfl (by omega) rfl) ?_
    | refine wG_pure (e_ia_vwn rfl rfl (by omega) (by omega) rfl) ?_
    | refine wG_n rfl rfl ?_
    | refine wG_u rfl rfl ?_
    | refine wG_new (o_mks rfl rfl (by omega) (by decide)) ?_))
  exact ret_sb (.inr rfl) rfl ⟨_, retV_mv rfl, retV_mv rfl, rfl⟩ rfl
theorem con34_no (a b : Bool) (r : Rc) (x : Int) (h1 : r.cs.length ≤ 1048576) (h2 : r.xs.length ≤ 1048576) (hC : ¬ (GoodC r ∧ inR r x)) : Con Try.prog 34 true [.agg (rRow a b r), .int .i64 x] (.tup [.sl 0 1 0 0, .bool false]) [([] : List Int).map iRow] := by
  classical
  refine con_of_wp mixed fun34 (by simp) [1] (plain_map iRow_plain _) ?_
  unfold ac34 ro34
  simp only [zipT]
  have c1 := con40 a b r h1 h2
  by_cases hG : GoodC r
  · rw [decide_eq_true hG] at c1
    have c2 := con61_no a b r x hG.1 (fun h => hC ⟨hG, h⟩)
    repeat (first | refine wG_call c1 rfl rfl ?_ | refine wG_call1 c2 rfl rfl ?_ | (first
    | refine wC_a rfl ?_
    | refine q_s rfl ?_
    | refine q_b rfl ?_
    | refine wG_nil ?_
    | refine wG_g rfl ?_
    | refine wG_pure (o_len_vwm rfl) ?_
    | refine wG_pure (o_not_d rfl) ?_
    | refine wG_p rfl (by first | exact rfl | omega) ?_
    | refine wG_pure (o_str2 rfl rfl rfl) ?_
    | refine wG_pure (e_istr rfl rfl (by omega)) ?_
    | refine wG_pure (e_istr0 rfl rfl (by omega)) ?_
    | refine wG_pure (o_not rfl) ?_
    | refine wG_pure (e_ia_vw0 rfl rfl (by omega) rfl) ?_
    | refine wG_pure (e_ia_vwp rfl rfl (by omega) rfl) ?_
    | refine wG_pure (e_ia_vwm rfl rfl (by omega) (by omega) rfl) ?_
    | refine wG_pure (e_ia_vwi rfl rfl (by omega) rfl) ?_
    | refine wG_pure (e_ia_vwn rfl rfl (by omega) (by omega) rfl) ?_
    | refine wG_n rfl rfl ?_
    | refine wG_u rfl rfl ?_
    | refine wG_new (o_mks rfl rfl (by omega) (by decide)) ?_))
    exact ret_sb (.inr rfl) rfl ⟨_, retV_mv rfl, retV_mv rfl, rfl⟩ rfl
  · rw [decide_eq_false hG] at c1
    repeat (first | refine wG_call c1 rfl rfl ?_ | (first
    | refine wC_a rfl ?_
    | refine q_s rfl ?_
    | refine q_b rfl ?_
    | refine wG_nil ?_
    | refine wG_g rfl ?_
    | refine wG_pure (o_len_vwm rfl) ?_
    | refine wG_pure (o_not_d rfl) ?_
    | refine wG_p rfl (by first | exact rfl | omega) ?_
    | refine wG_pure (o_str2 rfl rfl rfl) ?_
    | refine wG_pure (e_istr rfl rfl (by omega)) ?_
    | refine wG_pure (e_istr0 rfl rfl (by omega)) ?_
    | refine wG_pure (o_not rfl) ?_
    | refine wG_pure (e_ia_vw0 rfl rfl (by omega) rfl) ?_
    | refine wG_pure (e_ia_vwp rfl rfl (by omega) rfl) ?_
    | refine wG_pure (e_ia_vwm rfl rfl (by omega) (by omega) rfl) ?_
    | refine wG_pure (e_ia_vwi rfl rfl (by omega) rfl) ?_
    | refine wG_pure (e_ia_vwn rfl rfl (by omega) (by omega) rfl) ?_
    | refine wG_n rfl rfl ?_
    | refine wG_u rfl rfl ?_
    | refine wG_new (o_mks rfl rfl (by omega) (by decide)) ?_))
    exact ret_sb (.inr rfl) rfl ⟨_, retV_mv rfl, retV_mv rfl, rfl⟩ rfl
theorem con35_yes (a b : Bool) (r : Rc) (x : Nat) (h1 : r.cs.length ≤ 1048576) (h2 : r.xs.length ≤ 1048576) (hC : GoodC r) (hx : x < cnt r.cs.length (later r) 0) : Con Try.prog 35 true [.agg (rRow a b r), .int .i64 (x : Int)] (.tup [.sl 0 1 0 r.cs.length, .bool true]) [(atL r x r.cs.length).map iRow] := by
  refine con_of_wp mixed fun35 (by simp) [1 + (cgO r).length] (plain_map iRow_plain _) ?_
  unfold ac35 ro35
  simp only [zipT]
  have hp : 0 < 2 ^ r.cs.length := Nat.pow_pos (by decide)
  have hcb := cnt_le (W := later r) hC.1.1 0
  have c5 := con62 (x : Int) 0 (((cnt r.cs.length (later r) 0 : Nat) : Int) - 1)
  rw [decide_eq_true (by omega)] at c5
  have c2 := con63 r x hC.1.1 hx
  repeat (first
    | refine wC_a rfl ?_
    | refine q_s rfl ?_
    | refine q_b rfl ?_
    | refine wG_nil ?_
    | refine wG_g rfl ?_
    | refine wG_pure (o_len_vwm rfl) ?_
    | refine wG_pure (o_not_d rfl) ?_
    | refine wG_p rfl (by first | exact rfl | omega) ?_
    | refine wG_pure (o_str2 rfl rfl rfl) ?_
    | refine wG_pure (e_istr rfl rfl (by omega)) ?_
    | refine wG_pure (e_istr0 rfl rfl (by omega)) ?_
    | refine wG_pure (o_not rfl) ?_
    | refine wG_pure (e_ia_vw0 rfl rfl (by omega) rfl) ?_
    | refine wG_pure (e_ia_vwp rfl rfl (by omega) rfl) ?_
    | refine wG_pure (e_ia_vwm rfl rfl (by omega) (by omega) rfl) ?_
    | refine wG_pure (e_ia_vwi rfl rfl (by omega) rfl) ?_
    | refine wG_pure (e_ia_vwn rfl rfl (by omega) (by omega) rfl) ?_
    | refine wG_n rfl rfl ?_
    | refine wG_u rfl rfl ?_
    | refine wG_new (o_mks rfl rfl (by omega) (by decide)) ?_)
  refine wG_callG (v' := .tup [.pt (1 + ((oO r).length + 2)) 0 0, .bool true]) (con45_yes a b r h1 h2 hC) rfl rfl rfl ?_
  change wpG _ _ _ ⟨_, gH a b r, _⟩ _
  repeat (first | refine wG_pure (o_ldf_pt rfl gH_c rfl rfl) ?_ | refine wG_pure (e_ia_sl (n := 0) rfl rfl (by decide) (by omega)) ?_ | refine wG_pure (o_ldf_pt rfl gH_h cnt0_get rfl) ?_ | refine wG_call c5 rfl rfl ?_ | refine wG_call1 c2 (ag_any drg (ag_int rfl ag_nil)) rfl ?_ | (first
    | refine wC_a rfl ?_
    | refine q_s rfl ?_
    | refine q_b rfl ?_
    | refine wG_nil ?_
    | refine wG_g rfl ?_
    | refine wG_pure (o_len_vwm rfl) ?_
    | refine wG_pure (o_not_d rfl) ?_
    | refine wG_p rfl (by first | exact rfl | omega) ?_
    | refine wG_pure (o_str2 rfl rfl rfl) ?_
    | refine wG_pure (e_istr rfl rfl (by omega)) ?_
    | refine wG_pure (e_istr0 rfl rfl (by omega)) ?_
    | refine wG_pure (o_not rfl) ?_
    | refine wG_pure (e_ia_vw0 rfl rfl (by omega) rfl) ?_
    | refine wG_pure (e_ia_vwp rfl rfl (by omega) rfl) ?_
    | refine wG_pure (e_ia_vwm rfl rfl (by omega) (by omega) rfl) ?_
    | refine wG_pure (e_ia_vwi rfl rfl (by omega) rfl) ?_
    | refine wG_pure (e_ia_vwn rfl rfl (by omega) (by omega) rfl) ?_
    | refine wG_n rfl rfl ?_
    | refine wG_u rfl rfl ?_
    | refine wG_new (o_mks rfl rfl (by omega) (by decide)) ?_))
  exact ret_sb (.inr rfl) rfl ⟨_, retV_mv rfl, retV_mv rfl, rfl⟩ hg_here
theorem con35_no (a b : Bool) (r : Rc) (x : Int) (h1 : r.cs.length ≤ 1048576) (h2 : r.xs.length ≤ 1048576) (hC : ¬ (GoodC r ∧ inR r x)) : Con Try.prog 35 true [.agg (rRow a b r), .int .i64 x] (.tup [.nilS, .bool false]) [] := by
  refine con_of_wp mixed fun35 (by simp) [] plain_nil ?_
  unfold ac35 ro35
  simp only [zipT]
  by_cases hG : GoodC r
  · have hp : 0 < 2 ^ r.cs.length := Nat.pow_pos (by decide)
    have hcb := cnt_le (W := later r) hG.1.1 0
    have c5 := con62 x 0 (((cnt r.cs.length (later r) 0 : Nat) : Int) - 1)
    rw [decide_eq_false (show ¬ (0 ≤ x ∧ x ≤ ((cnt r.cs.length (later r) 0 : Nat) : Int) - 1) from fun h => hC ⟨hG, h⟩)] at c5
    repeat (first
    | refine wC_a rfl ?_
    | refine q_s rfl ?_
    | refine q_b rfl ?_
    | refine wG_nil ?_
    | refine wG_g rfl ?_
    | refine wG_pure (o_len_vwm rfl) ?_
    | refine wG_pure (o_not_d rfl) ?_
    | refine wG_p rfl (by first | exact rfl | omega) ?_
    | refine wG_pure (o_str2 rfl rfl rfl) ?_
    | refine wG_pure (e_istr rfl rfl (by omega)) ?_
    | refine wG_pure (e_istr0 rfl rfl (by omega)) ?_
    | refine wG_pure (o_not rfl) ?_
    | refine wG_pure (e_ia_vw0 rfl rfl (by omega) rfl) ?_
    | refine wG_pure (e_ia_vwp rfl rfl (by omega) rfl) ?_
    | refine wG_pure (e_ia_vwm rfl rfl (by omega) (by omega) rfl) ?_
    | refine wG_pure (e_ia_vwi rfl rfl (by omega) rfl) ?_
    | refine wG_pure (e_ia_vwn rfl rfl (by omega) (by omega) rfl) ?_
    | refine wG_n rfl rfl ?_
    | refine wG_u rfl rfl ?_
    | refine wG_new (o_mks rfl rfl (by omega) (by decide)) ?_)
    refine wG_callG (v' := .tup [.pt (1 + ((oO r).length + 2)) 0 0, .bool true]) (con45_yes a b r h1 h2 hG) rfl rfl rfl ?_
    change wpG _ _ _ ⟨_, gH a b r, _⟩ _
    repeat (first | refine wG_pure (o_ldf_pt rfl gH_c rfl rfl) ?_ | refine wG_pure (e_ia_sl (n := 0) rfl rfl (by decide) (by omega)) ?_ | refine wG_pure (o_ldf_pt rfl gH_h cnt0_get rfl) ?_ | refine wG_call c5 rfl rfl ?_ | (first
    | refine wC_a rfl ?_
    | refine q_s rfl ?_
    | refine q_b rfl ?_
    | refine wG_nil ?_
    | refine wG_g rfl ?_
    | refine wG_pure (o_len_vwm rfl) ?_
    | refine wG_pure (o_not_d rfl) ?_
    | refine wG_p rfl (by first | exact rfl | omega) ?_
    | refine wG_pure (o_str2 rfl rfl rfl) ?_
    | refine wG_pure (e_istr rfl rfl (by omega)) ?_
    | refine wG_pure (e_istr0 rfl rfl (by omega)) ?_
    | refine wG_pure (o_not rfl) ?_
    | refine wG_pure (e_ia_vw0 rfl rfl (by omega) rfl) ?_
    | refine wG_pure (e_ia_vwp rfl rfl (by omega) rfl) ?_
    | refine wG_pure (e_ia_vwm rfl rfl (by omega) (by omega) rfl) ?_
    | refine wG_pure (e_ia_vwi rfl rfl (by omega) rfl) ?_
    | refine wG_pure (e_ia_vwn rfl rfl (by omega) (by omega) rfl) ?_
    | refine wG_n rfl rfl ?_
    | refine wG_u rfl rfl ?_
    | refine wG_new (o_mks rfl rfl (by omega) (by decide)) ?_))
    exact ret_pl (.inr rfl) (retVs_2 (retV_mv rfl) (retV_mv rfl)) rfl rfl (by simp)
  · have c1 := con45_no a b r h1 h2 hG
    repeat (first | refine wG_call c1 rfl rfl ?_ | (first
    | refine wC_a rfl ?_
    | refine q_s rfl ?_
    | refine q_b rfl ?_
    | refine wG_nil ?_
    | refine wG_g rfl ?_
    | refine wG_pure (o_len_vwm rfl) ?_
    | refine wG_pure (o_not_d rfl) ?_
    | refine wG_p rfl (by first | exact rfl | omega) ?_
    | refine wG_pure (o_str2 rfl rfl rfl) ?_
    | refine wG_pure (e_istr rfl rfl (by omega)) ?_
    | refine wG_pure (e_istr0 rfl rfl (by omega)) ?_
    | refine wG_pure (o_not rfl) ?_
    | refine wG_pure (e_ia_vw0 rfl rfl (by omega) rfl) ?_
    | refine wG_pure (e_ia_vwp rfl rfl (by omega) rfl) ?_
    | refine wG_pure (e_ia_vwm rfl rfl (by omega) (by omega) rfl) ?_
    | refine wG_pure (e_ia_vwi rfl rfl (by omega) rfl) ?_
    | refine wG_pure (e_ia_vwn rfl rfl (by omega) (by omega) rfl) ?_
    | refine wG_n rfl rfl ?_
    | refine wG_u rfl rfl ?_
    | refine wG_new (o_mks rfl rfl (by omega) (by decide)) ?_))
    exact ret_pl (.inr rfl) (retVs_2 (retV_mv rfl) (retV_mv rfl)) rfl rfl (by simp)

/-! ### The next one -/
def okS (r : Rc) (ls : List Int) : Prop := GoodC r ∧ isSeq r ls
theorem con36_yes (a b nn : Bool) (r : Rc) (ls : List Int) (h1 : r.cs.length ≤ 1048576) (h2 : r.xs.length ≤ 1048576) (h3 : ls.length ≤ 1048576) (hC : okS r ls) (hx : rk r ls r.cs.length + 1 < cnt r.cs.length (later r) 0) : Con Try.prog 36 true [.agg (rRow a b r), .vw nn (ls.map iRow)] (.tup [.sl 0 1 0 r.cs.length, .bool true, .bool true]) [(atL r (rk r ls r.cs.length + 1) r.cs.length).map iRow] := by
  refine con_of_wp mixed fun36 (by simp) [1] (plain_map iRow_plain _) ?_
  unfold ac36 ro36
  simp only [zipT]
  have hcb := cnt_le (W := later r) hC.1.1.1 0
  have c1 := con27_yes a b nn r ls h1 h2 h3 hC.1 hC.2
  have c2 := con61_yes a b r _ hC.1.1 hx
  repeat (first | refine wG_call c1 rfl rfl ?_ | refine wG_call1 c2 rfl rfl ?_ | (first
    | refine wC_a rfl ?_
    | refine q_s rfl ?_
    | refine q_b rfl ?_
    | refine wG_nil ?_
    | refine wG_g rfl ?_
    | refine wG_pure (o_len_vwm rfl) ?_
    | refine wG_pure (o_not_d rfl) ?_
    | refine wG_p rfl (by first | exact rfl | omega) ?_
    | refine wG_pure (o_str2 rfl rfl rfl) ?_
    | refine wG_pure (e_istr rfl rfl (by omega)) ?_
    | refine wG_pure (e_istr0 rfl rfl (by omega)) ?_
    | refine wG_pure (o_not rfl) ?_
    | refine wG_pure (e_ia_vw0 rfl rfl (by omega) rfl) ?_
    | refine wG_pure (e_ia_vwp rfl rfl (by omega) rfl) ?_
    | refine wG_pure (e_ia_vwm rfl rfl (by omega) (by omega) rfl) ?_
    | refine wG_pure (e_ia_vwi rfl rfl (by omega) rfl) ?_
    | refine wG_pure (e_ia_vwn rfl rfl (by omega) (by omega) rfl) ?_
    | refine wG_n rfl rfl ?_
    | refine wG_u rfl rfl ?_
    | refine wG_new (o_mks rfl rfl (by omega) (by decide)) ?_))
  exact ret_sbb (.inr rfl) rfl rfl (retV_mv rfl) (retV_mv rfl) (retV_mv rfl) rfl
theorem con36_end (a b nn : Bool) (r : Rc) (ls : List Int) (h1 : r.cs.length ≤ 1048576) (h2 : r.xs.length ≤ 1048576) (h3 : ls.length ≤ 1048576) (hC : okS r ls) (hx : ¬ rk r ls r.cs.length + 1 < cnt r.cs.length (later r) 0) : Con Try.prog 36 true [.agg (rRow a b r), .vw nn (ls.map iRow)] (.tup [.sl 0 1 0 0, .bool false, .bool true]) [([] : List Int).map iRow] := by
  refine con_of_wp mixed fun36 (by simp) [1] (plain_map iRow_plain _) ?_
  unfold ac36 ro36
  simp only [zipT]
  have hcb := cnt_le (W := later r) hC.1.1.1 0
  have hlt := rk_cnt hC.2
  have c1 := con27_yes a b nn r ls h1 h2 h3 hC.1 hC.2
  have c2 := con61_no a b r (((rk r ls r.cs.length : Nat) : Int) + 1) hC.1.1 (by omega)
  repeat (first | refine wG_call c1 rfl rfl ?_ | refine wG_call1 c2 rfl rfl ?_ | (first
    | refine wC_a rfl ?_
    | refine q_s rfl ?_
    | refine q_b rfl ?_
    | refine wG_nil ?_
    | refine wG_g rfl ?_
    | refine wG_pure (o_len_vwm rfl) ?_
    | refine wG_pure (o_not_d rfl) ?_
    | refine wG_p rfl (by first | exact rfl | omega) ?_
    | refine wG_pure (o_str2 rfl rfl rfl) ?_
    | refine wG_pure (e_istr rfl rfl (by omega)) ?_
    | refine wG_pure (e_istr0 rfl rfl (by omega)) ?_
    | refine wG_pure (o_not rfl) ?_
    | refine wG_pure (e_ia_vw0 rfl rfl (by omega) rfl) ?_
    | refine wG_pure (e_ia_vwp rfl rfl (by omega) rfl) ?_
    | refine wG_pure (e_ia_vwm rfl rfl (by omega) (by omega) rfl) ?_
    | refine wG_pure (e_ia_vwi rfl rfl (by omega) rfl) ?_
    | refine wG_pure (e_ia_vwn rfl rfl (by omega) (by omega) rfl) ?_
    | refine wG_n rfl rfl ?_
    | refine wG_u rfl rfl ?_
    | refine wG_new (o_mks rfl rfl (by omega) (by decide)) ?_))
  exact ret_sbb (.inr rfl) rfl rfl (retV_mv rfl) (retV_mv rfl) (retV_mv rfl) rfl
theorem con36_no (a b nn : Bool) (r : Rc) (ls : List Int) (h1 : r.cs.length ≤ 1048576) (h2 : r.xs.length ≤ 1048576) (h3 : ls.length ≤ 1048576) (hC : ¬ okS r ls) : Con Try.prog 36 true [.agg (rRow a b r), .vw nn (ls.map iRow)] (.tup [.sl 0 1 0 0, .bool false, .bool false]) [([] : List Int).map iRow] := by
  refine con_of_wp mixed fun36 (by simp) [1] (plain_map iRow_plain _) ?_
  unfold ac36 ro36
  simp only [zipT]
  have c1 := con27_no a b nn r ls h1 h2 h3 hC
  repeat (first | refine wG_call c1 rfl rfl ?_ | (first
    | refine wC_a rfl ?_
    | refine q_s rfl ?_
    | refine q_b rfl ?_
    | refine wG_nil ?_
    | refine wG_g rfl ?_
    | refine wG_pure (o_len_vwm rfl) ?_
    | refine wG_pure (o_not_d rfl) ?_
    | refine wG_p rfl (by first | exact rfl | omega) ?_
    | refine wG_pure (o_str2 rfl rfl rfl) ?_
    | refine wG_pure (e_istr rfl rfl (by omega)) ?_
    | refine wG_pure (e_istr0 rfl rfl (by omega)) ?_
    | refine wG_pure (o_not rfl) ?_
    | refine wG_pure (e_ia_vw0 rfl rfl (by omega) rfl) ?_
    | refine wG_pure (e_ia_vwp rfl rfl (by omega) rfl) ?_
    | refine wG_pure (e_ia_vwm rfl rfl (by omega) (by omega) rfl) ?_
    | refine wG_pure (e_ia_vwi rfl rfl (by omega) rfl) ?_
    | refine wG_pure (e_ia_vwn rfl rfl (by omega) (by omega) rfl) ?_
    | refine wG_n rfl rfl ?_
    | refine wG_u rfl rfl ?_
    | refine wG_new (o_mks rfl rfl (by omega) (by decide)) ?_))
  exact ret_sbb (.inr rfl) rfl rfl (retV_mv rfl) (retV_mv rfl) (retV_mv rfl) rfl
theorem con37_yes (a b nn : Bool) (r : Rc) (ls : List Int) (h1 : r.cs.length ≤ 1048576) (h2 : r.xs.length ≤ 1048576) (h3 : ls.length ≤ 1048576) (hC : okS r ls) (hx : rk r ls r.cs.length + 1 < cnt r.cs.length (later r) 0) : Con Try.prog 37 true [.agg (rRow a b r), .vw nn (ls.map iRow)] (.tup [.sl 0 1 0 r.cs.length, .bool true, .bool true]) [(atL r (rk r ls r.cs.length + 1) r.cs.length).map iRow] := by
  classical
  refine con_of_wp mixed fun37 (by simp) [1 + (cgO r).length] (plain_map iRow_plain _) ?_
  unfold ac37 ro37
  simp only [zipT]
  have h10 := hC.1.1.1
  have hp : 0 < 2 ^ r.cs.length := Nat.pow_pos (by decide)
  have hcb := cnt_le (W := later r) h10 0
  have c2 := con53 nn r ls h10 h3
  rw [decide_eq_true hC.2] at c2
  have c3 := con57 nn r ls h10 h3 hC.2
  have c4 := con63 r _ h10 hx
  have hd : decide (((rk r ls r.cs.length : Nat) : Int) + 1 = ((cnt r.cs.length (later r) 0 : Nat) : Int)) = false := decide_eq_false (by omega)
  repeat (first
    | refine wC_a rfl ?_
    | refine q_s rfl ?_
    | refine q_b rfl ?_
    | refine wG_nil ?_
    | refine wG_g rfl ?_
    | refine wG_pure (o_len_vwm rfl) ?_
    | refine wG_pure (o_not_d rfl) ?_
    | refine wG_p rfl (by first | exact rfl | omega) ?_
    | refine wG_pure (o_str2 rfl rfl rfl) ?_
    | refine wG_pure (e_istr rfl rfl (by omega)) ?_
    | refine wG_pure (e_istr0 rfl rfl (by omega)) ?_
    | refine wG_pure (o_not rfl) ?_
    | refine wG_pure (e_ia_vw0 rfl rfl (by omega) rfl) ?_
    | refine wG_pure (e_ia_vwp rfl rfl (by omega) rfl) ?_
    | refine wG_pure (e_ia_vwm rfl rfl (by omega) (by omega) rfl) ?_
    | refine wG_pure (e_ia_vwi rfl rfl (by omega) rfl) ?_
    | refine wG_pure (e_ia_vwn rfl rfl (by omega) (by omega) rfl) ?_
    | refine wG_n rfl rfl ?_
    | refine wG_u rfl rfl ?_
    | refine wG_new (o_mks rfl rfl (by omega) (by decide)) ?_)
  refine wG_callG (v' := .tup [.pt (1 + ((oO r).length + 2)) 0 0, .bool true]) (con45_yes a b r h1 h2 hC.1) rfl rfl rfl ?_
  change wpG _ _ _ ⟨_, gH a b r, _⟩ _
  repeat (first | refine wG_pure (o_ldf_pt rfl gH_c rfl rfl) ?_ | refine wG_pure (e_ia_sl (n := 0) rfl rfl (by decide) (by omega)) ?_ | refine wG_pure (o_ldf_pt rfl gH_h cnt0_get rfl) ?_ | refine wG_call c2 (ag_any drg (ag_vw rfl ag_nil)) rfl ?_ | refine wG_call c3 (ag_any drg (ag_vw rfl ag_nil)) rfl ?_ | (first
    | refine wC_a rfl ?_
    | refine q_s rfl ?_
    | refine q_b rfl ?_
    | refine wG_nil ?_
    | refine wG_g rfl ?_
    | refine wG_pure (o_len_vwm rfl) ?_
    | refine wG_pure (o_not_d rfl) ?_
    | refine wG_p rfl (by first | exact rfl | omega) ?_
    | refine wG_pure (o_str2 rfl rfl rfl) ?_
    | refine wG_pure (e_istr rfl rfl (by omega)) ?_
    | refine wG_pure (e_istr0 rfl rfl (by omega)) ?_
    | refine wG_pure (o_not rfl) ?_
    | refine wG_pure (e_ia_vw0 rfl rfl (by omega) rfl) ?_
    | refine wG_pure (e_ia_vwp rfl rfl (by omega) rfl) ?_
    | refine wG_pure (e_ia_vwm rfl rfl (by omega) (by omega) rfl) ?_
    | refine wG_pure (e_ia_vwi rfl rfl (by omega) rfl) ?_
    | refine wG_pure (e_ia_vwn rfl rfl (by omega) (by omega) rfl) ?_
    | refine wG_n rfl rfl ?_
    | refine wG_u rfl rfl ?_
    | refine wG_new (o_mks rfl rfl (by omega) (by decide)) ?_))
  simp only [hd]
  repeat (first | refine wG_call1 c4 (ag_any drg (ag_int rfl ag_nil)) rfl ?_ | (first
    | refine wC_a rfl ?_
    | refine q_s rfl ?_
    | refine q_b rfl ?_
    | refine wG_nil ?_
    | refine wG_g rfl ?_
    | refine wG_pure (o_len_vwm rfl) ?_
    | refine wG_pure (o_not_d rfl) ?_
    | refine wG_p rfl (by first | exact rfl | omega) ?_
    | refine wG_pure (o_str2 rfl rfl rfl) ?_
    | refine wG_pure (e_istr rfl rfl (by omega)) ?_
    | refine wG_pure (e_istr0 rfl rfl (by omega)) ?_
    | refine wG_pure (o_not rfl) ?_
    | refine wG_pure (e_ia_vw0 rfl rfl (by omega) rfl) ?_
    | refine wG_pure (e_ia_vwp rfl rfl (by omega) rfl) ?_
    | refine wG_pure (e_ia_vwm rfl rfl (by omega) (by omega) rfl) ?_
    | refine wG_pure (e_ia_vwi rfl rfl (by omega) rfl) ?_
    | refine wG_pure (e_ia_vwn rfl rfl (by omega) (by omega) rfl) ?_
    | refine wG_n rfl rfl ?_
    | refine wG_u rfl rfl ?_
    | refine wG_new (o_mks rfl rfl (by omega) (by decide)) ?_))
  exact ret_sbb (.inr rfl) rfl rfl (retV_mv rfl) (retV_mv rfl) (retV_mv rfl) hg_here
theorem con37_end (a b nn : Bool) (r : Rc) (ls : List Int) (h1 : r.cs.length ≤ 1048576) (h2 : r.xs.length ≤ 1048576) (h3 : ls.length ≤ 1048576) (hC : okS r ls) (hx : ¬ rk r ls r.cs.length + 1 < cnt r.cs.length (later r) 0) : Con Try.prog 37 true [.agg (rRow a b r), .vw nn (ls.map iRow)] (.tup [.nilS, .bool false, .bool true]) [] := by
  classical
  refine con_of_wp mixed fun37 (by simp) [] plain_nil ?_
  unfold ac37 ro37
  simp only [zipT]
  have h10 := hC.1.1.1
  have hp : 0 < 2 ^ r.cs.length := Nat.pow_pos (by decide)
  have hcb := cnt_le (W := later r) h10 0
  have hlt := rk_cnt hC.2
  have c2 := con53 nn r ls h10 h3
  rw [decide_eq_true hC.2] at c2
  have c3 := con57 nn r ls h10 h3 hC.2
  have hd : decide (((rk r ls r.cs.length : Nat) : Int) + 1 = ((cnt r.cs.length (later r) 0 : Nat) : Int)) = true := decide_eq_true (by omega)
  repeat (first
    | refine wC_a rfl ?_
    | refine q_s rfl ?_
    | refine q_b rfl ?_
    | refine wG_nil ?_
    | refine wG_g rfl ?_
    | refine wG_pure (o_len_vwm rfl) ?_
    | refine wG_pure (o_not_d rfl) ?_
    | refine wG_p rfl (by first | exact rfl | omega) ?_
    | refine wG_pure (o_str2 rfl rfl rfl) ?_
    | refine wG_pure (e_istr rfl rfl (by omega)) ?_
    | refine wG_pure (e_istr0 rfl rfl (by omega)) ?_
    | refine wG_pure (o_not rfl) ?_
    | refine wG_pure (e_ia_vw0 rfl rfl (by omega) rfl) ?_
    | refine wG_pure (e_ia_vwp rfl rfl (by omega) rfl) ?_
    | refine wG_pure (e_ia_vwm rfl rfl (by omega) (by omega) rfl) ?_
    | refine wG_pure (e_ia_vwi rfl rfl (by omega) rfl) ?_
    | refine wG_pure (e_ia_vwn rfl rfl (by omega) (by omega) rfl) ?_
    | refine wG_n rfl rfl ?_
    | refine wG_u rfl rfl ?_
    | refine wG_new (o_mks rfl rfl (by omega) (by decide)) ?_)
  refine wG_callG (v' := .tup [.pt (1 + ((oO r).length + 2)) 0 0, .bool true]) (con45_yes a b r h1 h2 hC.1) rfl rfl rfl ?_
  change wpG _ _ _ ⟨_, gH a b r, _⟩ _
  repeat (first | refine wG_pure (o_ldf_pt rfl gH_c rfl rfl) ?_ | refine wG_pure (e_ia_sl (n := 0) rfl rfl (by decide) (by omega)) ?_ | refine wG_pure (o_ldf_pt rfl gH_h cnt0_get rfl) ?_ | refine wG_call c2 (ag_any drg (ag_vw rfl ag_nil)) rfl ?_ | refine wG_call c3 (ag_any drg (ag_vw rfl ag_nil)) rfl ?_ | (first
    | refine wC_a rfl ?_
    | refine q_s rfl ?_
    | refine q_b rfl ?_
    | refine wG_nil ?_
    | refine wG_g rfl ?_
    | refine wG_pure (o_len_vwm rfl) ?_
    | refine wG_pure (o_not_d rfl) ?_
    | refine wG_p rfl (by first | exact rfl | omega) ?_
    | refine wG_pure (o_str2 rfl rfl rfl) ?_
    | refine wG_pure (e_istr rfl rfl (by omega)) ?_
    | refine wG_pure (e_istr0 rfl rfl (by omega)) ?_
    | refine wG_pure (o_not rfl) ?_
    | refine wG_pure (e_ia_vw0 rfl rfl (by omega) rfl) ?_
    | refine wG_pure (e_ia_vwp rfl rfl (by omega) rfl) ?_
    | refine wG_pure (e_ia_vwm rfl rfl (by omega) (by omega) rfl) ?_
    | refine wG_pure (e_ia_vwi rfl rfl (by omega) rfl) ?_
    | refine wG_pure (e_ia_vwn rfl rfl (by omega) (by omega) rfl) ?_
    | refine wG_n rfl rfl ?_
    | refine wG_u rfl rfl ?_
    | refine wG_new (o_mks rfl rfl (by omega) (by decide)) ?_))
  simp only [hd]
  repeat (first
    | refine wC_a rfl ?_
    | refine q_s rfl ?_
    | refine q_b rfl ?_
    | refine wG_nil ?_
    | refine wG_g rfl ?_
    | refine wG_pure (o_len_vwm rfl) ?_
    | refine wG_pure (o_not_d rfl) ?_
    | refine wG_p rfl (by first | exact rfl | omega) ?_
    | refine wG_pure (o_str2 rfl rfl rfl) ?_
    | refine wG_pure (e_istr rfl rfl (by omega)) ?_
    | refine wG_pure (e_istr0 rfl rfl (by omega)) ?_
    | refine wG_pure (o_not rfl) ?_
    | refine wG_pure (e_ia_vw0 rfl rfl (by omega) rfl) ?_
    | refine wG_pure (e_ia_vwp rfl rfl (by omega) rfl) ?_
    | refine wG_pure (e_ia_vwm rfl rfl (by omega) (by omega) rfl) ?_
    | refine wG_pure (e_ia_vwi rfl rfl (by omega) rfl) ?_
    | refine wG_pure (e_ia_vwn rfl rfl (by omega) (by omega) rfl) ?_
    | refine wG_n rfl rfl ?_
    | refine wG_u rfl rfl ?_
    | refine wG_new (o_mks rfl rfl (by omega) (by decide)) ?_)
  exact ret_pl (.inr rfl) (retVs_3 (retV_mv rfl) (retV_mv rfl) (retV_mv rfl)) rfl rfl (by simp)
theorem con37_no (a b nn : Bool) (r : Rc) (ls : List Int) (h1 : r.cs.length ≤ 1048576) (h2 : r.xs.length ≤ 1048576) (h3 : ls.length ≤ 1048576) (hC : ¬ okS r ls) : Con Try.prog 37 true [.agg (rRow a b r), .vw nn (ls.map iRow)] (.tup [.nilS, .bool false, .bool false]) [] := by
  classical
  refine con_of_wp mixed fun37 (by simp) [] plain_nil ?_
  unfold ac37 ro37
  simp only [zipT]
  by_cases hG : GoodC r
  · have c2 := con53 nn r ls hG.1.1 h3
    rw [decide_eq_false (fun h => hC ⟨hG, h⟩)] at c2
    repeat (first
    | refine wC_a rfl ?_
    | refine q_s rfl ?_
    | refine q_b rfl ?_
    | refine wG_nil ?_
    | refine wG_g rfl ?_
    | refine wG_pure (o_len_vwm rfl) ?_
    | refine wG_pure (o_not_d rfl) ?_
    | refine wG_p rfl (by first | exact rfl | omega) ?_
    | refine wG_pure (o_str2 rfl rfl rfl) ?_
    | refine wG_pure (e_istr rfl rfl (by omega)) ?_
    | refine wG_pure (e_istr0 rfl rfl (by omega)) ?_
    | refine wG_pure (o_not rfl) ?_
    | refine wG_pure (e_ia_vw0 rfl rfl (by omega) rfl) ?_
    | refine wG_pure (e_ia_vwp rfl rfl (by omega) rfl) ?_
    | refine wG_pure (e_ia_vwm rfl rfl (by omega) (by omega) rfl) ?_
    | refine wG_pure (e_ia_vwi rfl rfl (by omega) rfl) ?_
    | refine wG_pure (e_ia_vwn rfl rfl (by omega) (by omega) rfl) ?_
    | refine wG_n rfl rfl ?_
    | refine wG_u rfl rfl ?_
    | refine wG_new (o_mks rfl rfl (by omega) (by decide)) ?_)
    refine wG_callG (v' := .tup [.pt (1 + ((oO r).length + 2)) 0 0, .bool true]) (con45_yes a b r h1 h2 hG) rfl rfl rfl ?_
    change wpG _ _ _ ⟨_, gH a b r, _⟩ _
    repeat (first | refine wG_call c2 (ag_any drg (ag_vw rfl ag_nil)) rfl ?_ | (first
    | refine wC_a rfl ?_
    | refine q_s rfl ?_
    | refine q_b rfl ?_
    | refine wG_nil ?_
    | refine wG_g rfl ?_
    | refine wG_pure (o_len_vwm rfl) ?_
    | refine wG_pure (o_not_d rfl) ?_
    | refine wG_p rfl (by first | exact rfl | omega) ?_
    | refine wG_pure (o_str2 rfl rfl rfl) ?_
    | refine wG_pure (e_istr rfl rfl (by omega)) ?_
    | refine wG_pure (e_istr0 rfl rfl (by omega)) ?_
    | refine wG_pure (o_not rfl) ?_
    | refine wG_pure (e_ia_vw0 rfl rfl (by omega) rfl) ?_
    | refine wG_pure (e_ia_vwp rfl rfl (by omega) rfl) ?_
    | refine wG_pure (e_ia_vwm rfl rfl (by omega) (by omega) rfl) ?_
    | refine wG_pure (e_ia_vwi rfl rfl (by omega) rfl) ?_
    | refine wG_pure (e_ia_vwn rfl rfl (by omega) (by omega) rfl) ?_
    | refine wG_n rfl rfl ?_
    | refine wG_u rfl rfl ?_
    | refine wG_new (o_mks rfl rfl (by omega) (by decide)) ?_))
    exact ret_pl (.inr rfl) (retVs_3 (retV_mv rfl) (retV_mv rfl) (retV_mv rfl)) rfl rfl (by simp)
  · have c1 := con45_no a b r h1 h2 hG
    repeat (first | refine wG_call c1 rfl rfl ?_ | (first
    | refine wC_a rfl ?_
    | refine q_s rfl ?_
    | refine q_b rfl ?_
    | refine wG_nil ?_
    | refine wG_g rfl ?_
    | refine wG_pure (o_len_vwm rfl) ?_
    | refine wG_pure (o_not_d rfl) ?_
    | refine wG_p rfl (by first | exact rfl | omega) ?_
    | refine wG_pure (o_str2 rfl rfl rfl) ?_
    | refine wG_pure (e_istr rfl rfl (by omega)) ?_
    | refine wG_pure (e_istr0 rfl rfl (by omega)) ?_
    | refine wG_pure (o_not rfl) ?_
    | refine wG_pure (e_ia_vw0 rfl rfl (by omega) rfl) ?_
    | refine wG_pure (e_ia_vwp rfl rfl (by omega) rfl) ?_
    | refine wG_pure (e_ia_vwm rfl rfl (by omega) (by omega) rfl) ?_
    | refine wG_pure (e_ia_vwi rfl rfl (by omega) rfl) ?_
    | refine wG_pure (e_ia_vwn rfl rfl (by omega) (by omega) rfl) ?_
    | refine wG_n rfl rfl ?_
    | refine wG_u rfl rfl ?_
    | refine wG_new (o_mks rfl rfl (by omega) (by decide)) ?_))
    exact ret_pl (.inr rfl) (retVs_3 (retV_mv rfl) (retV_mv rfl) (retV_mv rfl)) rfl rfl (by simp)

/-! ### The distance -/
noncomputable def dsR (xs ys : List Int) (i : Nat) : Nat → Nat
  | 0 => 0
  | d + 1 => dsR xs ys i d + (if ixI ys (xs.getD i default) > ixI ys (xs.getD (i + 1 + d) default) then 1 else 0)
noncomputable def dsA (xs ys : List Int) : Nat → Nat
  | 0 => 0
  | i + 1 => dsA xs ys i + dsR xs ys i (xs.length - (i + 1))
theorem dsR_le (xs ys : List Int) (i : Nat) : ∀ d, dsR xs ys i d ≤ d
  | 0 => Nat.le_refl _
  | d + 1 => by
    have := dsR_le xs ys i d
    rw [dsR]; split <;> omega
theorem dsA_le (xs ys : List Int) : ∀ i, dsA xs ys i ≤ i * xs.length
  | 0 => Nat.zero_le _
  | i + 1 => by
    have h1 := dsA_le xs ys i
    have h2 := dsR_le xs ys i (xs.length - (i + 1))
    rw [dsA, Nat.succ_mul]; omega
theorem con54 (nn : Bool) (ns : List Int) (m : Int) (h1 : ns.length ≤ 1048576) : Con Try.prog 54 true [.vw nn (ns.map iRow), .int .i64 m] (.int .i64 (ixI ns m)) [] := by
  refine con_of_wp mixed fun54 (by simp) [] plain_nil ?_
  unfold ac54 ro54
  simp only [zipT]
  repeat (first
    | refine wC_a rfl ?_
    | refine q_s rfl ?_
    | refine q_b rfl ?_
    | refine wG_nil ?_
    | refine wG_g rfl ?_
    | refine wG_pure (o_len_vwm rfl) ?_
    | refine wG_pure (o_not_d rfl) ?_
    | refine wG_p rfl (by first | exact rfl | omega) ?_
    | refine wG_pure (o_str2 rfl rfl rfl) ?_
    | refine wG_pure (e_istr rfl rfl (by omega)) ?_
    | refine wG_pure (e_istr0 rfl rfl (by omega)) ?_
    | refine wG_pure (o_not rfl) ?_
    | refine wG_pure (e_ia_vw0 rfl rfl (by omega) rfl) ?_
    | refine wG_pure (e_ia_vwp rfl rfl (by omega) rfl) ?_
    | refine wG_pure (e_ia_vwm rfl rfl (by omega) (by omega) rfl) ?_
    | refine wG_pure (e_ia_vwi rfl rfl (by omega) rfl) ?_
    | refine wG_pure (e_ia_vwn rfl rfl (by omega) (by omega) rfl) ?_
    | refine wG_n rfl rfl ?_
    | refine wG_u rfl rfl ?_
    | refine wG_new (o_mks rfl rfl (by omega) (by decide)) ?_)
  refine wC_loop Nat (fun i => ⟨[(0, .vw nn (ns.map iRow)), (1, .int .i64 m), (5, .int .i64 (i : Int))], [], 0⟩) (fun i => i ≤ ns.length ∧ ∀ j, j < i → ¬ ns.getD j default = m) (fun i => ns.length - i) 0 ⟨Nat.zero_le _, fun j hj => absurd hj (Nat.not_lt_zero _)⟩ ?_ (fun _ _ => Nat.zero_le _) ?_
  · simp [LeP, leT, leH, lk, AV.ltr, ltrL, Ab.hg, upd, -List.getD_eq_getElem?_getD, -Int.default_eq_zero]
  rintro i ⟨hi, hok⟩
  by_cases hi2 : i < ns.length
  · repeat' (first | (first
    | refine wC_a rfl ?_
    | refine q_s rfl ?_
    | refine q_b rfl ?_
    | refine wG_nil ?_
    | refine wG_g rfl ?_
    | refine wG_pure (o_len_vwm rfl) ?_
    | refine wG_pure (o_not_d rfl) ?_
    | refine wG_p rfl (by first | exact rfl | omega) ?_
    | refine wG_pure (o_str2 rfl rfl rfl) ?_
    | refine wG_pure (e_istr rfl rfl (by omega)) ?_
    | refine wG_pure (e_istr0 rfl rfl (by omega)) ?_
    | refine wG_pure (o_not rfl) ?_
    | refine wG_pure (e_ia_vw0 rfl rfl (by omega) rfl) ?_
    | refine wG_pure (e_ia_vwp rfl rfl (by omega) rfl) ?_
    | refine wG_pure (e_ia_vwm rfl rfl (by omega) (by omega) rfl) ?_
    | refine wG_pure (e_ia_vwi rfl rfl (by omega) rfl) ?_
    | refine wG_pure (e_ia_vwn rfl rfl (by omega) (by omega) rfl) ?_
    | refine wG_n rfl rfl ?_
    | refine wG_u rfl rfl ?_
    | refine wG_new (o_mks rfl rfl (by omega) (by decide)) ?_) | (refine wG_gd rfl (fun hgt => ?_) (fun hgf => ?_) <;> (first | simp only [eq_true hgt, decide_true] | simp only [eq_false hgf, decide_false])) | refine wC_cond_d rfl (fun hg => ?_) (fun hg => ?_))
    all_goals (try (exfalso; omega))
    · refine ret_intE (.inr rfl) ⟨_, retV_mv rfl, ?_⟩
      exact (ixN_at hi2 (by first | assumption | exact Eq.symm (by assumption)) hok).symm
    · refine ⟨i + 1, ⟨by omega, fun j hj => ?_⟩, by omega, by simp [LeP, leT, leH, lk, AV.ltr, ltrL, Ab.hg, upd, -List.getD_eq_getElem?_getD, -Int.default_eq_zero]⟩
      rcases Nat.lt_or_ge j i with hji | hji
      · exact hok j hji
      · obtain rfl : j = i := by omega
        first | assumption | exact Ne.symm (by assumption)
  · have hi3 : i = ns.length := by omega
    subst hi3
    repeat' (first | (first
    | refine wC_a rfl ?_
    | refine q_s rfl ?_
    | refine q_b rfl ?_
    | refine wG_nil ?_
    | refine wG_g rfl ?_
    | refine wG_pure (o_len_vwm rfl) ?_
    | refine wG_pure (o_not_d rfl) ?_
    | refine wG_p rfl (by first | exact rfl | omega) ?_
    | refine wG_pure (o_str2 rfl rfl rfl) ?_
    | refine wG_pure (e_istr rfl rfl (by omega)) ?_
    | refine wG_pure (e_istr0 rfl rfl (by omega)) ?_
    | refine wG_pure (o_not rfl) ?_
    | refine wG_pure (e_ia_vw0 rfl rfl (by omega) rfl) ?_
    | refine wG_pure (e_ia_vwp rfl rfl (by omega) rfl) ?_
    | refine wG_pure (e_ia_vwm rfl rfl (by omega) (by omega) rfl) ?_
    | refine wG_pure (e_ia_vwi rfl rfl (by omega) rfl) ?_
    | refine wG_pure (e_ia_vwn rfl rfl (by omega) (by omega) rfl) ?_
    | refine wG_n rfl rfl ?_
    | refine wG_u rfl rfl ?_
    | refine wG_new (o_mks rfl rfl (by omega) (by decide)) ?_) | (refine wG_gd rfl (fun hgt => ?_) (fun hgf => ?_) <;> (first | simp only [eq_true hgt, decide_true] | simp only [eq_false hgf, decide_false])) | refine wC_cond_d rfl (fun hg => ?_) (fun hg => ?_))
    all_goals (try (exfalso; omega))
    exact ret_intE (.inr rfl) ⟨_, retV_mv rfl, (ixN_no hok).symm⟩
def okD (r : Rc) (xs ys : List Int) : Prop := GoodC r ∧ isSeq r xs ∧ isSeq r ys
theorem con25_yes (a b nn mm : Bool) (r : Rc) (xs ys : List Int) (h1 : r.cs.length ≤ 1048576) (h2 : r.xs.length ≤ 1048576) (h3 : xs.length ≤ 1048576) (h4 : ys.length ≤ 1048576) (hC : okD r xs ys) : Con Try.prog 25 true [.agg (rRow a b r), .vw nn (xs.map iRow), .vw mm (ys.map iRow)] (.tup [.int .i64 ((dsA xs ys xs.length : Nat) : Int), .bool true]) [] := by
  classical
  refine con_of_wp mixed fun25 (by simp) [] plain_nil ?_
  unfold ac25 ro25
  simp only [zipT]
  have c1 := con40 a b r h1 h2
  rw [decide_eq_true hC.1] at c1
  have c2 := con52 a b nn r xs hC.1.1 h3
  rw [decide_eq_true hC.2.1] at c2
  have c3 := con52 a b mm r ys hC.1.1 h4
  rw [decide_eq_true hC.2.2] at c3
  have c4 := fun m => con54 mm ys m h4
  have h10 := hC.1.1.1
  have hl := hC.2.1.2
  repeat (first | refine wG_call c1 rfl rfl ?_ | refine wG_call c2 rfl rfl ?_ | refine wG_call c3 rfl rfl ?_ | (first
    | refine wC_a rfl ?_
    | refine q_s rfl ?_
    | refine q_b rfl ?_
    | refine wG_nil ?_
    | refine wG_g rfl ?_
    | refine wG_pure (o_len_vwm rfl) ?_
    | refine wG_pure (o_not_d rfl) ?_
    | refine wG_p rfl (by first | exact rfl | omega) ?_
    | refine wG_pure (o_str2 rfl rfl rfl) ?_
    | refine wG_pure (e_istr rfl rfl (by omega)) ?_
    | refine wG_pure (e_istr0 rfl rfl (by omega)) ?_
    | refine wG_pure (o_not rfl) ?_
    | refine wG_pure (e_ia_vw0 rfl rfl (by omega) rfl) ?_
    | refine wG_pure (e_ia_vwp rfl rfl (by omega) rfl) ?_
    | refine wG_pure (e_ia_vwm rfl rfl (by omega) (by omega) rfl) ?_
    | refine wG_pure (e_ia_vwi rfl rfl (by omega) rfl) ?_
    | refine wG_pure (e_ia_vwn rfl rfl (by omega) (by omega) rfl) ?_
    | refine wG_n rfl rfl ?_
    | refine wG_u rfl rfl ?_
    | refine wG_new (o_mks rfl rfl (by omega) (by decide)) ?_))
  refine wC_loop Nat (fun i => ⟨[(1, .vw nn (xs.map iRow)), (2, .vw mm (ys.map iRow)), (8, .int .i64 ((dsA xs ys i : Nat) : Int)), (9, .int .i64 (i : Int))], [], 1⟩) (fun i => i ≤ xs.length) (fun i => xs.length - i) 0 (Nat.zero_le _) ?_ (fun _ _ => Nat.zero_le _) ?_
  · exact ⟨⟨⟨rfl, rfl⟩, ⟨rfl, rfl⟩, ⟨rfl, rfl⟩, ⟨rfl, rfl⟩, trivial⟩, trivial⟩
  intro i hi
  have hbA := dsA_le xs ys i
  have hbA2 : i * xs.length ≤ 10 * 10 := Nat.mul_le_mul (by omega) (by omega)
  repeat (first
    | refine wC_a rfl ?_
    | refine q_s rfl ?_
    | refine q_b rfl ?_
    | refine wG_nil ?_
    | refine wG_g rfl ?_
    | refine wG_pure (o_len_vwm rfl) ?_
    | refine wG_pure (o_not_d rfl) ?_
    | refine wG_p rfl (by first | exact rfl | omega) ?_
    | refine wG_pure (o_str2 rfl rfl rfl) ?_
    | refine wG_pure (e_istr rfl rfl (by omega)) ?_
    | refine wG_pure (e_istr0 rfl rfl (by omega)) ?_
    | refine wG_pure (o_not rfl) ?_
    | refine wG_pure (e_ia_vw0 rfl rfl (by omega) rfl) ?_
    | refine wG_pure (e_ia_vwp rfl rfl (by omega) rfl) ?_
    | refine wG_pure (e_ia_vwm rfl rfl (by omega) (by omega) rfl) ?_
    | refine wG_pure (e_ia_vwi rfl rfl (by omega) rfl) ?_
    | refine wG_pure (e_ia_vwn rfl rfl (by omega) (by omega) rfl) ?_
    | refine wG_n rfl rfl ?_
    | refine wG_u rfl rfl ?_
    | refine wG_new (o_mks rfl rfl (by omega) (by decide)) ?_)
  refine wC_cond_d rfl (fun h5 => ?_) (fun h5 => ?_)
  · have hi2 : i < xs.length := by omega
    repeat (first
    | refine wC_a rfl ?_
    | refine q_s rfl ?_
    | refine q_b rfl ?_
    | refine wG_nil ?_
    | refine wG_g rfl ?_
    | refine wG_pure (o_len_vwm rfl) ?_
    | refine wG_pure (o_not_d rfl) ?_
    | refine wG_p rfl (by first | exact rfl | omega) ?_
    | refine wG_pure (o_str2 rfl rfl rfl) ?_
    | refine wG_pure (e_istr rfl rfl (by omega)) ?_
    | refine wG_pure (e_istr0 rfl rfl (by omega)) ?_
    | refine wG_pure (o_not rfl) ?_
    | refine wG_pure (e_ia_vw0 rfl rfl (by omega) rfl) ?_
    | refine wG_pure (e_ia_vwp rfl rfl (by omega) rfl) ?_
    | refine wG_pure (e_ia_vwm rfl rfl (by omega) (by omega) rfl) ?_
    | refine wG_pure (e_ia_vwi rfl rfl (by omega) rfl) ?_
    | refine wG_pure (e_ia_vwn rfl rfl (by omega) (by omega) rfl) ?_
    | refine wG_n rfl rfl ?_
    | refine wG_u rfl rfl ?_
    | refine wG_new (o_mks rfl rfl (by omega) (by decide)) ?_)
    refine wC_loop Nat (fun d => ⟨[(1, .vw nn (xs.map iRow)), (2, .vw mm (ys.map iRow)), (8, .int .i64 ((dsA xs ys i + dsR xs ys i d : Nat) : Int)), (9, .int .i64 (i : Int)), (10, .int .i64 ((i + 1 + d : Nat) : Int))], [], 1⟩) (fun d => i + 1 + d ≤ xs.length) (fun d => xs.length - d) 0 (by show i + 1 + 0 ≤ _; omega) ?_ (fun _ _ => Nat.zero_le _) ?_
    · exact ⟨⟨⟨rfl, rfl⟩, ⟨rfl, rfl⟩, ⟨rfl, rfl⟩, ⟨rfl, rfl⟩, ⟨rfl, rfl⟩, trivial⟩, trivial⟩
    intro d hd
    have hbR := dsR_le xs ys i d
    repeat (first
    | refine wC_a rfl ?_
    | refine q_s rfl ?_
    | refine q_b rfl ?_
    | refine wG_nil ?_
    | refine wG_g rfl ?_
    | refine wG_pure (o_len_vwm rfl) ?_
    | refine wG_pure (o_not_d rfl) ?_
    | refine wG_p rfl (by first | exact rfl | omega) ?_
    | refine wG_pure (o_str2 rfl rfl rfl) ?_
    | refine wG_pure (e_istr rfl rfl (by omega)) ?_
    | refine wG_pure (e_istr0 rfl rfl (by omega)) ?_
    | refine wG_pure (o_not rfl) ?_
    | refine wG_pure (e_ia_vw0 rfl rfl (by omega) rfl) ?_
    | refine wG_pure (e_ia_vwp rfl rfl (by omega) rfl) ?_
    | refine wG_pure (e_ia_vwm rfl rfl (by omega) (by omega) rfl) ?_
    | refine wG_pure (e_ia_vwi rfl rfl (by omega) rfl) ?_
    | refine wG_pure (e_ia_vwn rfl rfl (by omega) (by omega) rfl) ?_
    | refine wG_n rfl rfl ?_
    | refine wG_u rfl rfl ?_
    | refine wG_new (o_mks rfl rfl (by omega) (by decide)) ?_)
    refine wC_cond_d rfl (fun h6 => ?_) (fun h6 => ?_)
    · have hd2 : i + 1 + d < xs.length := by omega
      have hup : dsR xs ys i (d + 1) = dsR xs ys i d + (if ixI ys (xs.getD i default) > ixI ys (xs.getD (i + 1 + d) default) then 1 else 0) := rfl
      repeat (first | refine wG_call (c4 _) rfl rfl ?_ | (first
    | refine wC_a rfl ?_
    | refine q_s rfl ?_
    | refine q_b rfl ?_
    | refine wG_nil ?_
    | refine wG_g rfl ?_
    | refine wG_pure (o_len_vwm rfl) ?_
    | refine wG_pure (o_not_d rfl) ?_
    | refine wG_p rfl (by first | exact rfl | omega) ?_
    | refine wG_pure (o_str2 rfl rfl rfl) ?_
    | refine wG_pure (e_istr rfl rfl (by omega)) ?_
    | refine wG_pure (e_istr0 rfl rfl (by omega)) ?_
    | refine wG_pure (o_not rfl) ?_
    | refine wG_pure (e_ia_vw0 rfl rfl (by omega) rfl) ?_
    | refine wG_pure (e_ia_vwp rfl rfl (by omega) rfl) ?_
    | refine wG_pure (e_ia_vwm rfl rfl (by omega) (by omega) rfl) ?_
    | refine wG_pure (e_ia_vwi rfl rfl (by omega) rfl) ?_
    | refine wG_pure (e_ia_vwn rfl rfl (by omega) (by omega) rfl) ?_
    | refine wG_n rfl rfl ?_
    | refine wG_u rfl rfl ?_
    | refine wG_new (o_mks rfl rfl (by omega) (by decide)) ?_))
      refine wC_cond_d rfl (fun h7 => ?_) (fun h7 => ?_)
      · rw [if_pos h7] at hup
        repeat (first
    | refine wC_a rfl ?_
    | refine q_s rfl ?_
    | refine q_b rfl ?_
    | refine wG_nil ?_
    | refine wG_g rfl ?_
    | refine wG_pure (o_len_vwm rfl) ?_
    | refine wG_pure (o_not_d rfl) ?_
    | refine wG_p rfl (by first | exact rfl | omega) ?_
    | refine wG_pure (o_str2 rfl rfl rfl) ?_
    | refine wG_pure (e_istr rfl rfl (by omega)) ?_
    | refine wG_pure (e_istr0 rfl rfl (by omega)) ?_
    | refine wG_pure (o_not rfl) ?_
    | refine wG_pure (e_ia_vw0 rfl rfl (by omega) rfl) ?_
    | refine wG_pure (e_ia_vwp rfl rfl (by omega) rfl) ?_
    | refine wG_pure (e_ia_vwm rfl rfl (by omega) (by omega) rfl) ?_
    | refine wG_pure (e_ia_vwi rfl rfl (by omega) rfl) ?_
    | refine wG_pure (e_ia_vwn rfl rfl (by omega) (by omega) rfl) ?_
    | refine wG_n rfl rfl ?_
    | refine wG_u rfl rfl ?_
    | refine wG_new (o_mks rfl rfl (by omega) (by decide)) ?_)
        refine ⟨d + 1, hd2, by omega, ⟨⟨rfl, rfl⟩, ⟨rfl, rfl⟩, ⟨?_, rfl⟩, ⟨rfl, rfl⟩, ⟨rfl, rfl⟩, trivial⟩, trivial⟩
        rw [hup]; rfl
      · rw [if_neg h7] at hup
        repeat (first
    | refine wC_a rfl ?_
    | refine q_s rfl ?_
    | refine q_b rfl ?_
    | refine wG_nil ?_
    | refine wG_g rfl ?_
    | refine wG_pure (o_len_vwm rfl) ?_
    | refine wG_pure (o_not_d rfl) ?_
    | refine wG_p rfl (by first | exact rfl | omega) ?_
    | refine wG_pure (o_str2 rfl rfl rfl) ?_
    | refine wG_pure (e_istr rfl rfl (by omega)) ?_
    | refine wG_pure (e_istr0 rfl rfl (by omega)) ?_
    | refine wG_pure (o_not rfl) ?_
    | refine wG_pure (e_ia_vw0 rfl rfl (by omega) rfl) ?_
    | refine wG_pure (e_ia_vwp rfl rfl (by omega) rfl) ?_
    | refine wG_pure (e_ia_vwm rfl rfl (by omega) (by omega) rfl) ?_
    | refine wG_pure (e_ia_vwi rfl rfl (by omega) rfl) ?_
    | refine wG_pure (e_ia_vwn rfl rfl (by omega) (by omega) rfl) ?_
    | refine wG_n rfl rfl ?_
    | refine wG_u rfl rfl ?_
    | refine wG_new (o_mks rfl rfl (by omega) (by decide)) ?_)
        refine ⟨d + 1, hd2, by omega, ⟨⟨rfl, rfl⟩, ⟨rfl, rfl⟩, ⟨?_, rfl⟩, ⟨rfl, rfl⟩, ⟨rfl, rfl⟩, trivial⟩, trivial⟩
        rw [hup]; rfl
    · have hd3 : d = xs.length - (i + 1) := by omega
      subst hd3
      repeat (first
    | refine wC_a rfl ?_
    | refine q_s rfl ?_
    | refine q_b rfl ?_
    | refine wG_nil ?_
    | refine wG_g rfl ?_
    | refine wG_pure (o_len_vwm rfl) ?_
    | refine wG_pure (o_not_d rfl) ?_
    | refine wG_p rfl (by first | exact rfl | omega) ?_
    | refine wG_pure (o_str2 rfl rfl rfl) ?_
    | refine wG_pure (e_istr rfl rfl (by omega)) ?_
    | refine wG_pure (e_istr0 rfl rfl (by omega)) ?_
    | refine wG_pure (o_not rfl) ?_
    | refine wG_pure (e_ia_vw0 rfl rfl (by omega) rfl) ?_
    | refine wG_pure (e_ia_vwp rfl rfl (by omega) rfl) ?_
    | refine wG_pure (e_ia_vwm rfl rfl (by omega) (by omega) rfl) ?_
    | refine wG_pure (e_ia_vwi rfl rfl (by omega) rfl) ?_
    | refine wG_pure (e_ia_vwn rfl rfl (by omega) (by omega) rfl) ?_
    | refine wG_n rfl rfl ?_
    | refine wG_u rfl rfl ?_
    | refine wG_new (o_mks rfl rfl (by omega) (by decide)) ?_)
      exact ⟨i + 1, hi2, by omega, ⟨⟨rfl, rfl⟩, ⟨rfl, rfl⟩, ⟨rfl, rfl⟩, ⟨rfl, rfl⟩, trivial⟩, trivial⟩
  · have hi3 : i = xs.length := by omega
    subst hi3
    repeat (first
    | refine wC_a rfl ?_
    | refine q_s rfl ?_
    | refine q_b rfl ?_
    | refine wG_nil ?_
    | refine wG_g rfl ?_
    | refine wG_pure (o_len_vwm rfl) ?_
    | refine wG_pure (o_not_d rfl) ?_
    | refine wG_p rfl (by first | exact rfl | omega) ?_
    | refine wG_pure (o_str2 rfl rfl rfl) ?_
    | refine wG_pure (e_istr rfl rfl (by omega)) ?_
    | refine wG_pure (e_istr0 rfl rfl (by omega)) ?_
    | refine wG_pure (o_not rfl) ?_
    | refine wG_pure (e_ia_vw0 rfl rfl (by omega) rfl) ?_
    | refine wG_pure (e_ia_vwp rfl rfl (by omega) rfl) ?_
    | refine wG_pure (e_ia_vwm rfl rfl (by omega) (by omega) rfl) ?_
    | refine wG_pure (e_ia_vwi rfl rfl (by omega) rfl) ?_
    | refine wG_pure (e_ia_vwn rfl rfl (by omega) (by omega) rfl) ?_
    | refine wG_n rfl rfl ?_
    | refine wG_u rfl rfl ?_
    | refine wG_new (o_mks rfl rfl (by omega) (by decide)) ?_)
    exact ret_pl (.inr rfl) (retVs_2 (retV_mv rfl) (retV_mv rfl)) rfl rfl (by simp)
theorem con25_no (a b nn mm : Bool) (r : Rc) (xs ys : List Int) (h1 : r.cs.length ≤ 1048576) (h2 : r.xs.length ≤ 1048576) (h3 : xs.length ≤ 1048576) (h4 : ys.length ≤ 1048576) (hC : ¬ okD r xs ys) : Con Try.prog 25 true [.agg (rRow a b r), .vw nn (xs.map iRow), .vw mm (ys.map iRow)] (.tup [.int .i64 0, .bool false]) [] := by
  classical
  refine con_of_wp mixed fun25 (by simp) [] plain_nil ?_
  unfold ac25 ro25
  simp only [zipT]
  have c1 := con40 a b r h1 h2
  by_cases hG : GoodC r
  · rw [decide_eq_true hG] at c1
    have c2 := con52 a b nn r xs hG.1 h3
    have c3 := con52 a b mm r ys hG.1 h4
    by_cases hx : isSeq r xs
    · rw [decide_eq_true hx] at c2
      rw [decide_eq_false (fun h => hC ⟨hG, hx, h⟩)] at c3
      repeat (first | refine wG_call c1 rfl rfl ?_ | refine wG_call c2 rfl rfl ?_ | refine wG_call c3 rfl rfl ?_ | (first
    | refine wC_a rfl ?_
    | refine q_s rfl ?_
    | refine q_b rfl ?_
    | refine wG_nil ?_
    | refine wG_g rfl ?_
    | refine wG_pure (o_len_vwm rfl) ?_
    | refine wG_pure (o_not_d rfl) ?_
    | refine wG_p rfl (by first | exact rfl | omega) ?_
    | refine wG_pure (o_str2 rfl rfl rfl) ?_
    | refine wG_pure (e_istr rfl rfl (by omega)) ?_
    | refine wG_pure (e_istr0 rfl rfl (by omega)) ?_
    | refine wG_pure (o_not rfl) ?_
    | refine wG_pure (e_ia_vw0 rfl rfl (by omega) rfl) ?_
    | refine wG_pure (e_ia_vwp rfl rfl (by omega) rfl) ?_
    | refine wG_pure (e_ia_vwm rfl rfl (by omega) (by omega) rfl) ?_
    | refine wG_pure (e_ia_vwi rfl rfl (by omega) rfl) ?_
    | refine wG_pure (e_ia_vwn rfl rfl (by omega) (by omega) rfl) ?_
    | refine wG_n rfl rfl ?_
    | refine wG_u rfl rfl ?_
    | refine wG_new (o_mks rfl rfl (by omega) (by decide)) ?_))
      exact ret_pl (.inr rfl) (retVs_2 (retV_mv rfl) (retV_mv rfl)) rfl rfl (by simp)
    · rw [decide_eq_false hx] at c2
      repeat (first | refine wG_call c1 rfl rfl ?_ | refine wG_call c2 rfl rfl ?_ | (first
    | refine wC_a rfl ?_
    | refine q_s rfl ?_
    | refine q_b rfl ?_
    | refine wG_nil ?_
    | refine wG_g rfl ?_
    | refine wG_pure (o_len_vwm rfl) ?_
    | refine wG_pure (o_not_d rfl) ?_
    | refine wG_p rfl (by first | exact rfl | omega) ?_
    | refine wG_pure (o_str2 rfl rfl rfl) ?_
    | refine wG_pure (e_istr rfl rfl (by omega)) ?_
    | refine wG_pure (e_istr0 rfl rfl (by omega)) ?_
    | refine wG_pure (o_not rfl) ?_
    | refine wG_pure (e_ia_vw0 rfl rfl (by omega) rfl) ?_
    | refine wG_pure (e_ia_vwp rfl rfl (by omega) rfl) ?_
    | refine wG_pure (e_ia_vwm rfl rfl (by omega) (by omega) rfl) ?_
    | refine wG_pure (e_ia_vwi rfl rfl (by omega) rfl) ?_
    | refine wG_pure (e_ia_vwn rfl rfl (by omega) (by omega) rfl) ?_
    | refine wG_n rfl rfl ?_
    | refine wG_u rfl rfl ?_
    | refine wG_new (o_mks rfl rfl (by omega) (by decide)) ?_))
      exact ret_pl (.inr rfl) (retVs_2 (retV_mv rfl) (retV_mv rfl)) rfl rfl (by simp)
  · rw [decide_eq_false hG] at c1
    repeat (first | refine wG_call c1 rfl rfl ?_ | (first
    | refine wC_a rfl ?_
    | refine q_s rfl ?_
    | refine q_b rfl ?_
    | refine wG_nil ?_
    | refine wG_g rfl ?_
    | refine wG_pure (o_len_vwm rfl) ?_
    | refine wG_pure (o_not_d rfl) ?_
    | refine wG_p rfl (by first | exact rfl | omega) ?_
    | refine wG_pure (o_str2 rfl rfl rfl) ?_
    | refine wG_pure (e_istr rfl rfl (by omega)) ?_
    | refine wG_pure (e_istr0 rfl rfl (by omega)) ?_
    | refine wG_pure (o_not rfl) ?_
    | refine wG_pure (e_ia_vw0 rfl rfl (by omega) rfl) ?_
    | refine wG_pure (e_ia_vwp rfl rfl (by omega) rfl) ?_
    | refine wG_pure (e_ia_vwm rfl rfl (by omega) (by omega) rfl) ?_
    | refine wG_pure (e_ia_vwi rfl rfl (by omega) rfl) ?_
    | refine wG_pure (e_ia_vwn rfl rfl (by omega) (by omega) rfl) ?_
    | refine wG_n rfl rfl ?_
    | refine wG_u rfl rfl ?_
    | refine wG_new (o_mks rfl rfl (by omega) (by decide)) ?_))
    exact ret_pl (.inr rfl) (retVs_2 (retV_mv rfl) (retV_mv rfl)) rfl rfl (by simp)
theorem con26_yes (a b nn mm : Bool) (r : Rc) (xs ys : List Int) (h1 : r.cs.length ≤ 1048576) (h2 : r.xs.length ≤ 1048576) (h3 : xs.length ≤ 1048576) (h4 : ys.length ≤ 1048576) (hC : okD r xs ys) : Con Try.prog 26 true [.agg (rRow a b r), .vw nn (xs.map iRow), .vw mm (ys.map iRow)] (.tup [.int .i64 ((dsA xs ys xs.length : Nat) : Int), .bool true]) [] := by
  classical
  refine con_of_wp mixed fun26 (by simp) [] plain_nil ?_
  unfold ac26 ro26
  simp only [zipT]
  have h10 := hC.1.1.1
  have hl := hC.2.1.2
  have c2 := con53 nn r xs h10 h3
  rw [decide_eq_true hC.2.1] at c2
  have c3 := con53 mm r ys h10 h4
  rw [decide_eq_true hC.2.2] at c3
  have c4 := fun m => con55 mm ys m h4
  repeat (first
    | refine wC_a rfl ?_
    | refine q_s rfl ?_
    | refine q_b rfl ?_
    | refine wG_nil ?_
    | refine wG_g rfl ?_
    | refine wG_pure (o_len_vwm rfl) ?_
    | refine wG_pure (o_not_d rfl) ?_
    | refine wG_p rfl (by first | exact rfl | omega) ?_
    | refine wG_pure (o_str2 rfl rfl rfl) ?_
    | refine wG_pure (e_istr rfl rfl (by omega)) ?_
    | refine wG_pure (e_istr0 rfl rfl (by omega)) ?_
    | refine wG_pure (o_not rfl) ?_
    | refine wG_pure (e_ia_vw0 rfl rfl (by omega) rfl) ?_
    | refine wG_pure (e_ia_vwp rfl rfl (by omega) rfl) ?_
    | refine wG_pure (e_ia_vwm rfl rfl (by omega) (by omega) rfl) ?_
    | refine wG_pure (e_ia_vwi rfl rfl (by omega) rfl) ?_
    | refine wG_pure (e_ia_vwn rfl rfl (by omega) (by omega) rfl) ?_
    | refine wG_n rfl rfl ?_
    | refine wG_u rfl rfl ?_
    | refine wG_new (o_mks rfl rfl (by omega) (by decide)) ?_)
  refine wG_callG (v' := .tup [.pt (1 + ((oO r).length + 2)) 0 0, .bool true]) (con45_yes a b r h1 h2 hC.1) rfl rfl rfl ?_
  change wpG _ _ _ ⟨_, gH a b r, _⟩ _
  repeat (first | refine wG_call c2 (ag_any drg (ag_vw rfl ag_nil)) rfl ?_ | refine wG_call c3 (ag_any drg (ag_vw rfl ag_nil)) rfl ?_ | (first
    | refine wC_a rfl ?_
    | refine q_s rfl ?_
    | refine q_b rfl ?_
    | refine wG_nil ?_
    | refine wG_g rfl ?_
    | refine wG_pure (o_len_vwm rfl) ?_
    | refine wG_pure (o_not_d rfl) ?_
    | refine wG_p rfl (by first | exact rfl | omega) ?_
    | refine wG_pure (o_str2 rfl rfl rfl) ?_
    | refine wG_pure (e_istr rfl rfl (by omega)) ?_
    | refine wG_pure (e_istr0 rfl rfl (by omega)) ?_
    | refine wG_pure (o_not rfl) ?_
    | refine wG_pure (e_ia_vw0 rfl rfl (by omega) rfl) ?_
    | refine wG_pure (e_ia_vwp rfl rfl (by omega) rfl) ?_
    | refine wG_pure (e_ia_vwm rfl rfl (by omega) (by omega) rfl) ?_
    | refine wG_pure (e_ia_vwi rfl rfl (by omega) rfl) ?_
    | refine wG_pure (e_ia_vwn rfl rfl (by omega) (by omega) rfl) ?_
    | refine wG_n rfl rfl ?_
    | refine wG_u rfl rfl ?_
    | refine wG_new (o_mks rfl rfl (by omega) (by decide)) ?_))
  refine wC_loopX Nat (fun i => ⟨[(1, .vw nn (xs.map iRow)), (2, .vw mm (ys.map iRow)), (10, .int .i64 ((dsA xs ys i : Nat) : Int)), (34, .vw nn (xs.map iRow)), (35, .int .i64 (xs.length : Int)), (36, .int .i64 (i : Int))], [], 0 + 1 + (cgO r).length⟩) (fun i => i ≤ xs.length) (fun i => xs.length - i) 0 (Nat.zero_le _) ?_ ?_
  · exact .inl (Le_of ⟨⟨rfl, rfl⟩, ⟨rfl, rfl⟩, ⟨rfl, rfl⟩, ⟨rfl, rfl⟩, ⟨rfl, rfl⟩, ⟨rfl, rfl⟩, trivial⟩ (fun q rows hq => by simp [Ab.hg, upd] at hq) wfH_nil)
  intro i hi
  have hbA := dsA_le xs ys i
  have hbA2 : i * xs.length ≤ 10 * 10 := Nat.mul_le_mul (by omega) (by omega)
  repeat (first
    | refine wC_a rfl ?_
    | refine q_s rfl ?_
    | refine q_b rfl ?_
    | refine wG_nil ?_
    | refine wG_g rfl ?_
    | refine wG_pure (o_len_vwm rfl) ?_
    | refine wG_pure (o_not_d rfl) ?_
    | refine wG_p rfl (by first | exact rfl | omega) ?_
    | refine wG_pure (o_str2 rfl rfl rfl) ?_
    | refine wG_pure (e_istr rfl rfl (by omega)) ?_
    | refine wG_pure (e_istr0 rfl rfl (by omega)) ?_
    | refine wG_pure (o_not rfl) ?_
    | refine wG_pure (e_ia_vw0 rfl rfl (by omega) rfl) ?_
    | refine wG_pure (e_ia_vwp rfl rfl (by omega) rfl) ?_
    | refine wG_pure (e_ia_vwm rfl rfl (by omega) (by omega) rfl) ?_
    | refine wG_pure (e_ia_vwi rfl rfl (by omega) rfl) ?_
    | refine wG_pure (e_ia_vwn rfl rfl (by omega) (by omega) rfl) ?_
    | refine wG_n rfl rfl ?_
    | refine wG_u rfl rfl ?_
    | refine wG_new (o_mks rfl rfl (by omega) (by decide)) ?_)
  refine wC_cond_d rfl (fun h5 => ?_) (fun h5 => ?_)
  · have hi2 : i < xs.length := by omega
    have hsub : (xs.drop (i + 1)).take (xs.length - (i + 1)) = xs.drop (i + 1) := List.take_of_length_le (by simp)
    have hdl : (xs.drop (i + 1)).length = xs.length - (i + 1) := by simp
    repeat (first | (refine wG_pure (o_slc_m rfl (bd_i (n := i + 1) rfl) rfl (by omega) (by omega) (okI xs)) ?_; simp only [hsub]) | (first
    | refine wC_a rfl ?_
    | refine q_s rfl ?_
    | refine q_b rfl ?_
    | refine wG_nil ?_
    | refine wG_g rfl ?_
    | refine wG_pure (o_len_vwm rfl) ?_
    | refine wG_pure (o_not_d rfl) ?_
    | refine wG_p rfl (by first | exact rfl | omega) ?_
    | refine wG_pure (o_str2 rfl rfl rfl) ?_
    | refine wG_pure (e_istr rfl rfl (by omega)) ?_
    | refine wG_pure (e_istr0 rfl rfl (by omega)) ?_
    | refine wG_pure (o_not rfl) ?_
    | refine wG_pure (e_ia_vw0 rfl rfl (by omega) rfl) ?_
    | refine wG_pure (e_ia_vwp rfl rfl (by omega) rfl) ?_
    | refine wG_pure (e_ia_vwm rfl rfl (by omega) (by omega) rfl) ?_
    | refine wG_pure (e_ia_vwi rfl rfl (by omega) rfl) ?_
    | refine wG_pure (e_ia_vwn rfl rfl (by omega) (by omega) rfl) ?_
    | refine wG_n rfl rfl ?_
    | refine wG_u rfl rfl ?_
    | refine wG_new (o_mks rfl rfl (by omega) (by decide)) ?_))
    refine wC_loopX Nat (fun d => ⟨[(1, .vw nn (xs.map iRow)), (2, .vw mm (ys.map iRow)), (10, .int .i64 ((dsA xs ys i + dsR xs ys i d : Nat) : Int)), (12, .int .i64 (xs.getD i default)), (34, .vw nn (xs.map iRow)), (35, .int .i64 (xs.length : Int)), (36, .int .i64 (i : Int)), (44, .vw nn ((xs.drop (i + 1)).map iRow)), (45, .int .i64 ((xs.drop (i + 1)).length : Int)), (46, .int .i64 (d : Int))], [], 0 + 1 + (cgO r).length⟩) (fun d => d ≤ xs.length - (i + 1)) (fun d => xs.length - d) 0 (Nat.zero_le _) ?_ ?_
    · exact .inl (Le_of ⟨⟨rfl, rfl⟩, ⟨rfl, rfl⟩, ⟨rfl, rfl⟩, ⟨rfl, rfl⟩, ⟨rfl, rfl⟩, ⟨rfl, rfl⟩, ⟨rfl, rfl⟩, ⟨rfl, rfl⟩, ⟨rfl, rfl⟩, ⟨rfl, rfl⟩, trivial⟩ (fun q rows hq => hq) wfH_nil)
    intro d hd
    have hbR := dsR_le xs ys i d
    repeat (first
    | refine wC_a rfl ?_
    | refine q_s rfl ?_
    | refine q_b rfl ?_
    | refine wG_nil ?_
    | refine wG_g rfl ?_
    | refine wG_pure (o_len_vwm rfl) ?_
    | refine wG_pure (o_not_d rfl) ?_
    | refine wG_p rfl (by first | exact rfl | omega) ?_
    | refine wG_pure (o_str2 rfl rfl rfl) ?_
    | refine wG_pure (e_istr rfl rfl (by omega)) ?_
    | refine wG_pure (e_istr0 rfl rfl (by omega)) ?_
    | refine wG_pure (o_not rfl) ?_
    | refine wG_pure (e_ia_vw0 rfl rfl (by omega) rfl) ?_
    | refine wG_pure (e_ia_vwp rfl rfl (by omega) rfl) ?_
    | refine wG_pure (e_ia_vwm rfl rfl (by omega) (by omega) rfl) ?_
    | refine wG_pure (e_ia_vwi rfl rfl (by omega) rfl) ?_
    | refine wG_pure (e_ia_vwn rfl rfl (by omega) (by omega) rfl) ?_
    | refine wG_n rfl rfl ?_
    | refine wG_u rfl rfl ?_
    | refine wG_new (o_mks rfl rfl (by omega) (by decide)) ?_)
    refine wC_cond_d rfl (fun h6 => ?_) (fun h6 => ?_)
    · have hd2 : d < (xs.drop (i + 1)).length := by omega
      have hgd : (xs.drop (i + 1)).getD d default = xs.getD (i + 1 + d) default := by simp [List.getD_eq_getElem?_getD, List.getElem?_drop]
      have hup : dsR xs ys i (d + 1) = dsR xs ys i d + (if ixI ys (xs.getD i default) > ixI ys ((xs.drop (i + 1)).getD d default) then 1 else 0) := by rw [hgd]; rfl
      repeat (first | refine wG_call (c4 _) rfl rfl ?_ | (first
    | refine wC_a rfl ?_
    | refine q_s rfl ?_
    | refine q_b rfl ?_
    | refine wG_nil ?_
    | refine wG_g rfl ?_
    | refine wG_pure (o_len_vwm rfl) ?_
    | refine wG_pure (o_not_d rfl) ?_
    | refine wG_p rfl (by first | exact rfl | omega) ?_
    | refine wG_pure (o_str2 rfl rfl rfl) ?_
    | refine wG_pure (e_istr rfl rfl (by omega)) ?_
    | refine wG_pure (e_istr0 rfl rfl (by omega)) ?_
    | refine wG_pure (o_not rfl) ?_
    | refine wG_pure (e_ia_vw0 rfl rfl (by omega) rfl) ?_
    | refine wG_pure (e_ia_vwp rfl rfl (by omega) rfl) ?_
    | refine wG_pure (e_ia_vwm rfl rfl (by omega) (by omega) rfl) ?_
    | refine wG_pure (e_ia_vwi rfl rfl (by omega) rfl) ?_
    | refine wG_pure (e_ia_vwn rfl rfl (by omega) (by omega) rfl) ?_
    | refine wG_n rfl rfl ?_
    | refine wG_u rfl rfl ?_
    | refine wG_new (o_mks rfl rfl (by omega) (by decide)) ?_))
      refine wC_cond_d rfl (fun h7 => ?_) (fun h7 => ?_)
      · rw [if_pos h7] at hup
        repeat (first
    | refine wC_a rfl ?_
    | refine q_s rfl ?_
    | refine q_b rfl ?_
    | refine wG_nil ?_
    | refine wG_g rfl ?_
    | refine wG_pure (o_len_vwm rfl) ?_
    | refine wG_pure (o_not_d rfl) ?_
    | refine wG_p rfl (by first | exact rfl | omega) ?_
    | refine wG_pure (o_str2 rfl rfl rfl) ?_
    | refine wG_pure (e_istr rfl rfl (by omega)) ?_
    | refine wG_pure (e_istr0 rfl rfl (by omega)) ?_
    | refine wG_pure (o_not rfl) ?_
    | refine wG_pure (e_ia_vw0 rfl rfl (by omega) rfl) ?_
    | refine wG_pure (e_ia_vwp rfl rfl (by omega) rfl) ?_
    | refine wG_pure (e_ia_vwm rfl rfl (by omega) (by omega) rfl) ?_
    | refine wG_pure (e_ia_vwi rfl rfl (by omega) rfl) ?_
    | refine wG_pure (e_ia_vwn rfl rfl (by omega) (by omega) rfl) ?_
    | refine wG_n rfl rfl ?_
    | refine wG_u rfl rfl ?_
    | refine wG_new (o_mks rfl rfl (by omega) (by decide)) ?_)
        refine ⟨d + 1, by omega, by omega, .inl (Le_of ⟨⟨rfl, rfl⟩, ⟨rfl, rfl⟩, ⟨?_, rfl⟩, ⟨rfl, rfl⟩, ⟨rfl, rfl⟩, ⟨rfl, rfl⟩, ⟨rfl, rfl⟩, ⟨rfl, rfl⟩, ⟨rfl, rfl⟩, ⟨rfl, rfl⟩, trivial⟩ (fun q rows hq => hq) wfH_nil)⟩
        rw [hup]; rfl
      · rw [if_neg h7] at hup
        repeat (first
    | refine wC_a rfl ?_
    | refine q_s rfl ?_
    | refine q_b rfl ?_
    | refine wG_nil ?_
    | refine wG_g rfl ?_
    | refine wG_pure (o_len_vwm rfl) ?_
    | refine wG_pure (o_not_d rfl) ?_
    | refine wG_p rfl (by first | exact rfl | omega) ?_
    | refine wG_pure (o_str2 rfl rfl rfl) ?_
    | refine wG_pure (e_istr rfl rfl (by omega)) ?_
    | refine wG_pure (e_istr0 rfl rfl (by omega)) ?_
    | refine wG_pure (o_not rfl) ?_
    | refine wG_pure (e_ia_vw0 rfl rfl (by omega) rfl) ?_
    | refine wG_pure (e_ia_vwp rfl rfl (by omega) rfl) ?_
    | refine wG_pure (e_ia_vwm rfl rfl (by omega) (by omega) rfl) ?_
    | refine wG_pure (e_ia_vwi rfl rfl (by omega) rfl) ?_
    | refine wG_pure (e_ia_vwn rfl rfl (by omega) (by omega) rfl) ?_
    | refine wG_n rfl rfl ?_
    | refine wG_u rfl rfl ?_
    | refine wG_new (o_mks rfl rfl (by omega) (by decide)) ?_)
        refine ⟨d + 1, by omega, by omega, .inl (Le_of ⟨⟨rfl, rfl⟩, ⟨rfl, rfl⟩, ⟨?_, rfl⟩, ⟨rfl, rfl⟩, ⟨rfl, rfl⟩, ⟨rfl, rfl⟩, ⟨rfl, rfl⟩, ⟨rfl, rfl⟩, ⟨rfl, rfl⟩, ⟨rfl, rfl⟩, trivial⟩ (fun q rows hq => hq) wfH_nil)⟩
        rw [hup]; rfl
    · have hd3 : d = xs.length - (i + 1) := by omega
      subst hd3
      repeat (first
    | refine wC_a rfl ?_
    | refine q_s rfl ?_
    | refine q_b rfl ?_
    | refine wG_nil ?_
    | refine wG_g rfl ?_
    | refine wG_pure (o_len_vwm rfl) ?_
    | refine wG_pure (o_not_d rfl) ?_
    | refine wG_p rfl (by first | exact rfl | omega) ?_
    | refine wG_pure (o_str2 rfl rfl rfl) ?_
    | refine wG_pure (e_istr rfl rfl (by omega)) ?_
    | refine wG_pure (e_istr0 rfl rfl (by omega)) ?_
    | refine wG_pure (o_not rfl) ?_
    | refine wG_pure (e_ia_vw0 rfl rfl (by omega) rfl) ?_
    | refine wG_pure (e_ia_vwp rfl rfl (by omega) rfl) ?_
    | refine wG_pure (e_ia_vwm rfl rfl (by omega) (by omega) rfl) ?_
    | refine wG_pure (e_ia_vwi rfl rfl (by omega) rfl) ?_
    | refine wG_pure (e_ia_vwn rfl rfl (by omega) (by omega) rfl) ?_
    | refine wG_n rfl rfl ?_
    | refine wG_u rfl rfl ?_
    | refine wG_new (o_mks rfl rfl (by omega) (by decide)) ?_)
      exact ⟨i + 1, hi2, by omega, .inl (Le_of ⟨⟨rfl, rfl⟩, ⟨rfl, rfl⟩, ⟨rfl, rfl⟩, ⟨rfl, rfl⟩, ⟨rfl, rfl⟩, ⟨rfl, rfl⟩, trivial⟩ (fun q rows hq => hq) wfH_nil)⟩
  · have hi3 : i = xs.length := by omega
    subst hi3
    repeat (first
    | refine wC_a rfl ?_
    | refine q_s rfl ?_
    | refine q_b rfl ?_
    | refine wG_nil ?_
    | refine wG_g rfl ?_
    | refine wG_pure (o_len_vwm rfl) ?_
    | refine wG_pure (o_not_d rfl) ?_
    | refine wG_p rfl (by first | exact rfl | omega) ?_
    | refine wG_pure (o_str2 rfl rfl rfl) ?_
    | refine wG_pure (e_istr rfl rfl (by omega)) ?_
    | refine wG_pure (e_istr0 rfl rfl (by omega)) ?_
    | refine wG_pure (o_not rfl) ?_
    | refine wG_pure (e_ia_vw0 rfl rfl (by omega) rfl) ?_
    | refine wG_pure (e_ia_vwp rfl rfl (by omega) rfl) ?_
    | refine wG_pure (e_ia_vwm rfl rfl (by omega) (by omega) rfl) ?_
    | refine wG_pure (e_ia_vwi rfl rfl (by omega) rfl) ?_
    | refine wG_pure (e_ia_vwn rfl rfl (by omega) (by omega) rfl) ?_
    | refine wG_n rfl rfl ?_
    | refine wG_u rfl rfl ?_
    | refine wG_new (o_mks rfl rfl (by omega) (by decide)) ?_)
    exact ret_pl (.inr rfl) (retVs_2 (retV_mv rfl) (retV_mv rfl)) rfl rfl (by simp)
theorem con26_no (a b nn mm : Bool) (r : Rc) (xs ys : List Int) (h1 : r.cs.length ≤ 1048576) (h2 : r.xs.length ≤ 1048576) (h3 : xs.length ≤ 1048576) (h4 : ys.length ≤ 1048576) (hC : ¬ okD r xs ys) : Con Try.prog 26 true [.agg (rRow a b r), .vw nn (xs.map iRow), .vw mm (ys.map iRow)] (.tup [.int .i64 0, .bool false]) [] := by
  classical
  refine con_of_wp mixed fun26 (by simp) [] plain_nil ?_
  unfold ac26 ro26
  simp only [zipT]
  by_cases hG : GoodC r
  · have c2 := con53 nn r xs hG.1.1 h3
    have c3 := con53 mm r ys hG.1.1 h4
    by_cases hx : isSeq r xs
    · rw [decide_eq_true hx] at c2
      rw [decide_eq_false (fun h => hC ⟨hG, hx, h⟩)] at c3
      repeat (first
    | refine wC_a rfl ?_
    | refine q_s rfl ?_
    | refine q_b rfl ?_
    | refine wG_nil ?_
    | refine wG_g rfl ?_
    | refine wG_pure (o_len_vwm rfl) ?_
    | refine wG_pure (o_not_d rfl) ?_
    | refine wG_p rfl (by first | exact rfl | omega) ?_
    | refine wG_pure (o_str2 rfl rfl rfl) ?_
    | refine wG_pure (e_istr rfl rfl (by omega)) ?_
    | refine wG_pure (e_istr0 rfl rfl (by omega)) ?_
    | refine wG_pure (o_not rfl) ?_
    | refine wG_pure (e_ia_vw0 rfl rfl (by omega) rfl) ?_
    | refine wG_pure (e_ia_vwp rfl rfl (by omega) rfl) ?_
    | refine wG_pure (e_ia_vwm rfl rfl (by omega) (by omega) rfl) ?_
    | refine wG_pure (e_ia_vwi rfl rfl (by omega) rfl) ?_
    | refine wG_pure (e_ia_vwn rfl rfl (by omega) (by omega) rfl) ?_
    | refine wG_n rfl rfl ?_
    | refine wG_u rfl rfl ?_
    | refine wG_new (o_mks rfl rfl (by omega) (by decide)) ?_)
      refine wG_callG (v' := .tup [.pt (1 + ((oO r).length + 2)) 0 0, .bool true]) (con45_yes a b r h1 h2 hG) rfl rfl rfl ?_
      change wpG _ _ _ ⟨_, gH a b r, _⟩ _
      repeat (first | refine wG_call c2 (ag_any drg (ag_vw rfl ag_nil)) rfl ?_ | refine wG_call c3 (ag_any drg (ag_vw rfl ag_nil)) rfl ?_ | (first
    | refine wC_a rfl ?_
    | refine q_s rfl ?_
    | refine q_b rfl ?_
    | refine wG_nil ?_
    | refine wG_g rfl ?_
    | refine wG_pure (o_len_vwm rfl) ?_
    | refine wG_pure (o_not_d rfl) ?_
    | refine wG_p rfl (by first | exact rfl | omega) ?_
    | refine wG_pure (o_str2 rfl rfl rfl) ?_
    | refine wG_pure (e_istr rfl rfl (by omega)) ?_
    | refine wG_pure (e_istr0 rfl rfl (by omega)) ?_
    | refine wG_pure (o_not rfl) ?_
    | refine wG_pure (e_ia_vw0 rfl rfl (by omega) rfl) ?_
    | refine wG_pure (e_ia_vwp rfl rfl (by omega) rfl) ?_
    | refine wG_pure (e_ia_vwm rfl rfl (by omega) (by omega) rfl) ?_
    | refine wG_pure (e_ia_vwi rfl rfl (by omega) rfl) ?_
    | refine wG_pure (e_ia_vwn rfl rfl (by omega) (by omega) rfl) ?_
    | refine wG_n rfl rfl ?_
    | refine wG_u rfl rfl ?_
    | refine wG_new (o_mks rfl rfl (by omega) (by decide)) ?_))
      exact ret_pl (.inr rfl) (retVs_2 (retV_mv rfl) (retV_mv rfl)) rfl rfl (by simp)
    · rw [decide_eq_false hx] at c2
      repeat (first
    | refine wC_a rfl ?_
    | refine q_s rfl ?_
    | refine q_b rfl ?_
    | refine wG_nil ?_
    | refine wG_g rfl ?_
    | refine wG_pure (o_len_vwm rfl) ?_
    | refine wG_pure (o_not_d rfl) ?_
    | refine wG_p rfl (by first | exact rfl | omega) ?_
    | refine wG_pure (o_str2 rfl rfl rfl) ?_
    | refine wG_pure (e_istr rfl rfl (by omega)) ?_
    | refine wG_pure (e_istr0 rfl rfl (by omega)) ?_
    | refine wG_pure (o_not rfl) ?_
    | refine wG_pure (e_ia_vw0 rfl rfl (by omega) rfl) ?_
    | refine wG_pure (e_ia_vwp rfl rfl (by omega) rfl) ?_
    | refine wG_pure (e_ia_vwm rfl rfl (by omega) (by omega) rfl) ?_
    | refine wG_pure (e_ia_vwi rfl rfl (by omega) rfl) ?_
    | refine wG_pure (e_ia_vwn rfl rfl (by omega) (by omega) rfl) ?_
    | refine wG_n rfl rfl ?_
    | refine wG_u rfl rfl ?_
    | refine wG_new (o_mks rfl rfl (by omega) (by decide)) ?_)
      refine wG_callG (v' := .tup [.pt (1 + ((oO r).length + 2)) 0 0, .bool true]) (con45_yes a b r h1 h2 hG) rfl rfl rfl ?_
      change wpG _ _ _ ⟨_, gH a b r, _⟩ _
      repeat (first | refine wG_call c2 (ag_any drg (ag_vw rfl ag_nil)) rfl ?_ | (first
    | refine wC_a rfl ?_
    | refine q_s rfl ?_
    | refine q_b rfl ?_
    | refine wG_nil ?_
    | refine wG_g rfl ?_
    | refine wG_pure (o_len_vwm rfl) ?_
    | refine wG_pure (o_not_d rfl) ?_
    | refine wG_p rfl (by first | exact rfl | omega) ?_
    | refine wG_pure (o_str2 rfl rfl rfl) ?_
    | refine wG_pure (e_istr rfl rfl (by omega)) ?_
    | refine wG_pure (e_istr0 rfl rfl (by omega)) ?_
    | refine wG_pure (o_not rfl) ?_
    | refine wG_pure (e_ia_vw0 rfl rfl (by omega) rfl) ?_
    | refine wG_pure (e_ia_vwp rfl rfl (by omega) rfl) ?_
    | refine wG_pure (e_ia_vwm rfl rfl (by omega) (by omega) rfl) ?_
    | refine wG_pure (e_ia_vwi rfl rfl (by omega) rfl) ?_
    | refine wG_pure (e_ia_vwn rfl rfl (by omega) (by omega) rfl) ?_
    | refine wG_n rfl rfl ?_
    | refine wG_u rfl rfl ?_
    | refine wG_new (o_mks rfl rfl (by omega) (by decide)) ?_))
      exact ret_pl (.inr rfl) (retVs_2 (retV_mv rfl) (retV_mv rfl)) rfl rfl (by simp)
  · have c1 := con45_no a b r h1 h2 hG
    repeat (first | refine wG_call c1 rfl rfl ?_ | (first
    | refine wC_a rfl ?_
    | refine q_s rfl ?_
    | refine q_b rfl ?_
    | refine wG_nil ?_
    | refine wG_g rfl ?_
    | refine wG_pure (o_len_vwm rfl) ?_
    | refine wG_pure (o_not_d rfl) ?_
    | refine wG_p rfl (by first | exact rfl | omega) ?_
    | refine wG_pure (o_str2 rfl rfl rfl) ?_
    | refine wG_pure (e_istr rfl rfl (by omega)) ?_
    | refine wG_pure (e_istr0 rfl rfl (by omega)) ?_
    | refine wG_pure (o_not rfl) ?_
    | refine wG_pure (e_ia_vw0 rfl rfl (by omega) rfl) ?_
    | refine wG_pure (e_ia_vwp rfl rfl (by omega) rfl) ?_
    | refine wG_pure (e_ia_vwm rfl rfl (by omega) (by omega) rfl) ?_
    | refine wG_pure (e_ia_vwi rfl rfl (by omega) rfl) ?_
    | refine wG_pure (e_ia_vwn rfl rfl (by omega) (by omega) rfl) ?_
    | refine wG_n rfl rfl ?_
    | refine wG_u rfl rfl ?_
    | refine wG_new (o_mks rfl rfl (by omega) (by decide)) ?_))
    exact ret_pl (.inr rfl) (retVs_2 (retV_mv rfl) (retV_mv rfl)) rfl rfl (by simp)
end Go.Proofs.Ythicnjgdngfbkaa.Rec
