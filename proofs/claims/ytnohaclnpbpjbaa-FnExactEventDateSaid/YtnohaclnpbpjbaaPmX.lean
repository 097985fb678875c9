/- The law on the dates of events. -/
import Derived.Test.YtnohaclnpbpjbaaPmW
import Derived.Test.YtnohaclnpbpjbaaPmO
namespace Go.Proofs.Ytnohaclnpbpjbaa.Dst
open Go Go.Proofs.Ytnohaclnpbpjbaa.Ab Go.Proofs.Ytnohaclnpbpjbaa.Il
attribute [local irreducible] wpO wpC wpDr wpQ wpG wpE stepA seqQ blkQ Ret RetG ev
set_option maxRecDepth 10000
set_option maxHeartbeats 8000000
set_option linter.unusedSimpArgs false
set_option linter.unusedVariables false

def ac10 : AC := (.seq (.reg [⟨(some 2), none, (.box 4 true (.t 0))⟩, ⟨(some 4), none, (.mv (.c (.bool false)))⟩]) (.seq (.reg [⟨(some 5), none, (.mv (.c (.int .i64 1048576)))⟩]) (.seq (.reg [⟨(some 16), none, (.ld true 4 (.t 2))⟩, ⟨(some 17), none, (.mv (.t 5))⟩, ⟨(some 18), none, (.call 11 [(.t 16), (.t 17)])⟩, ⟨(some 5), none, (.mv (.t 18))⟩]) (.seq (.seq (.reg [⟨(some 19), none, (.mv (.t 5))⟩, ⟨(some 20), none, (.bin .lss (.t 19) (.c (.int .i64 0)))⟩]) (.cond (.t 20) (.seq (.reg [⟨(some 4), none, (.mv (.c (.bool true)))⟩]) .ret) .skip)) (.seq (.reg [⟨(some 22), none, (.ld true 4 (.t 2))⟩, ⟨(some 23), none, (.call 13 [(.t 22)])⟩, ⟨(some 24), none, (.mv (.t 1))⟩, ⟨(some 25), none, (.call 36 [(.t 23), (.t 24)])⟩, ⟨(some 21), none, (.mv (.t 25))⟩, ⟨(some 26), none, (.ext (.t 21) 0)⟩, ⟨(some 27), none, (.ext (.t 21) 1)⟩, ⟨(some 6), none, (.alloc [(.int .i64 0), .nilS])⟩, ⟨none, none, (.st 2 (.t 6) (.t 26))⟩, ⟨(some 7), none, (.mv (.t 27))⟩]) (.seq (.reg [⟨(some 28), none, (.ld true 4 (.t 2))⟩, ⟨(some 29), none, (.call 13 [(.t 28)])⟩, ⟨(some 8), none, (.alloc [(.int .i64 0), (.int .i64 0), (.int .i64 0), .nilS])⟩, ⟨none, none, (.st 4 (.t 8) (.t 29))⟩]) (.seq (.reg [⟨(some 31), none, (.ld true 4 (.t 8))⟩, ⟨(some 32), none, (.mv (.t 1))⟩, ⟨(some 33), none, (.call 37 [(.t 31), (.t 32)])⟩, ⟨(some 30), none, (.mv (.t 33))⟩, ⟨(some 34), none, (.ext (.t 30) 0)⟩, ⟨(some 35), none, (.ext (.t 30) 1)⟩, ⟨(some 9), none, (.alloc [(.int .i64 0), .nilS])⟩, ⟨none, none, (.st 2 (.t 9) (.t 34))⟩, ⟨(some 10), none, (.mv (.t 35))⟩]) (.seq (.seq (.reg [⟨(some 36), none, (.ld true 2 (.t 9))⟩, ⟨(some 37), none, (.ld true 2 (.t 6))⟩, ⟨(some 38), none, (.call 20 [(.t 36), (.t 37)])⟩, ⟨(some 39), none, (.un .not (.t 38))⟩, ⟨(some 40), none, (.mv (.t 39))⟩, ⟨(some 41), (some (40, false)), (.mv (.t 10))⟩, ⟨(some 42), (some (40, false)), (.mv (.t 7))⟩, ⟨(some 43), (some (40, false)), (.bool2 true (.t 41) (.t 42))⟩, ⟨(some 44), none, (.pick (.t 40) (.c (.bool true)) (.t 43))⟩]) (.cond (.t 44) (.seq (.reg [⟨(some 4), none, (.mv (.c (.bool false)))⟩]) .ret) .skip)) (.seq (.seq (.dreg [⟨(some 45), none, (.ld true 4 (.t 8))⟩, ⟨(some 46), none, (.ld true 4 (.t 2))⟩, ⟨(some 47), none, (.call 13 [(.t 46)])⟩, ⟨(some 48), none, (.call 15 [(.t 45), (.t 47)])⟩, ⟨(some 49), none, (.un .not (.t 48))⟩] [[], [], [1], [0, 1, 2], [0, 1, 2, 3]]) (.cond (.t 49) (.seq (.reg [⟨(some 4), none, (.mv (.c (.bool false)))⟩]) .ret) .skip)) (.seq (.reg [⟨(some 11), none, (.mv (.c (.int .i64 1)))⟩]) (.seq (.reg [⟨(some 50), none, (.ld true 4 (.t 8))⟩, ⟨(some 51), none, (.mv (.t 11))⟩, ⟨(some 52), none, (.call 33 [(.t 50), (.t 51)])⟩, ⟨(some 11), none, (.mv (.t 52))⟩]) (.seq (.seq (.reg [⟨(some 53), none, (.mv (.t 11))⟩, ⟨(some 54), none, (.bin .lss (.t 53) (.c (.int .i64 0)))⟩, ⟨(some 55), none, (.mv (.t 54))⟩, ⟨(some 56), (some (55, false)), (.ld true 2 (.t 9))⟩, ⟨(some 57), (some (55, false)), (.ld true 2 (.t 6))⟩, ⟨(some 58), (some (55, false)), (.call 20 [(.t 56), (.t 57)])⟩, ⟨(some 59), (some (55, false)), (.un .not (.t 58))⟩, ⟨(some 60), none, (.pick (.t 55) (.c (.bool true)) (.t 59))⟩, ⟨(some 61), none, (.mv (.t 60))⟩, ⟨(some 62), (some (61, false)), (.mv (.t 10))⟩, ⟨(some 63), (some (61, false)), (.mv (.t 7))⟩, ⟨(some 64), (some (61, false)), (.bool2 true (.t 62) (.t 63))⟩, ⟨(some 65), none, (.pick (.t 61) (.c (.bool true)) (.t 64))⟩]) (.cond (.t 65) (.seq (.reg [⟨(some 4), none, (.mv (.c (.bool false)))⟩]) .ret) .skip)) (.seq (.reg [⟨(some 12), none, (.mv (.c (.int .i64 1)))⟩]) (.seq (.reg [⟨(some 66), none, (.ld true 2 (.t 9))⟩, ⟨(some 67), none, (.mv (.t 12))⟩, ⟨(some 68), none, (.call 23 [(.t 66), (.t 67)])⟩, ⟨(some 12), none, (.mv (.t 68))⟩]) (.seq (.reg [⟨(some 13), none, (.mv (.c (.int .i64 1)))⟩]) (.seq (.reg [⟨(some 69), none, (.ld true 2 (.t 9))⟩, ⟨(some 70), none, (.mv (.t 13))⟩, ⟨(some 71), none, (.call 24 [(.t 69), (.t 70)])⟩, ⟨(some 13), none, (.mv (.t 71))⟩]) (.seq (.seq (.reg [⟨(some 72), none, (.mv (.t 13))⟩, ⟨(some 73), none, (.bin .lss (.t 72) (.c (.int .i64 0)))⟩]) (.cond (.t 73) (.seq (.reg [⟨(some 4), none, (.mv (.c (.bool false)))⟩]) .ret) .skip)) (.seq (.seq (.reg [⟨(some 74), none, (.mv (.t 13))⟩, ⟨(some 75), none, (.mv (.t 12))⟩, ⟨(some 76), none, (.bin .neq (.t 74) (.t 75))⟩]) (.cond (.t 76) (.seq (.reg [⟨(some 4), none, (.mv (.c (.bool false)))⟩]) .ret) .skip)) (.seq (.reg [⟨(some 78), none, (.ld true 4 (.t 2))⟩, ⟨(some 79), none, (.call 13 [(.t 78)])⟩, ⟨(some 80), none, (.mv (.t 1))⟩, ⟨(some 81), none, (.call 37 [(.t 79), (.t 80)])⟩, ⟨(some 77), none, (.mv (.t 81))⟩, ⟨(some 82), none, (.ext (.t 77) 0)⟩, ⟨(some 83), none, (.ext (.t 77) 1)⟩, ⟨(some 14), none, (.alloc [(.int .i64 0), .nilS])⟩, ⟨none, none, (.st 2 (.t 14) (.t 82))⟩, ⟨(some 15), none, (.mv (.t 83))⟩]) (.seq (.seq (.reg [⟨(some 84), none, (.ld true 2 (.t 14))⟩, ⟨(some 85), none, (.ld true 2 (.t 6))⟩, ⟨(some 86), none, (.call 20 [(.t 84), (.t 85)])⟩, ⟨(some 87), none, (.un .not (.t 86))⟩, ⟨(some 88), none, (.mv (.t 87))⟩, ⟨(some 89), (some (88, false)), (.mv (.t 15))⟩, ⟨(some 90), (some (88, false)), (.mv (.t 7))⟩, ⟨(some 91), (some (88, false)), (.bool2 true (.t 89) (.t 90))⟩, ⟨(some 92), none, (.pick (.t 88) (.c (.bool true)) (.t 91))⟩]) (.cond (.t 92) (.seq (.reg [⟨(some 4), none, (.mv (.c (.bool false)))⟩]) .ret) .skip)) (.seq (.reg [⟨(some 13), none, (.mv (.c (.int .i64 1)))⟩]) (.seq (.reg [⟨(some 93), none, (.ld true 2 (.t 9))⟩, ⟨(some 94), none, (.mv (.t 13))⟩, ⟨(some 95), none, (.call 24 [(.t 93), (.t 94)])⟩, ⟨(some 13), none, (.mv (.t 95))⟩]) (.seq (.seq (.reg [⟨(some 96), none, (.mv (.t 13))⟩, ⟨(some 97), none, (.bin .lss (.t 96) (.c (.int .i64 0)))⟩]) (.cond (.t 97) (.seq (.reg [⟨(some 4), none, (.mv (.c (.bool false)))⟩]) .ret) .skip)) (.seq (.seq (.reg [⟨(some 98), none, (.mv (.t 13))⟩, ⟨(some 99), none, (.mv (.t 12))⟩, ⟨(some 100), none, (.bin .neq (.t 98) (.t 99))⟩]) (.cond (.t 100) (.seq (.reg [⟨(some 4), none, (.mv (.c (.bool false)))⟩]) .ret) .skip)) (.seq (.reg [⟨(some 4), none, (.mv (.c (.bool true)))⟩]) .ret)))))))))))))))))))))))))
def ro10 : List AOp := [(.mv (.t 4))]
theorem fun10 : Fun Try.prog 10 101 ac10 ro10 := ⟨Try.f10, _, Try.func10, by kernel_rfl, rfl, rfl, by kernel_rfl, by kernel_rfl, by decide⟩

theorem con10 (c : Bool) (m : Md) (xs : List Ev) (x : Int) (h3 : xs.length ≤ 9223372036854775807) (hL : LenE xs 9223372036854775807) : Con Try.prog 10 true [.agg (mdR c m xs), .int .i64 x] (.bool true) [] := by
  classical
  refine con_of_wp mixed fun10 (by simp) [] plain_nil ?_
  unfold ac10 ro10
  simp only [zipT]
  have c1 := con11 c m xs h3 hL 1048576 (by decide) (by decide)
  by_cases hD2 : szD 1048576 xs < 0
  · rw [if_pos hD2] at c1
    repeat (first | refine wG_call c1 rfl rfl ?_ | (first
    | refine wC_a rfl ?_
    | refine q_s rfl ?_
    | refine q_b rfl ?_
    | refine wG_nil ?_
    | refine wG_g rfl ?_
    | refine wG_pure (o_len_vwm rfl) ?_
    | refine wG_pure (o_not_d rfl) ?_
    | refine wG_p rfl (by first | exact rfl | omega) ?_
    | refine wG_pure (o_str2 rfl rfl rfl) ?_
    | refine wG_pure (e_istr rfl rfl (by omega)) ?_
    | refine wG_pure (e_istr0 rfl rfl (by omega)) ?_
    | refine wG_pure (o_not rfl) ?_
    | refine wG_pure (e_ia_vw0 rfl rfl (by omega) rfl) ?_
    | refine wG_pure (e_ia_vwp rfl rfl (by omega) rfl) ?_
    | refine wG_pure (e_ia_vwm rfl rfl (by omega) (by omega) rfl) ?_
    | refine wG_pure (e_ia_vwi rfl rfl (by omega) rfl) ?_
    | refine wG_pure (e_ia_vwn rfl rfl (by omega) (by omega) rfl) ?_
    | refine wG_n rfl rfl ?_
    | refine wG_u rfl rfl ?_
    | refine wG_new (o_mks rfl rfl (by omega) (by decide)) ?_))
    exact ret_boolE (.inr rfl) ⟨_, retV_mv rfl, rfl⟩
  rw [if_neg hD2] at c1
  obtain ⟨s4, s5, s6⟩ := szD_ok (Int.not_lt.1 hD2)
  have h3' : xs.length ≤ 1048576 := by omega
  have hL' : LenE xs 1048576 := fun i hi => by have := s5 i hi; omega
  have h3t : (tE xs).length ≤ 1048576 := by rw [tE_len]; exact h3'
  have hLt := hL'.t
  have cT := con13 c m xs h3' hL'
  have hdi := di36 m (tE xs) x h3t hLt
  have cE := con15 true true m (tE xs) h3t hLt
  have hlen := teO_len xs
  have hS : sL xs xs.length ≤ 1048576 := by have := szD_sum (Int.not_lt.1 hD2); omega
  have d0 : decide (szD 1048576 xs < 0) = false := decide_eq_false hD2
  repeat (first | refine wG_call c1 rfl rfl ?_ | (first
    | refine wC_a rfl ?_
    | refine q_s rfl ?_
    | refine q_b rfl ?_
    | refine wG_nil ?_
    | refine wG_g rfl ?_
    | refine wG_pure (o_len_vwm rfl) ?_
    | refine wG_pure (o_not_d rfl) ?_
    | refine wG_p rfl (by first | exact rfl | omega) ?_
    | refine wG_pure (o_str2 rfl rfl rfl) ?_
    | refine wG_pure (e_istr rfl rfl (by omega)) ?_
    | refine wG_pure (e_istr0 rfl rfl (by omega)) ?_
    | refine wG_pure (o_not rfl) ?_
    | refine wG_pure (e_ia_vw0 rfl rfl (by omega) rfl) ?_
    | refine wG_pure (e_ia_vwp rfl rfl (by omega) rfl) ?_
    | refine wG_pure (e_ia_vwm rfl rfl (by omega) (by omega) rfl) ?_
    | refine wG_pure (e_ia_vwi rfl rfl (by omega) rfl) ?_
    | refine wG_pure (e_ia_vwn rfl rfl (by omega) (by omega) rfl) ?_
    | refine wG_n rfl rfl ?_
    | refine wG_u rfl rfl ?_
    | refine wG_new (o_mks rfl rfl (by omega) (by decide)) ?_))
  simp only [d0]
  repeat (first
    | refine wC_a rfl ?_
    | refine q_s rfl ?_
    | refine q_b rfl ?_
    | refine wG_nil ?_
    | refine wG_g rfl ?_
    | refine wG_pure (o_len_vwm rfl) ?_
    | refine wG_pure (o_not_d rfl) ?_
    | refine wG_p rfl (by first | exact rfl | omega) ?_
    | refine wG_pure (o_str2 rfl rfl rfl) ?_
    | refine wG_pure (e_istr rfl rfl (by omega)) ?_
    | refine wG_pure (e_istr0 rfl rfl (by omega)) ?_
    | refine wG_pure (o_not rfl) ?_
    | refine wG_pure (e_ia_vw0 rfl rfl (by omega) rfl) ?_
    | refine wG_pure (e_ia_vwp rfl rfl (by omega) rfl) ?_
    | refine wG_pure (e_ia_vwm rfl rfl (by omega) (by omega) rfl) ?_
    | refine wG_pure (e_ia_vwi rfl rfl (by omega) rfl) ?_
    | refine wG_pure (e_ia_vwn rfl rfl (by omega) (by omega) rfl) ?_
    | refine wG_n rfl rfl ?_
    | refine wG_u rfl rfl ?_
    | refine wG_new (o_mks rfl rfl (by omega) (by decide)) ?_)
  refine wG_callG (v' := mdV 1 m xs) cT rfl rfl rfl ?_
  change wpG _ _ _ ⟨_, mdH 1 xs _, _⟩ _
  obtain ⟨y1, hy1⟩ : ∃ y1, 0 + 1 + (teO xs).length = y1 := ⟨_, rfl⟩
  rw [hy1]
  have sM := fun {h h' nr p} => @sh_mdm m xs h3' hS h h' nr p
  obtain ⟨K, hK0, hK⟩ : ∃ K : Int, 0 ≤ K ∧ 1 + 3 * (xs.length : Int) + (sL xs xs.length : Int) = K := ⟨_, by omega, rfl⟩
  simp only [hK] at sM
  have dK : decide (K < 0) = false := decide_eq_false (by omega)
  rcases hdi with ⟨f, vs, hv60, cS, cI⟩ | ⟨cS, cI⟩
  · have hd : vs.length ≤ 1048576 := by omega
    have c5 := con20_same true true ⟨f, vs⟩ hd
    have c6 := con24 true f vs.length 1 hd (by decide) (by decide)
    have sm := fun h nr r => @sh23 ⟨f, vs⟩ 1 hd (by decide) (by decide) h nr r
    unfold dRow at c5
    simp only at c5 sm
    repeat (first | refine wG_call1 cS (ag_any (dr_md m xs (fun i rows hi => mdH_in hi)) (ag_int rfl ag_nil)) rfl ?_ | refine wG_upd (o_st_agg rfl hg_here rfl rfl rfl rfl rfl) ?_ | (first
    | refine wC_a rfl ?_
    | refine q_s rfl ?_
    | refine q_b rfl ?_
    | refine wG_nil ?_
    | refine wG_g rfl ?_
    | refine wG_pure (o_len_vwm rfl) ?_
    | refine wG_pure (o_not_d rfl) ?_
    | refine wG_p rfl (by first | exact rfl | omega) ?_
    | refine wG_pure (o_str2 rfl rfl rfl) ?_
    | refine wG_pure (e_istr rfl rfl (by omega)) ?_
    | refine wG_pure (e_istr0 rfl rfl (by omega)) ?_
    | refine wG_pure (o_not rfl) ?_
    | refine wG_pure (e_ia_vw0 rfl rfl (by omega) rfl) ?_
    | refine wG_pure (e_ia_vwp rfl rfl (by omega) rfl) ?_
    | refine wG_pure (e_ia_vwm rfl rfl (by omega) (by omega) rfl) ?_
    | refine wG_pure (e_ia_vwi rfl rfl (by omega) rfl) ?_
    | refine wG_pure (e_ia_vwn rfl rfl (by omega) (by omega) rfl) ?_
    | refine wG_n rfl rfl ?_
    | refine wG_u rfl rfl ?_
    | refine wG_new (o_mks rfl rfl (by omega) (by decide)) ?_))
    refine wG_pure (o_ldt_pt rfl (hg_skip (by omega) (hg_skip (by omega) (hg_skip (by omega) (mdH_out (by omega) rfl)))) rfl rfl rfl) ?_
    refine wG_callG (v' := mdV (y1 + 1 + 1) m xs) cT rfl rfl rfl ?_
    change wpG _ _ _ ⟨_, mdH (y1 + 1 + 1) xs _, _⟩ _
    obtain ⟨b0, hb0⟩ : ∃ b0, y1 + 1 + 1 + (teO xs).length = b0 := ⟨_, rfl⟩
    rw [hb0]
    have hx0 : ∀ {v1 v2 : Option Ab.Rows} {h : List (Nat × Option Ab.Rows)} (i : Nat) (rows : Ab.Rows), (teO xs)[i]? = some rows → hg ((b0, v1) :: (b0, v2) :: mdH (y1 + 1 + 1) xs h) (y1 + 1 + 1 + i) = some (shR (y1 + 1 + 1) rows) := fun i rows hi => by
      have := teO_lt hi
      exact hg_skip (by omega) (hg_skip (by omega) (mdH_in hi))
    have hx1 : ∀ {w0 w0' v0 v1 v2 : Option Ab.Rows} {h : List (Nat × Option Ab.Rows)} (i : Nat) (rows : Ab.Rows), (teO xs)[i]? = some rows → hg (mdH (b0 + 1 + 1 + 1) xs ((b0 + 1 + 1, w0) :: (b0 + 1 + 1, w0') :: (b0 + 1, v0) :: (b0, v1) :: (b0, v2) :: mdH (y1 + 1 + 1) xs h)) (y1 + 1 + 1 + i) = some (shR (y1 + 1 + 1) rows) := fun i rows hi => by
      have := teO_lt hi
      exact mdH_out (by omega) (hg_skip (by omega) (hg_skip (by omega) (hg_skip (by omega) (hx0 i rows hi))))
    have n1 : b0 ≠ b0 + 1 := by omega
    have n2 : b0 ≠ b0 + 1 + 1 := by omega
    have n3 : b0 + 1 ≠ b0 + 1 + 1 := by omega
    have n3' : b0 + 1 + 1 ≠ b0 + 1 := by omega
    have m1 : y1 ≠ y1 + 1 := by omega
    repeat (first | refine wC_dregE ?_ | refine wG_upd (o_st_agg rfl hg_here rfl rfl rfl rfl rfl) ?_ | refine wG_pure (o_ldt_pt rfl hg_here rfl rfl rfl) ?_ | refine wG_pure (o_ldt_pt rfl (hg_skip (by omega) (hg_skip (by omega) (hg_skip (by omega) (hg_skip (by omega) (hg_skip (by omega) (mdH_out (by omega) hg_here)))))) rfl rfl rfl) ?_ | refine wG_call1 cI (ag_any (dr_md m xs hx0) (ag_int rfl ag_nil)) rfl ?_ | refine wG_call c5 (ag_is rfl (hg_skip n3 (hg_skip n3 hg_here)) rfl iRow_plain (ag_is rfl (hg_skip (by omega) (hg_skip (by omega) (hg_skip (by omega) (hg_skip (by omega) (hg_skip (by omega) (mdH_out (by omega) (hg_skip m1 (hg_skip m1 hg_here)))))))) rfl iRow_plain ag_nil)) rfl ?_ | refine wE_v (o_ldt_pt rfl (hg_skip n2 (hg_skip n2 (hg_skip n1 hg_here))) rfl rfl rfl) rfl ?_ | refine wE_v (o_ldt_pt rfl (hg_skip (by omega) (hg_skip (by omega) (hg_skip (by omega) (hg_skip (by omega) (hg_skip (by omega) (mdH_out (by omega) (hg_skip (by omega) (hg_skip (by omega) (hg_skip (by omega) (mdH_out (by omega) rfl)))))))))) rfl rfl rfl) rfl ?_ | refine wE_callG (v' := mdV (b0 + 1 + 1 + 1) m xs) cT rfl rfl rfl rfl ?_ | refine wE_call cE (ag_any (dr_md m xs hx1) (ag_any (dr_md m xs (fun i rows hi => mdH_in hi)) ag_nil)) rfl rfl ?_ | refine wE_nil (hok5 (djB_mkh (by omega))) ?_ | (first
    | refine wC_a rfl ?_
    | refine q_s rfl ?_
    | refine q_b rfl ?_
    | refine wG_nil ?_
    | refine wG_g rfl ?_
    | refine wG_pure (o_len_vwm rfl) ?_
    | refine wG_pure (o_not_d rfl) ?_
    | refine wG_p rfl (by first | exact rfl | omega) ?_
    | refine wG_pure (o_str2 rfl rfl rfl) ?_
    | refine wG_pure (e_istr rfl rfl (by omega)) ?_
    | refine wG_pure (e_istr0 rfl rfl (by omega)) ?_
    | refine wG_pure (o_not rfl) ?_
    | refine wG_pure (e_ia_vw0 rfl rfl (by omega) rfl) ?_
    | refine wG_pure (e_ia_vwp rfl rfl (by omega) rfl) ?_
    | refine wG_pure (e_ia_vwm rfl rfl (by omega) (by omega) rfl) ?_
    | refine wG_pure (e_ia_vwi rfl rfl (by omega) rfl) ?_
    | refine wG_pure (e_ia_vwn rfl rfl (by omega) (by omega) rfl) ?_
    | refine wG_n rfl rfl ?_
    | refine wG_u rfl rfl ?_
    | refine wG_new (o_mks rfl rfl (by omega) (by decide)) ?_) | (first
    | refine wE_nil (by kernel_rfl) ?_
    | refine wE_gy rfl ?_
    | refine wE_gn rfl rfl rfl ?_
    | refine wE_gu rfl rfl ?_
    | refine wE_gnn rfl rfl rfl ?_
    | refine wE_v (o_len_vwm rfl) rfl ?_
    | refine wE_v (o_not_d rfl) rfl ?_
    | refine wE_p rfl (by first | exact rfl | omega) rfl ?_
    | refine wE_v (o_str2 rfl rfl rfl) rfl ?_
    | refine wE_v (e_istr rfl rfl (by omega)) rfl ?_
    | refine wE_v (e_istr0 rfl rfl (by omega)) rfl ?_
    | refine wE_v (o_not rfl) rfl ?_
    | refine wE_v (e_ia_vw0 rfl rfl (by omega) rfl) rfl ?_
    | refine wE_v (e_ia_vwp rfl rfl (by omega) rfl) rfl ?_
    | refine wE_v (e_ia_vwm rfl rfl (by omega) (by omega) rfl) rfl ?_
    | refine wE_v (e_ia_vwi rfl rfl (by omega) rfl) rfl ?_
    | refine wE_v (e_ia_vwn rfl rfl (by omega) (by omega) rfl) rfl ?_
    | refine wE_n rfl rfl rfl ?_
    | refine wE_u rfl rfl rfl ?_
    | refine wE_new (o_mks rfl rfl (by omega) (by decide)) rfl ?_))
    refine wG_pure (o_ldt_pt rfl (mdH_out (by omega) (hg_skip n2 (hg_skip n2 (hg_skip n1 hg_here)))) rfl rfl rfl) ?_
    repeat (first
    | refine wC_a rfl ?_
    | refine q_s rfl ?_
    | refine q_b rfl ?_
    | refine wG_nil ?_
    | refine wG_g rfl ?_
    | refine wG_pure (o_len_vwm rfl) ?_
    | refine wG_pure (o_not_d rfl) ?_
    | refine wG_p rfl (by first | exact rfl | omega) ?_
    | refine wG_pure (o_str2 rfl rfl rfl) ?_
    | refine wG_pure (e_istr rfl rfl (by omega)) ?_
    | refine wG_pure (e_istr0 rfl rfl (by omega)) ?_
    | refine wG_pure (o_not rfl) ?_
    | refine wG_pure (e_ia_vw0 rfl rfl (by omega) rfl) ?_
    | refine wG_pure (e_ia_vwp rfl rfl (by omega) rfl) ?_
    | refine wG_pure (e_ia_vwm rfl rfl (by omega) (by omega) rfl) ?_
    | refine wG_pure (e_ia_vwi rfl rfl (by omega) rfl) ?_
    | refine wG_pure (e_ia_vwn rfl rfl (by omega) (by omega) rfl) ?_
    | refine wG_n rfl rfl ?_
    | refine wG_u rfl rfl ?_
    | refine wG_new (o_mks rfl rfl (by omega) (by decide)) ?_)
    refine wG_callS (sM (p := y1 + 1 + 1) (h' := [(b0 + 1 + 1, some [[.int .i64 f, .sl (b0 + 1) 1 0 vs.length]]), (b0 + 1, some (vs.map iRow)), (y1 + 1, some [[.int .i64 f, .sl y1 1 0 vs.length]]), (y1, some (vs.map iRow)), (0, some [mdR c m xs])]) (fun i rows hi => hx1 i rows hi) (by omega) (wfH_cons (by omega) (by simp [AV.ltr]; omega) (wfH_cons (by omega) (ltrI _ _) (wfH_cons (by omega) (by simp [AV.ltr]; omega) (wfH_cons (by omega) (ltrI _ _) (wfH_cons (by omega) (mdR_ltr1' _) wfH_nil))))) (fun q rows hq => ?_)) rfl ?_
    · have hm := hg_memL _ hq
      simp only [List.mem_cons, List.not_mem_nil, or_false, Prod.mk.injEq, Option.some.injEq] at hm
      rcases hm with ⟨rfl, rfl⟩ | ⟨rfl, rfl⟩ | ⟨rfl, rfl⟩ | ⟨rfl, rfl⟩ | ⟨rfl, rfl⟩
      · exact ⟨mdH_out (by omega) hg_here, .inr (by omega)⟩
      · exact ⟨mdH_out (by omega) (hg_skip n3 (hg_skip n3 hg_here)), .inr (by omega)⟩
      · exact ⟨mdH_out (by omega) (hg_skip (by omega) (hg_skip (by omega) (hg_skip (by omega) (hg_skip (by omega) (hg_skip (by omega) (mdH_out (by omega) hg_here)))))), .inl (by omega)⟩
      · exact ⟨mdH_out (by omega) (hg_skip (by omega) (hg_skip (by omega) (hg_skip (by omega) (hg_skip (by omega) (hg_skip (by omega) (mdH_out (by omega) (hg_skip m1 (hg_skip m1 hg_here)))))))), .inl (by omega)⟩
      · exact ⟨mdH_out (by omega) (hg_skip (by omega) (hg_skip (by omega) (hg_skip (by omega) (hg_skip (by omega) (hg_skip (by omega) (mdH_out (by omega) (hg_skip (by omega) (hg_skip (by omega) (hg_skip (by omega) (mdH_out (by omega) rfl)))))))))), .inl (by omega)⟩
    obtain ⟨c0, hc0, hbc⟩ : ∃ c0, b0 + 1 + 1 + 1 + (teO xs).length + 1 = c0 ∧ b0 + 1 + 1 < c0 := ⟨_, rfl, by omega⟩
    rw [hc0]
    have q1 : y1 + 1 ≠ b0 + 1 + 1 := by omega
    have q2 : y1 + 1 ≠ b0 + 1 := by omega
    have q3 : y1 ≠ b0 + 1 + 1 := by omega
    have q4 : y1 ≠ b0 + 1 := by omega
    have z1 : 0 ≠ b0 + 1 + 1 := by omega
    have z2 : 0 ≠ b0 + 1 := by omega
    have z3 : 0 ≠ y1 + 1 := by omega
    have z4 : 0 ≠ y1 := by omega
    repeat (first
    | refine wC_a rfl ?_
    | refine q_s rfl ?_
    | refine q_b rfl ?_
    | refine wG_nil ?_
    | refine wG_g rfl ?_
    | refine wG_pure (o_len_vwm rfl) ?_
    | refine wG_pure (o_not_d rfl) ?_
    | refine wG_p rfl (by first | exact rfl | omega) ?_
    | refine wG_pure (o_str2 rfl rfl rfl) ?_
    | refine wG_pure (e_istr rfl rfl (by omega)) ?_
    | refine wG_pure (e_istr0 rfl rfl (by omega)) ?_
    | refine wG_pure (o_not rfl) ?_
    | refine wG_pure (e_ia_vw0 rfl rfl (by omega) rfl) ?_
    | refine wG_pure (e_ia_vwp rfl rfl (by omega) rfl) ?_
    | refine wG_pure (e_ia_vwm rfl rfl (by omega) (by omega) rfl) ?_
    | refine wG_pure (e_ia_vwi rfl rfl (by omega) rfl) ?_
    | refine wG_pure (e_ia_vwn rfl rfl (by omega) (by omega) rfl) ?_
    | refine wG_n rfl rfl ?_
    | refine wG_u rfl rfl ?_
    | refine wG_new (o_mks rfl rfl (by omega) (by decide)) ?_)
    simp only [dK]
    repeat (first | refine wG_pure (o_ldt_pt rfl hg_here rfl rfl rfl) ?_ | refine wG_pure (o_ldt_pt rfl (hg_skip q1 (hg_skip q2 hg_here)) rfl rfl rfl) ?_ | refine wG_call c5 (ag_is rfl (hg_skip n3 hg_here) rfl iRow_plain (ag_is rfl (hg_skip q3 (hg_skip q4 (hg_skip m1 hg_here))) rfl iRow_plain ag_nil)) rfl ?_ | (refine wG_callS (f := 23) (sm _ _ _ (hg_skip n3 hg_here) (wfH_cons hbc (by simp [AV.ltr]; omega) (wfH_cons (by omega) (ltrI _ _) (wfH_cons (by omega) (by simp [AV.ltr]; omega) (wfH_cons (by omega) (ltrI _ _) (wfH_cons (by omega) (mdR_ltr1' _) wfH_nil)))))) rfl ?_) | refine wG_pure (o_ldt_pt rfl (hg_skip n3' hg_here) rfl rfl rfl) ?_ | refine wG_call c6 (ag_is rfl hg_here (mks_len _ _).symm iRow_plain (ag_int rfl ag_nil)) rfl ?_ | (first
    | refine wC_a rfl ?_
    | refine q_s rfl ?_
    | refine q_b rfl ?_
    | refine wG_nil ?_
    | refine wG_g rfl ?_
    | refine wG_pure (o_len_vwm rfl) ?_
    | refine wG_pure (o_not_d rfl) ?_
    | refine wG_p rfl (by first | exact rfl | omega) ?_
    | refine wG_pure (o_str2 rfl rfl rfl) ?_
    | refine wG_pure (e_istr rfl rfl (by omega)) ?_
    | refine wG_pure (e_istr0 rfl rfl (by omega)) ?_
    | refine wG_pure (o_not rfl) ?_
    | refine wG_pure (e_ia_vw0 rfl rfl (by omega) rfl) ?_
    | refine wG_pure (e_ia_vwp rfl rfl (by omega) rfl) ?_
    | refine wG_pure (e_ia_vwm rfl rfl (by omega) (by omega) rfl) ?_
    | refine wG_pure (e_ia_vwi rfl rfl (by omega) rfl) ?_
    | refine wG_pure (e_ia_vwn rfl rfl (by omega) (by omega) rfl) ?_
    | refine wG_n rfl rfl ?_
    | refine wG_u rfl rfl ?_
    | refine wG_new (o_mks rfl rfl (by omega) (by decide)) ?_))
    have dM : decide (1 + (vs.length : Int) < 0) = false := decide_eq_false (by omega)
    have dN : decide (1 + (vs.length : Int) ≠ 1 + (vs.length : Int)) = false := decide_eq_false (fun h => h rfl)
    simp only [dM]
    repeat (first
    | refine wC_a rfl ?_
    | refine q_s rfl ?_
    | refine q_b rfl ?_
    | refine wG_nil ?_
    | refine wG_g rfl ?_
    | refine wG_pure (o_len_vwm rfl) ?_
    | refine wG_pure (o_not_d rfl) ?_
    | refine wG_p rfl (by first | exact rfl | omega) ?_
    | refine wG_pure (o_str2 rfl rfl rfl) ?_
    | refine wG_pure (e_istr rfl rfl (by omega)) ?_
    | refine wG_pure (e_istr0 rfl rfl (by omega)) ?_
    | refine wG_pure (o_not rfl) ?_
    | refine wG_pure (e_ia_vw0 rfl rfl (by omega) rfl) ?_
    | refine wG_pure (e_ia_vwp rfl rfl (by omega) rfl) ?_
    | refine wG_pure (e_ia_vwm rfl rfl (by omega) (by omega) rfl) ?_
    | refine wG_pure (e_ia_vwi rfl rfl (by omega) rfl) ?_
    | refine wG_pure (e_ia_vwn rfl rfl (by omega) (by omega) rfl) ?_
    | refine wG_n rfl rfl ?_
    | refine wG_u rfl rfl ?_
    | refine wG_new (o_mks rfl rfl (by omega) (by decide)) ?_)
    simp only [dN]
    repeat (first
    | refine wC_a rfl ?_
    | refine q_s rfl ?_
    | refine q_b rfl ?_
    | refine wG_nil ?_
    | refine wG_g rfl ?_
    | refine wG_pure (o_len_vwm rfl) ?_
    | refine wG_pure (o_not_d rfl) ?_
    | refine wG_p rfl (by first | exact rfl | omega) ?_
    | refine wG_pure (o_str2 rfl rfl rfl) ?_
    | refine wG_pure (e_istr rfl rfl (by omega)) ?_
    | refine wG_pure (e_istr0 rfl rfl (by omega)) ?_
    | refine wG_pure (o_not rfl) ?_
    | refine wG_pure (e_ia_vw0 rfl rfl (by omega) rfl) ?_
    | refine wG_pure (e_ia_vwp rfl rfl (by omega) rfl) ?_
    | refine wG_pure (e_ia_vwm rfl rfl (by omega) (by omega) rfl) ?_
    | refine wG_pure (e_ia_vwi rfl rfl (by omega) rfl) ?_
    | refine wG_pure (e_ia_vwn rfl rfl (by omega) (by omega) rfl) ?_
    | refine wG_n rfl rfl ?_
    | refine wG_u rfl rfl ?_
    | refine wG_new (o_mks rfl rfl (by omega) (by decide)) ?_)
    refine wG_pure (o_ldt_pt rfl (hg_skip z2 (hg_skip z1 (hg_skip z2 (hg_skip z3 (hg_skip z4 hg_here))))) rfl rfl rfl) ?_
    refine wG_callG (v' := mdV c0 m xs) cT rfl rfl rfl ?_
    change wpG _ _ _ ⟨_, mdH c0 xs _, _⟩ _
    obtain ⟨d1, hd1⟩ : ∃ d1, c0 + (teO xs).length = d1 := ⟨_, rfl⟩
    rw [hd1]
    have w1 : d1 ≠ d1 + 1 := by omega
    have w2 : b0 + 1 ≠ d1 := by omega
    have w3 : b0 + 1 ≠ d1 + 1 := by omega
    have w4 : b0 + 1 + 1 ≠ d1 := by omega
    have w5 : b0 + 1 + 1 ≠ d1 + 1 := by omega
    repeat (first | refine wG_call1 cI (ag_any (dr_md m xs (fun i rows hi => mdH_in hi)) (ag_int rfl ag_nil)) rfl ?_ | refine wG_upd (o_st_agg rfl hg_here rfl rfl rfl rfl rfl) ?_ | refine wG_pure (o_ldt_pt rfl hg_here rfl rfl rfl) ?_ | refine wG_pure (o_ldt_pt rfl (hg_skip (by omega) (hg_skip (by omega) (hg_skip (by omega) (mdH_out (by omega) (hg_skip q2 (hg_skip q1 (hg_skip q2 hg_here))))))) rfl rfl rfl) ?_ | refine wG_call c5 (ag_is rfl (hg_skip w1 (hg_skip w1 hg_here)) rfl iRow_plain (ag_is rfl (hg_skip (by omega) (hg_skip (by omega) (hg_skip (by omega) (mdH_out (by omega) (hg_skip q4 (hg_skip q3 (hg_skip q4 (hg_skip m1 hg_here)))))))) rfl iRow_plain ag_nil)) rfl ?_ | refine wG_pure (o_ldt_pt rfl (hg_skip w5 (hg_skip w5 (hg_skip w4 (mdH_out (by omega) (hg_skip n3' hg_here))))) rfl rfl rfl) ?_ | refine wG_call c6 (ag_is rfl (hg_skip w3 (hg_skip w3 (hg_skip w2 (mdH_out (by omega) hg_here)))) (mks_len _ _).symm iRow_plain (ag_int rfl ag_nil)) rfl ?_ | (first
    | refine wC_a rfl ?_
    | refine q_s rfl ?_
    | refine q_b rfl ?_
    | refine wG_nil ?_
    | refine wG_g rfl ?_
    | refine wG_pure (o_len_vwm rfl) ?_
    | refine wG_pure (o_not_d rfl) ?_
    | refine wG_p rfl (by first | exact rfl | omega) ?_
    | refine wG_pure (o_str2 rfl rfl rfl) ?_
    | refine wG_pure (e_istr rfl rfl (by omega)) ?_
    | refine wG_pure (e_istr0 rfl rfl (by omega)) ?_
    | refine wG_pure (o_not rfl) ?_
    | refine wG_pure (e_ia_vw0 rfl rfl (by omega) rfl) ?_
    | refine wG_pure (e_ia_vwp rfl rfl (by omega) rfl) ?_
    | refine wG_pure (e_ia_vwm rfl rfl (by omega) (by omega) rfl) ?_
    | refine wG_pure (e_ia_vwi rfl rfl (by omega) rfl) ?_
    | refine wG_pure (e_ia_vwn rfl rfl (by omega) (by omega) rfl) ?_
    | refine wG_n rfl rfl ?_
    | refine wG_u rfl rfl ?_
    | refine wG_new (o_mks rfl rfl (by omega) (by decide)) ?_))
    simp only [dM]
    repeat (first
    | refine wC_a rfl ?_
    | refine q_s rfl ?_
    | refine q_b rfl ?_
    | refine wG_nil ?_
    | refine wG_g rfl ?_
    | refine wG_pure (o_len_vwm rfl) ?_
    | refine wG_pure (o_not_d rfl) ?_
    | refine wG_p rfl (by first | exact rfl | omega) ?_
    | refine wG_pure (o_str2 rfl rfl rfl) ?_
    | refine wG_pure (e_istr rfl rfl (by omega)) ?_
    | refine wG_pure (e_istr0 rfl rfl (by omega)) ?_
    | refine wG_pure (o_not rfl) ?_
    | refine wG_pure (e_ia_vw0 rfl rfl (by omega) rfl) ?_
    | refine wG_pure (e_ia_vwp rfl rfl (by omega) rfl) ?_
    | refine wG_pure (e_ia_vwm rfl rfl (by omega) (by omega) rfl) ?_
    | refine wG_pure (e_ia_vwi rfl rfl (by omega) rfl) ?_
    | refine wG_pure (e_ia_vwn rfl rfl (by omega) (by omega) rfl) ?_
    | refine wG_n rfl rfl ?_
    | refine wG_u rfl rfl ?_
    | refine wG_new (o_mks rfl rfl (by omega) (by decide)) ?_)
    simp only [dN]
    repeat (first
    | refine wC_a rfl ?_
    | refine q_s rfl ?_
    | refine q_b rfl ?_
    | refine wG_nil ?_
    | refine wG_g rfl ?_
    | refine wG_pure (o_len_vwm rfl) ?_
    | refine wG_pure (o_not_d rfl) ?_
    | refine wG_p rfl (by first | exact rfl | omega) ?_
    | refine wG_pure (o_str2 rfl rfl rfl) ?_
    | refine wG_pure (e_istr rfl rfl (by omega)) ?_
    | refine wG_pure (e_istr0 rfl rfl (by omega)) ?_
    | refine wG_pure (o_not rfl) ?_
    | refine wG_pure (e_ia_vw0 rfl rfl (by omega) rfl) ?_
    | refine wG_pure (e_ia_vwp rfl rfl (by omega) rfl) ?_
    | refine wG_pure (e_ia_vwm rfl rfl (by omega) (by omega) rfl) ?_
    | refine wG_pure (e_ia_vwi rfl rfl (by omega) rfl) ?_
    | refine wG_pure (e_ia_vwn rfl rfl (by omega) (by omega) rfl) ?_
    | refine wG_n rfl rfl ?_
    | refine wG_u rfl rfl ?_
    | refine wG_new (o_mks rfl rfl (by omega) (by decide)) ?_)
    exact ret_boolE (.inr rfl) ⟨_, retV_mv rfl, rfl⟩
  · have c5 := eqD_no
    have c6 := heldD_no
    have c7 := con23_nil 0 1
    repeat (first | refine wG_call cS (ag_any (dr_md m xs (fun i rows hi => mdH_in hi)) (ag_int rfl ag_nil)) rfl ?_ | refine wG_upd (o_st_agg rfl hg_here rfl rfl rfl rfl rfl) ?_ | (first
    | refine wC_a rfl ?_
    | refine q_s rfl ?_
    | refine q_b rfl ?_
    | refine wG_nil ?_
    | refine wG_g rfl ?_
    | refine wG_pure (o_len_vwm rfl) ?_
    | refine wG_pure (o_not_d rfl) ?_
    | refine wG_p rfl (by first | exact rfl | omega) ?_
    | refine wG_pure (o_str2 rfl rfl rfl) ?_
    | refine wG_pure (e_istr rfl rfl (by omega)) ?_
    | refine wG_pure (e_istr0 rfl rfl (by omega)) ?_
    | refine wG_pure (o_not rfl) ?_
    | refine wG_pure (e_ia_vw0 rfl rfl (by omega) rfl) ?_
    | refine wG_pure (e_ia_vwp rfl rfl (by omega) rfl) ?_
    | refine wG_pure (e_ia_vwm rfl rfl (by omega) (by omega) rfl) ?_
    | refine wG_pure (e_ia_vwi rfl rfl (by omega) rfl) ?_
    | refine wG_pure (e_ia_vwn rfl rfl (by omega) (by omega) rfl) ?_
    | refine wG_n rfl rfl ?_
    | refine wG_u rfl rfl ?_
    | refine wG_new (o_mks rfl rfl (by omega) (by decide)) ?_))
    refine wG_pure (o_ldt_pt rfl (hg_skip (by omega) (hg_skip (by omega) (mdH_out (by omega) rfl))) rfl rfl rfl) ?_
    refine wG_callG (v' := mdV (y1 + 1) m xs) cT rfl rfl rfl ?_
    change wpG _ _ _ ⟨_, mdH (y1 + 1) xs _, _⟩ _
    obtain ⟨b0, hb0⟩ : ∃ b0, y1 + 1 + (teO xs).length = b0 := ⟨_, rfl⟩
    rw [hb0]
    have hx0 : ∀ {v1 v2 : Option Ab.Rows} {h : List (Nat × Option Ab.Rows)} (i : Nat) (rows : Ab.Rows), (teO xs)[i]? = some rows → hg ((b0, v1) :: (b0, v2) :: mdH (y1 + 1) xs h) (y1 + 1 + i) = some (shR (y1 + 1) rows) := fun i rows hi => by
      have := teO_lt hi
      exact hg_skip (by omega) (hg_skip (by omega) (mdH_in hi))
    have hx1 : ∀ {w0 w0' v1 v2 : Option Ab.Rows} {h : List (Nat × Option Ab.Rows)} (i : Nat) (rows : Ab.Rows), (teO xs)[i]? = some rows → hg (mdH (b0 + 1 + 1) xs ((b0 + 1, w0) :: (b0 + 1, w0') :: (b0, v1) :: (b0, v2) :: mdH (y1 + 1) xs h)) (y1 + 1 + i) = some (shR (y1 + 1) rows) := fun i rows hi => by
      have := teO_lt hi
      exact mdH_out (by omega) (hg_skip (by omega) (hg_skip (by omega) (hx0 i rows hi)))
    have n1 : b0 ≠ b0 + 1 := by omega
    repeat (first | refine wC_dregE ?_ | refine wG_upd (o_st_agg rfl hg_here rfl rfl rfl rfl rfl) ?_ | refine wG_pure (o_ldt_pt rfl hg_here rfl rfl rfl) ?_ | refine wG_pure (o_ldt_pt rfl (hg_skip (by omega) (hg_skip (by omega) (hg_skip (by omega) (hg_skip (by omega) (mdH_out (by omega) hg_here))))) rfl rfl rfl) ?_ | refine wG_call cI (ag_any (dr_md m xs hx0) (ag_int rfl ag_nil)) rfl ?_ | refine wG_call c5 rfl rfl ?_ | refine wE_v (o_ldt_pt rfl (hg_skip n1 (hg_skip n1 hg_here)) rfl rfl rfl) rfl ?_ | refine wE_v (o_ldt_pt rfl (hg_skip (by omega) (hg_skip (by omega) (hg_skip (by omega) (hg_skip (by omega) (mdH_out (by omega) (hg_skip (by omega) (hg_skip (by omega) (mdH_out (by omega) rfl)))))))) rfl rfl rfl) rfl ?_ | refine wE_callG (v' := mdV (b0 + 1 + 1) m xs) cT rfl rfl rfl rfl ?_ | refine wE_call cE (ag_any (dr_md m xs hx1) (ag_any (dr_md m xs (fun i rows hi => mdH_in hi)) ag_nil)) rfl rfl ?_ | refine wE_nil (hok5 (djB_mkh (by omega))) ?_ | (first
    | refine wC_a rfl ?_
    | refine q_s rfl ?_
    | refine q_b rfl ?_
    | refine wG_nil ?_
    | refine wG_g rfl ?_
    | refine wG_pure (o_len_vwm rfl) ?_
    | refine wG_pure (o_not_d rfl) ?_
    | refine wG_p rfl (by first | exact rfl | omega) ?_
    | refine wG_pure (o_str2 rfl rfl rfl) ?_
    | refine wG_pure (e_istr rfl rfl (by omega)) ?_
    | refine wG_pure (e_istr0 rfl rfl (by omega)) ?_
    | refine wG_pure (o_not rfl) ?_
    | refine wG_pure (e_ia_vw0 rfl rfl (by omega) rfl) ?_
    | refine wG_pure (e_ia_vwp rfl rfl (by omega) rfl) ?_
    | refine wG_pure (e_ia_vwm rfl rfl (by omega) (by omega) rfl) ?_
    | refine wG_pure (e_ia_vwi rfl rfl (by omega) rfl) ?_
    | refine wG_pure (e_ia_vwn rfl rfl (by omega) (by omega) rfl) ?_
    | refine wG_n rfl rfl ?_
    | refine wG_u rfl rfl ?_
    | refine wG_new (o_mks rfl rfl (by omega) (by decide)) ?_) | (first
    | refine wE_nil (by kernel_rfl) ?_
    | refine wE_gy rfl ?_
    | refine wE_gn rfl rfl rfl ?_
    | refine wE_gu rfl rfl ?_
    | refine wE_gnn rfl rfl rfl ?_
    | refine wE_v (o_len_vwm rfl) rfl ?_
    | refine wE_v (o_not_d rfl) rfl ?_
    | refine wE_p rfl (by first | exact rfl | omega) rfl ?_
    | refine wE_v (o_str2 rfl rfl rfl) rfl ?_
    | refine wE_v (e_istr rfl rfl (by omega)) rfl ?_
    | refine wE_v (e_istr0 rfl rfl (by omega)) rfl ?_
    | refine wE_v (o_not rfl) rfl ?_
    | refine wE_v (e_ia_vw0 rfl rfl (by omega) rfl) rfl ?_
    | refine wE_v (e_ia_vwp rfl rfl (by omega) rfl) rfl ?_
    | refine wE_v (e_ia_vwm rfl rfl (by omega) (by omega) rfl) rfl ?_
    | refine wE_v (e_ia_vwi rfl rfl (by omega) rfl) rfl ?_
    | refine wE_v (e_ia_vwn rfl rfl (by omega) (by omega) rfl) rfl ?_
    | refine wE_n rfl rfl rfl ?_
    | refine wE_u rfl rfl rfl ?_
    | refine wE_new (o_mks rfl rfl (by omega) (by decide)) rfl ?_))
    refine wG_pure (o_ldt_pt rfl (mdH_out (by omega) (hg_skip n1 (hg_skip n1 hg_here))) rfl rfl rfl) ?_
    repeat (first
    | refine wC_a rfl ?_
    | refine q_s rfl ?_
    | refine q_b rfl ?_
    | refine wG_nil ?_
    | refine wG_g rfl ?_
    | refine wG_pure (o_len_vwm rfl) ?_
    | refine wG_pure (o_not_d rfl) ?_
    | refine wG_p rfl (by first | exact rfl | omega) ?_
    | refine wG_pure (o_str2 rfl rfl rfl) ?_
    | refine wG_pure (e_istr rfl rfl (by omega)) ?_
    | refine wG_pure (e_istr0 rfl rfl (by omega)) ?_
    | refine wG_pure (o_not rfl) ?_
    | refine wG_pure (e_ia_vw0 rfl rfl (by omega) rfl) ?_
    | refine wG_pure (e_ia_vwp rfl rfl (by omega) rfl) ?_
    | refine wG_pure (e_ia_vwm rfl rfl (by omega) (by omega) rfl) ?_
    | refine wG_pure (e_ia_vwi rfl rfl (by omega) rfl) ?_
    | refine wG_pure (e_ia_vwn rfl rfl (by omega) (by omega) rfl) ?_
    | refine wG_n rfl rfl ?_
    | refine wG_u rfl rfl ?_
    | refine wG_new (o_mks rfl rfl (by omega) (by decide)) ?_)
    refine wG_callS (sM (p := y1 + 1) (h' := [(b0 + 1, some [[.int .i64 0, .nilS]]), (y1, some [[.int .i64 0, .nilS]]), (0, some [mdR c m xs])]) (fun i rows hi => hx1 i rows hi) (by omega) (wfH_cons (by omega) (by simp [AV.ltr]) (wfH_cons (by omega) (by simp [AV.ltr]) (wfH_cons (by omega) (mdR_ltr1' _) wfH_nil))) (fun q rows hq => ?_)) rfl ?_
    · have hm := hg_memL _ hq
      simp only [List.mem_cons, List.not_mem_nil, or_false, Prod.mk.injEq, Option.some.injEq] at hm
      rcases hm with ⟨rfl, rfl⟩ | ⟨rfl, rfl⟩ | ⟨rfl, rfl⟩
      · exact ⟨mdH_out (by omega) hg_here, .inr (by omega)⟩
      · exact ⟨mdH_out (by omega) (hg_skip (by omega) (hg_skip (by omega) (hg_skip (by omega) (hg_skip (by omega) (mdH_out (by omega) hg_here))))), .inl (by omega)⟩
      · exact ⟨mdH_out (by omega) (hg_skip (by omega) (hg_skip (by omega) (hg_skip (by omega) (hg_skip (by omega) (mdH_out (by omega) (hg_skip (by omega) (hg_skip (by omega) (mdH_out (by omega) rfl)))))))), .inl (by omega)⟩
    obtain ⟨c0, hc0, hbc⟩ : ∃ c0, b0 + 1 + 1 + (teO xs).length + 1 = c0 ∧ b0 + 1 < c0 := ⟨_, rfl, by omega⟩
    rw [hc0]
    have q1 : y1 ≠ b0 + 1 := by omega
    have z1 : 0 ≠ b0 + 1 := by omega
    have z2 : 0 ≠ y1 := by omega
    repeat (first
    | refine wC_a rfl ?_
    | refine q_s rfl ?_
    | refine q_b rfl ?_
    | refine wG_nil ?_
    | refine wG_g rfl ?_
    | refine wG_pure (o_len_vwm rfl) ?_
    | refine wG_pure (o_not_d rfl) ?_
    | refine wG_p rfl (by first | exact rfl | omega) ?_
    | refine wG_pure (o_str2 rfl rfl rfl) ?_
    | refine wG_pure (e_istr rfl rfl (by omega)) ?_
    | refine wG_pure (e_istr0 rfl rfl (by omega)) ?_
    | refine wG_pure (o_not rfl) ?_
    | refine wG_pure (e_ia_vw0 rfl rfl (by omega) rfl) ?_
    | refine wG_pure (e_ia_vwp rfl rfl (by omega) rfl) ?_
    | refine wG_pure (e_ia_vwm rfl rfl (by omega) (by omega) rfl) ?_
    | refine wG_pure (e_ia_vwi rfl rfl (by omega) rfl) ?_
    | refine wG_pure (e_ia_vwn rfl rfl (by omega) (by omega) rfl) ?_
    | refine wG_n rfl rfl ?_
    | refine wG_u rfl rfl ?_
    | refine wG_new (o_mks rfl rfl (by omega) (by decide)) ?_)
    simp only [dK]
    repeat (first | refine wG_pure (o_ldt_pt rfl hg_here rfl rfl rfl) ?_ | refine wG_pure (o_ldt_pt rfl (hg_skip q1 hg_here) rfl rfl rfl) ?_ | refine wG_call c5 rfl rfl ?_ | refine wG_call c6 rfl rfl ?_ | refine wG_call c7 rfl rfl ?_ | (first
    | refine wC_a rfl ?_
    | refine q_s rfl ?_
    | refine q_b rfl ?_
    | refine wG_nil ?_
    | refine wG_g rfl ?_
    | refine wG_pure (o_len_vwm rfl) ?_
    | refine wG_pure (o_not_d rfl) ?_
    | refine wG_p rfl (by first | exact rfl | omega) ?_
    | refine wG_pure (o_str2 rfl rfl rfl) ?_
    | refine wG_pure (e_istr rfl rfl (by omega)) ?_
    | refine wG_pure (e_istr0 rfl rfl (by omega)) ?_
    | refine wG_pure (o_not rfl) ?_
    | refine wG_pure (e_ia_vw0 rfl rfl (by omega) rfl) ?_
    | refine wG_pure (e_ia_vwp rfl rfl (by omega) rfl) ?_
    | refine wG_pure (e_ia_vwm rfl rfl (by omega) (by omega) rfl) ?_
    | refine wG_pure (e_ia_vwi rfl rfl (by omega) rfl) ?_
    | refine wG_pure (e_ia_vwn rfl rfl (by omega) (by omega) rfl) ?_
    | refine wG_n rfl rfl ?_
    | refine wG_u rfl rfl ?_
    | refine wG_new (o_mks rfl rfl (by omega) (by decide)) ?_))
    refine wG_pure (o_ldt_pt rfl (hg_skip z1 (hg_skip z2 hg_here)) rfl rfl rfl) ?_
    refine wG_callG (v' := mdV c0 m xs) cT rfl rfl rfl ?_
    change wpG _ _ _ ⟨_, mdH c0 xs _, _⟩ _
    obtain ⟨d1, hd1⟩ : ∃ d1, c0 + (teO xs).length = d1 := ⟨_, rfl⟩
    rw [hd1]
    have w1 : b0 + 1 ≠ d1 := by omega
    repeat (first | refine wG_call cI (ag_any (dr_md m xs (fun i rows hi => mdH_in hi)) (ag_int rfl ag_nil)) rfl ?_ | refine wG_upd (o_st_agg rfl hg_here rfl rfl rfl rfl rfl) ?_ | refine wG_pure (o_ldt_pt rfl hg_here rfl rfl rfl) ?_ | refine wG_pure (o_ldt_pt rfl (hg_skip (by omega) (hg_skip (by omega) (mdH_out (by omega) (hg_skip q1 hg_here)))) rfl rfl rfl) ?_ | refine wG_pure (o_ldt_pt rfl (hg_skip w1 (hg_skip w1 (mdH_out (by omega) hg_here))) rfl rfl rfl) ?_ | refine wG_call c5 rfl rfl ?_ | refine wG_call c6 rfl rfl ?_ | (first
    | refine wC_a rfl ?_
    | refine q_s rfl ?_
    | refine q_b rfl ?_
    | refine wG_nil ?_
    | refine wG_g rfl ?_
    | refine wG_pure (o_len_vwm rfl) ?_
    | refine wG_pure (o_not_d rfl) ?_
    | refine wG_p rfl (by first | exact rfl | omega) ?_
    | refine wG_pure (o_str2 rfl rfl rfl) ?_
    | refine wG_pure (e_istr rfl rfl (by omega)) ?_
    | refine wG_pure (e_istr0 rfl rfl (by omega)) ?_
    | refine wG_pure (o_not rfl) ?_
    | refine wG_pure (e_ia_vw0 rfl rfl (by omega) rfl) ?_
    | refine wG_pure (e_ia_vwp rfl rfl (by omega) rfl) ?_
    | refine wG_pure (e_ia_vwm rfl rfl (by omega) (by omega) rfl) ?_
    | refine wG_pure (e_ia_vwi rfl rfl (by omega) rfl) ?_
    | refine wG_pure (e_ia_vwn rfl rfl (by omega) (by omega) rfl) ?_
    | refine wG_n rfl rfl ?_
    | refine wG_u rfl rfl ?_
    | refine wG_new (o_mks rfl rfl (by omega) (by decide)) ?_))
    exact ret_boolE (.inr rfl) ⟨_, retV_mv rfl, rfl⟩
end Go.Proofs.Ytnohaclnpbpjbaa.Dst
