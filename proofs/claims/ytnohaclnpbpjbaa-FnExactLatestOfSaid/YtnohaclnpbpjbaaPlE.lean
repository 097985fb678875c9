/- The law on the greatest of independent years. -/
import Derived.Test.YtnohaclnpbpjbaaPlC
import Derived.Test.YtnohaclnpbpjbaaPlD
namespace Go.Proofs.Ytnohaclnpbpjbaa.Dst
open Go Go.Proofs.Ytnohaclnpbpjbaa.Ab Go.Proofs.Ytnohaclnpbpjbaa.Il
attribute [local irreducible] wpO wpC wpDr wpQ wpG wpE stepA seqQ blkQ Ret RetG ev
set_option maxRecDepth 10000
set_option maxHeartbeats 8000000
set_option linter.unusedSimpArgs false
set_option linter.unusedVariables false

def ac4 : AC := (.seq (.reg [⟨(some 2), none, (.mv (.c (.bool false)))⟩]) (.seq (.reg [⟨(some 3), none, (.mv (.c (.int .i64 1048576)))⟩]) (.seq (.reg [⟨(some 14), none, (.mv (.t 0))⟩, ⟨(some 15), none, (.mv (.t 3))⟩, ⟨(some 16), none, (.call 16 [(.t 14), (.t 15)])⟩, ⟨(some 3), none, (.mv (.t 16))⟩]) (.seq (.seq (.reg [⟨(some 17), none, (.mv (.t 3))⟩, ⟨(some 18), none, (.bin .lss (.t 17) (.c (.int .i64 0)))⟩]) (.cond (.t 18) (.seq (.reg [⟨(some 2), none, (.mv (.c (.bool true)))⟩]) .ret) .skip)) (.seq (.reg [⟨(some 20), none, (.mv (.t 0))⟩, ⟨(some 21), none, (.call 18 [(.t 20)])⟩, ⟨(some 22), none, (.call 17 [(.t 21)])⟩, ⟨(some 19), none, (.mv (.t 22))⟩, ⟨(some 23), none, (.ext (.t 19) 0)⟩, ⟨(some 24), none, (.ext (.t 19) 1)⟩, ⟨(some 4), none, (.alloc [(.int .i64 0), .nilS])⟩, ⟨none, none, (.st 2 (.t 4) (.t 23))⟩, ⟨(some 5), none, (.mv (.t 24))⟩]) (.seq (.reg [⟨(some 25), none, (.mv (.t 0))⟩, ⟨(some 26), none, (.call 18 [(.t 25)])⟩, ⟨(some 6), none, (.mv (.t 26))⟩]) (.seq (.reg [⟨(some 28), none, (.mv (.t 6))⟩, ⟨(some 29), none, (.call 19 [(.t 28)])⟩, ⟨(some 27), none, (.mv (.t 29))⟩, ⟨(some 30), none, (.ext (.t 27) 0)⟩, ⟨(some 31), none, (.ext (.t 27) 1)⟩, ⟨(some 7), none, (.alloc [(.int .i64 0), .nilS])⟩, ⟨none, none, (.st 2 (.t 7) (.t 30))⟩, ⟨(some 8), none, (.mv (.t 31))⟩]) (.seq (.seq (.reg [⟨(some 32), none, (.ld true 2 (.t 7))⟩, ⟨(some 33), none, (.ld true 2 (.t 4))⟩, ⟨(some 34), none, (.call 20 [(.t 32), (.t 33)])⟩, ⟨(some 35), none, (.un .not (.t 34))⟩, ⟨(some 36), none, (.mv (.t 35))⟩, ⟨(some 37), (some (36, false)), (.mv (.t 8))⟩, ⟨(some 38), (some (36, false)), (.mv (.t 5))⟩, ⟨(some 39), (some (36, false)), (.bool2 true (.t 37) (.t 38))⟩, ⟨(some 40), none, (.pick (.t 36) (.c (.bool true)) (.t 39))⟩]) (.cond (.t 40) (.seq (.reg [⟨(some 2), none, (.mv (.c (.bool false)))⟩]) .ret) .skip)) (.seq (.seq (.reg [⟨(some 41), none, (.mv (.t 6))⟩, ⟨(some 42), none, (.mv (.t 0))⟩, ⟨(some 43), none, (.call 18 [(.t 42)])⟩, ⟨(some 44), none, (.call 21 [(.t 41), (.t 43)])⟩, ⟨(some 45), none, (.un .not (.t 44))⟩]) (.cond (.t 45) (.seq (.reg [⟨(some 2), none, (.mv (.c (.bool false)))⟩]) .ret) .skip)) (.seq (.reg [⟨(some 9), none, (.mv (.c (.int .i64 1)))⟩]) (.seq (.reg [⟨(some 46), none, (.mv (.t 6))⟩, ⟨(some 47), none, (.mv (.t 9))⟩, ⟨(some 48), none, (.call 22 [(.t 46), (.t 47)])⟩, ⟨(some 9), none, (.mv (.t 48))⟩]) (.seq (.seq (.reg [⟨(some 49), none, (.mv (.t 9))⟩, ⟨(some 50), none, (.bin .lss (.t 49) (.c (.int .i64 0)))⟩, ⟨(some 51), none, (.mv (.t 50))⟩, ⟨(some 52), (some (51, false)), (.ld true 2 (.t 7))⟩, ⟨(some 53), (some (51, false)), (.ld true 2 (.t 4))⟩, ⟨(some 54), (some (51, false)), (.call 20 [(.t 52), (.t 53)])⟩, ⟨(some 55), (some (51, false)), (.un .not (.t 54))⟩, ⟨(some 56), none, (.pick (.t 51) (.c (.bool true)) (.t 55))⟩, ⟨(some 57), none, (.mv (.t 56))⟩, ⟨(some 58), (some (57, false)), (.mv (.t 8))⟩, ⟨(some 59), (some (57, false)), (.mv (.t 5))⟩, ⟨(some 60), (some (57, false)), (.bool2 true (.t 58) (.t 59))⟩, ⟨(some 61), none, (.pick (.t 57) (.c (.bool true)) (.t 60))⟩]) (.cond (.t 61) (.seq (.reg [⟨(some 2), none, (.mv (.c (.bool false)))⟩]) .ret) .skip)) (.seq (.reg [⟨(some 10), none, (.mv (.c (.int .i64 1)))⟩]) (.seq (.reg [⟨(some 62), none, (.ld true 2 (.t 7))⟩, ⟨(some 63), none, (.mv (.t 10))⟩, ⟨(some 64), none, (.call 23 [(.t 62), (.t 63)])⟩, ⟨(some 10), none, (.mv (.t 64))⟩]) (.seq (.reg [⟨(some 11), none, (.mv (.c (.int .i64 1)))⟩]) (.seq (.reg [⟨(some 65), none, (.ld true 2 (.t 7))⟩, ⟨(some 66), none, (.mv (.t 11))⟩, ⟨(some 67), none, (.call 24 [(.t 65), (.t 66)])⟩, ⟨(some 11), none, (.mv (.t 67))⟩]) (.seq (.seq (.reg [⟨(some 68), none, (.mv (.t 11))⟩, ⟨(some 69), none, (.bin .lss (.t 68) (.c (.int .i64 0)))⟩]) (.cond (.t 69) (.seq (.reg [⟨(some 2), none, (.mv (.c (.bool false)))⟩]) .ret) .skip)) (.seq (.seq (.reg [⟨(some 70), none, (.mv (.t 11))⟩, ⟨(some 71), none, (.mv (.t 10))⟩, ⟨(some 72), none, (.bin .neq (.t 70) (.t 71))⟩]) (.cond (.t 72) (.seq (.reg [⟨(some 2), none, (.mv (.c (.bool false)))⟩]) .ret) .skip)) (.seq (.reg [⟨(some 74), none, (.mv (.t 0))⟩, ⟨(some 75), none, (.call 18 [(.t 74)])⟩, ⟨(some 76), none, (.call 19 [(.t 75)])⟩, ⟨(some 73), none, (.mv (.t 76))⟩, ⟨(some 77), none, (.ext (.t 73) 0)⟩, ⟨(some 78), none, (.ext (.t 73) 1)⟩, ⟨(some 12), none, (.alloc [(.int .i64 0), .nilS])⟩, ⟨none, none, (.st 2 (.t 12) (.t 77))⟩, ⟨(some 13), none, (.mv (.t 78))⟩]) (.seq (.seq (.reg [⟨(some 79), none, (.ld true 2 (.t 12))⟩, ⟨(some 80), none, (.ld true 2 (.t 4))⟩, ⟨(some 81), none, (.call 20 [(.t 79), (.t 80)])⟩, ⟨(some 82), none, (.un .not (.t 81))⟩, ⟨(some 83), none, (.mv (.t 82))⟩, ⟨(some 84), (some (83, false)), (.mv (.t 13))⟩, ⟨(some 85), (some (83, false)), (.mv (.t 5))⟩, ⟨(some 86), (some (83, false)), (.bool2 true (.t 84) (.t 85))⟩, ⟨(some 87), none, (.pick (.t 83) (.c (.bool true)) (.t 86))⟩]) (.cond (.t 87) (.seq (.reg [⟨(some 2), none, (.mv (.c (.bool false)))⟩]) .ret) .skip)) (.seq (.reg [⟨(some 11), none, (.mv (.c (.int .i64 1)))⟩]) (.seq (.reg [⟨(some 88), none, (.ld true 2 (.t 7))⟩, ⟨(some 89), none, (.mv (.t 11))⟩, ⟨(some 90), none, (.call 24 [(.t 88), (.t 89)])⟩, ⟨(some 11), none, (.mv (.t 90))⟩]) (.seq (.seq (.reg [⟨(some 91), none, (.mv (.t 11))⟩, ⟨(some 92), none, (.bin .lss (.t 91) (.c (.int .i64 0)))⟩]) (.cond (.t 92) (.seq (.reg [⟨(some 2), none, (.mv (.c (.bool false)))⟩]) .ret) .skip)) (.seq (.seq (.reg [⟨(some 93), none, (.mv (.t 11))⟩, ⟨(some 94), none, (.mv (.t 10))⟩, ⟨(some 95), none, (.bin .neq (.t 93) (.t 94))⟩]) (.cond (.t 95) (.seq (.reg [⟨(some 2), none, (.mv (.c (.bool false)))⟩]) .ret) .skip)) (.seq (.reg [⟨(some 2), none, (.mv (.c (.bool true)))⟩]) .ret)))))))))))))))))))))))))
def ro4 : List AOp := [(.mv (.t 2))]
theorem fun4 : Fun Try.prog 4 96 ac4 ro4 := ⟨Try.f4, _, Try.func4, by kernel_rfl, rfl, rfl, by kernel_rfl, by kernel_rfl, by decide⟩

theorem con4 (nn : Bool) (xs : List Dn) (h3 : xs.length ≤ 9223372036854775807) (hL : LenN xs 9223372036854775807) : Con Try.prog 4 true [.vw nn (xs.map nD)] (.bool true) [] := by
  classical
  refine con_of_wp mixed fun4 (by simp) [] plain_nil ?_
  unfold ac4 ro4
  simp only [zipT]
  have c1 := con16 nn xs h3 hL 1048576 (by decide) (by decide)
  by_cases hD2 : szD 1048576 xs < 0
  · have d0 : decide (szD 1048576 xs < 0) = true := decide_eq_true hD2
    repeat (first | refine wG_call c1 rfl rfl ?_ | (first
    | refine wC_a rfl ?_
    | refine q_s rfl ?_
    | refine q_b rfl ?_
    | refine wG_nil ?_
    | refine wG_g rfl ?_
    | refine wG_pure (o_len_vwm rfl) ?_
    | refine wG_pure (o_not_d rfl) ?_
    | refine wG_p rfl (by first | exact rfl | omega) ?_
    | refine wG_pure (o_str2 rfl rfl rfl) ?_
    | refine wG_pure (e_istr rfl rfl (by omega)) ?_
    | refine wG_pure (e_istr0 rfl rfl (by omega)) ?_
    | refine wG_pure (o_not rfl) ?_
    | refine wG_pure (e_ia_vw0 rfl rfl (by omega) rfl) ?_
    | refine wG_pure (e_ia_vwp rfl rfl (by omega) rfl) ?_
    | refine wG_pure (e_ia_vwm rfl rfl (by omega) (by omega) rfl) ?_
    | refine wG_pure (e_ia_vwi rfl rfl (by omega) rfl) ?_
    | refine wG_pure (e_ia_vwn rfl rfl (by omega) (by omega) rfl) ?_
    | refine wG_n rfl rfl ?_
    | refine wG_u rfl rfl ?_
    | refine wG_new (o_mks rfl rfl (by omega) (by decide)) ?_))
    simp only [d0]
    repeat (first
    | refine wC_a rfl ?_
    | refine q_s rfl ?_
    | refine q_b rfl ?_
    | refine wG_nil ?_
    | refine wG_g rfl ?_
    | refine wG_pure (o_len_vwm rfl) ?_
    | refine wG_pure (o_not_d rfl) ?_
    | refine wG_p rfl (by first | exact rfl | omega) ?_
    | refine wG_pure (o_str2 rfl rfl rfl) ?_
    | refine wG_pure (e_istr rfl rfl (by omega)) ?_
    | refine wG_pure (e_istr0 rfl rfl (by omega)) ?_
    | refine wG_pure (o_not rfl) ?_
    | refine wG_pure (e_ia_vw0 rfl rfl (by omega) rfl) ?_
    | refine wG_pure (e_ia_vwp rfl rfl (by omega) rfl) ?_
    | refine wG_pure (e_ia_vwm rfl rfl (by omega) (by omega) rfl) ?_
    | refine wG_pure (e_ia_vwi rfl rfl (by omega) rfl) ?_
    | refine wG_pure (e_ia_vwn rfl rfl (by omega) (by omega) rfl) ?_
    | refine wG_n rfl rfl ?_
    | refine wG_u rfl rfl ?_
    | refine wG_new (o_mks rfl rfl (by omega) (by decide)) ?_)
    exact ret_boolE (.inr rfl) ⟨_, retV_mv rfl, rfl⟩
  obtain ⟨s4, s5, s6⟩ := szD_ok (Int.not_lt.1 hD2)
  have h3' : xs.length ≤ 1048576 := by omega
  have hL' : LenN xs 1048576 := fun i hi => by have := s5 i hi; omega
  have h3t : (tD xs).length ≤ 1048576 := by rw [tD_len]; exact h3'
  have hLt := hL'.t
  have cT := con18 nn xs h3' hL'
  have hdi := diL (tD xs) h3t hLt
  have cE := con21 true true (tD xs) h3t hLt
  have hlen := tdO_len xs
  have hS : sL xs xs.length ≤ 1048576 := by have := szD_sum (Int.not_lt.1 hD2); omega
  have d0 : decide (szD 1048576 xs < 0) = false := decide_eq_false hD2
  repeat (first | refine wG_call c1 rfl rfl ?_ | (first
    | refine wC_a rfl ?_
    | refine q_s rfl ?_
    | refine q_b rfl ?_
    | refine wG_nil ?_
    | refine wG_g rfl ?_
    | refine wG_pure (o_len_vwm rfl) ?_
    | refine wG_pure (o_not_d rfl) ?_
    | refine wG_p rfl (by first | exact rfl | omega) ?_
    | refine wG_pure (o_str2 rfl rfl rfl) ?_
    | refine wG_pure (e_istr rfl rfl (by omega)) ?_
    | refine wG_pure (e_istr0 rfl rfl (by omega)) ?_
    | refine wG_pure (o_not rfl) ?_
    | refine wG_pure (e_ia_vw0 rfl rfl (by omega) rfl) ?_
    | refine wG_pure (e_ia_vwp rfl rfl (by omega) rfl) ?_
    | refine wG_pure (e_ia_vwm rfl rfl (by omega) (by omega) rfl) ?_
    | refine wG_pure (e_ia_vwi rfl rfl (by omega) rfl) ?_
    | refine wG_pure (e_ia_vwn rfl rfl (by omega) (by omega) rfl) ?_
    | refine wG_n rfl rfl ?_
    | refine wG_u rfl rfl ?_
    | refine wG_new (o_mks rfl rfl (by omega) (by decide)) ?_))
  simp only [d0]
  repeat (first
    | refine wC_a rfl ?_
    | refine q_s rfl ?_
    | refine q_b rfl ?_
    | refine wG_nil ?_
    | refine wG_g rfl ?_
    | refine wG_pure (o_len_vwm rfl) ?_
    | refine wG_pure (o_not_d rfl) ?_
    | refine wG_p rfl (by first | exact rfl | omega) ?_
    | refine wG_pure (o_str2 rfl rfl rfl) ?_
    | refine wG_pure (e_istr rfl rfl (by omega)) ?_
    | refine wG_pure (e_istr0 rfl rfl (by omega)) ?_
    | refine wG_pure (o_not rfl) ?_
    | refine wG_pure (e_ia_vw0 rfl rfl (by omega) rfl) ?_
    | refine wG_pure (e_ia_vwp rfl rfl (by omega) rfl) ?_
    | refine wG_pure (e_ia_vwm rfl rfl (by omega) (by omega) rfl) ?_
    | refine wG_pure (e_ia_vwi rfl rfl (by omega) rfl) ?_
    | refine wG_pure (e_ia_vwn rfl rfl (by omega) (by omega) rfl) ?_
    | refine wG_n rfl rfl ?_
    | refine wG_u rfl rfl ?_
    | refine wG_new (o_mks rfl rfl (by omega) (by decide)) ?_)
  refine wG_callG (v' := .sl 0 2 0 xs.length) cT rfl rfl rfl ?_
  change wpG _ _ _ ⟨_, tdH 0 xs _, _⟩ _
  obtain ⟨y1, hy1⟩ : ∃ y1, 0 + (tdO xs).length = y1 := ⟨_, rfl⟩
  rw [hy1]
  have sM := fun {h h' nr p} => @sh_mdl xs h3' hS h h' nr p
  obtain ⟨K, hK0, hK⟩ : ∃ K : Int, 0 ≤ K ∧ 1 + (xs.length : Int) + (sL xs xs.length : Int) = K := ⟨_, by omega, rfl⟩
  simp only [hK] at sM
  have dK : decide (K < 0) = false := decide_eq_false (by omega)
  rcases hdi with ⟨f, vs, hv60, cS, cI⟩ | ⟨cS, cI⟩
  · have hd : vs.length ≤ 1048576 := by omega
    have c5 := con20_same true true ⟨f, vs⟩ hd
    have c6 := con24 true f vs.length 1 hd (by decide) (by decide)
    have sm := fun h nr r => @sh23 ⟨f, vs⟩ 1 hd (by decide) (by decide) h nr r
    unfold dRow at c5
    simp only at c5 sm
    repeat (first | refine wG_call1 cS (ag_any (dr_td xs (fun i rows hi => tdH_in hi)) ag_nil) rfl ?_ | refine wG_upd (o_st_agg rfl hg_here rfl rfl rfl rfl rfl) ?_ | (first
    | refine wC_a rfl ?_
    | refine q_s rfl ?_
    | refine q_b rfl ?_
    | refine wG_nil ?_
    | refine wG_g rfl ?_
    | refine wG_pure (o_len_vwm rfl) ?_
    | refine wG_pure (o_not_d rfl) ?_
    | refine wG_p rfl (by first | exact rfl | omega) ?_
    | refine wG_pure (o_str2 rfl rfl rfl) ?_
    | refine wG_pure (e_istr rfl rfl (by omega)) ?_
    | refine wG_pure (e_istr0 rfl rfl (by omega)) ?_
    | refine wG_pure (o_not rfl) ?_
    | refine wG_pure (e_ia_vw0 rfl rfl (by omega) rfl) ?_
    | refine wG_pure (e_ia_vwp rfl rfl (by omega) rfl) ?_
    | refine wG_pure (e_ia_vwm rfl rfl (by omega) (by omega) rfl) ?_
    | refine wG_pure (e_ia_vwi rfl rfl (by omega) rfl) ?_
    | refine wG_pure (e_ia_vwn rfl rfl (by omega) (by omega) rfl) ?_
    | refine wG_n rfl rfl ?_
    | refine wG_u rfl rfl ?_
    | refine wG_new (o_mks rfl rfl (by omega) (by decide)) ?_))
    refine wG_callG (v' := .sl (y1 + 1 + 1) 2 0 xs.length) cT rfl rfl rfl ?_
    change wpG _ _ _ ⟨_, tdH (y1 + 1 + 1) xs _, _⟩ _
    obtain ⟨b0, hb0⟩ : ∃ b0, y1 + 1 + 1 + (tdO xs).length = b0 := ⟨_, rfl⟩
    rw [hb0]
    have hx0 : ∀ {w0 w0' v0 : Option Ab.Rows} {h : List (Nat × Option Ab.Rows)} (i : Nat) (rows : Ab.Rows), (tdO xs)[i]? = some rows → hg ((b0 + 1, w0) :: (b0 + 1, w0') :: (b0, v0) :: tdH (y1 + 1 + 1) xs h) (y1 + 1 + 1 + i) = some (shR (y1 + 1 + 1) rows) := fun i rows hi => by
      have := tdO_lt hi
      exact hg_skip (by omega) (hg_skip (by omega) (hg_skip (by omega) (tdH_in hi)))
    have hx1 : ∀ {w0 w0' v0 : Option Ab.Rows} {h : List (Nat × Option Ab.Rows)} (i : Nat) (rows : Ab.Rows), (tdO xs)[i]? = some rows → hg (tdH (b0 + 1 + 1) xs ((b0 + 1, w0) :: (b0 + 1, w0') :: (b0, v0) :: tdH (y1 + 1 + 1) xs h)) (y1 + 1 + 1 + i) = some (shR (y1 + 1 + 1) rows) := fun i rows hi => by
      have := tdO_lt hi
      exact tdH_out (by omega) (hx0 i rows hi)
    have n1 : b0 ≠ b0 + 1 := by omega
    have m1 : y1 ≠ y1 + 1 := by omega
    repeat (first | refine wG_call1 cI (ag_any (dr_td xs (fun i rows hi => tdH_in hi)) ag_nil) rfl ?_ | refine wG_upd (o_st_agg rfl hg_here rfl rfl rfl rfl rfl) ?_ | refine wG_pure (o_ldt_pt rfl hg_here rfl rfl rfl) ?_ | refine wG_pure (o_ldt_pt rfl (hg_skip (by omega) (hg_skip (by omega) (hg_skip (by omega) (tdH_out (by omega) hg_here)))) rfl rfl rfl) ?_ | refine wG_call c5 (ag_is rfl (hg_skip n1 (hg_skip n1 hg_here)) rfl iRow_plain (ag_is rfl (hg_skip (by omega) (hg_skip (by omega) (hg_skip (by omega) (tdH_out (by omega) (hg_skip m1 (hg_skip m1 hg_here)))))) rfl iRow_plain ag_nil)) rfl ?_ | (first
    | refine wC_a rfl ?_
    | refine q_s rfl ?_
    | refine q_b rfl ?_
    | refine wG_nil ?_
    | refine wG_g rfl ?_
    | refine wG_pure (o_len_vwm rfl) ?_
    | refine wG_pure (o_not_d rfl) ?_
    | refine wG_p rfl (by first | exact rfl | omega) ?_
    | refine wG_pure (o_str2 rfl rfl rfl) ?_
    | refine wG_pure (e_istr rfl rfl (by omega)) ?_
    | refine wG_pure (e_istr0 rfl rfl (by omega)) ?_
    | refine wG_pure (o_not rfl) ?_
    | refine wG_pure (e_ia_vw0 rfl rfl (by omega) rfl) ?_
    | refine wG_pure (e_ia_vwp rfl rfl (by omega) rfl) ?_
    | refine wG_pure (e_ia_vwm rfl rfl (by omega) (by omega) rfl) ?_
    | refine wG_pure (e_ia_vwi rfl rfl (by omega) rfl) ?_
    | refine wG_pure (e_ia_vwn rfl rfl (by omega) (by omega) rfl) ?_
    | refine wG_n rfl rfl ?_
    | refine wG_u rfl rfl ?_
    | refine wG_new (o_mks rfl rfl (by omega) (by decide)) ?_))
    refine wG_callG (v' := .sl (b0 + 1 + 1) 2 0 xs.length) cT rfl rfl rfl ?_
    change wpG _ _ _ ⟨_, tdH (b0 + 1 + 1) xs _, _⟩ _
    repeat (first | refine wG_call cE (ag_any (dr_td xs hx1) (ag_any (dr_td xs (fun i rows hi => tdH_in hi)) ag_nil)) rfl ?_ | (first
    | refine wC_a rfl ?_
    | refine q_s rfl ?_
    | refine q_b rfl ?_
    | refine wG_nil ?_
    | refine wG_g rfl ?_
    | refine wG_pure (o_len_vwm rfl) ?_
    | refine wG_pure (o_not_d rfl) ?_
    | refine wG_p rfl (by first | exact rfl | omega) ?_
    | refine wG_pure (o_str2 rfl rfl rfl) ?_
    | refine wG_pure (e_istr rfl rfl (by omega)) ?_
    | refine wG_pure (e_istr0 rfl rfl (by omega)) ?_
    | refine wG_pure (o_not rfl) ?_
    | refine wG_pure (e_ia_vw0 rfl rfl (by omega) rfl) ?_
    | refine wG_pure (e_ia_vwp rfl rfl (by omega) rfl) ?_
    | refine wG_pure (e_ia_vwm rfl rfl (by omega) (by omega) rfl) ?_
    | refine wG_pure (e_ia_vwi rfl rfl (by omega) rfl) ?_
    | refine wG_pure (e_ia_vwn rfl rfl (by omega) (by omega) rfl) ?_
    | refine wG_n rfl rfl ?_
    | refine wG_u rfl rfl ?_
    | refine wG_new (o_mks rfl rfl (by omega) (by decide)) ?_))
    refine wG_callS (sM (p := y1 + 1 + 1) (h' := [(b0 + 1, some [[.int .i64 f, .sl b0 1 0 vs.length]]), (b0, some (vs.map iRow)), (y1 + 1, some [[.int .i64 f, .sl y1 1 0 vs.length]]), (y1, some (vs.map iRow))]) (fun i rows hi => hx1 i rows hi) (by omega) (wfH_cons (by omega) (by simp [AV.ltr]; omega) (wfH_cons (by omega) (ltrI _ _) (wfH_cons (by omega) (by simp [AV.ltr]; omega) (wfH_cons (by omega) (ltrI _ _) wfH_nil)))) (fun q rows hq => ?_)) rfl ?_
    · have hm := hg_memL _ hq
      simp only [List.mem_cons, List.not_mem_nil, or_false, Prod.mk.injEq, Option.some.injEq] at hm
      rcases hm with ⟨rfl, rfl⟩ | ⟨rfl, rfl⟩ | ⟨rfl, rfl⟩ | ⟨rfl, rfl⟩
      · exact ⟨tdH_out (by omega) hg_here, .inr (by omega)⟩
      · exact ⟨tdH_out (by omega) (hg_skip n1 (hg_skip n1 hg_here)), .inr (by omega)⟩
      · exact ⟨tdH_out (by omega) (hg_skip (by omega) (hg_skip (by omega) (hg_skip (by omega) (tdH_out (by omega) hg_here)))), .inl (by omega)⟩
      · exact ⟨tdH_out (by omega) (hg_skip (by omega) (hg_skip (by omega) (hg_skip (by omega) (tdH_out (by omega) (hg_skip m1 (hg_skip m1 hg_here)))))), .inl (by omega)⟩
    obtain ⟨c0, hc0, hbc⟩ : ∃ c0, b0 + 1 + 1 + (tdO xs).length = c0 ∧ b0 + 1 < c0 := ⟨_, rfl, by omega⟩
    rw [hc0]
    have q1 : y1 + 1 ≠ b0 + 1 := by omega
    have q2 : y1 + 1 ≠ b0 := by omega
    have q3 : y1 ≠ b0 + 1 := by omega
    have q4 : y1 ≠ b0 := by omega
    have n2 : b0 + 1 ≠ b0 := by omega
    repeat (first
    | refine wC_a rfl ?_
    | refine q_s rfl ?_
    | refine q_b rfl ?_
    | refine wG_nil ?_
    | refine wG_g rfl ?_
    | refine wG_pure (o_len_vwm rfl) ?_
    | refine wG_pure (o_not_d rfl) ?_
    | refine wG_p rfl (by first | exact rfl | omega) ?_
    | refine wG_pure (o_str2 rfl rfl rfl) ?_
    | refine wG_pure (e_istr rfl rfl (by omega)) ?_
    | refine wG_pure (e_istr0 rfl rfl (by omega)) ?_
    | refine wG_pure (o_not rfl) ?_
    | refine wG_pure (e_ia_vw0 rfl rfl (by omega) rfl) ?_
    | refine wG_pure (e_ia_vwp rfl rfl (by omega) rfl) ?_
    | refine wG_pure (e_ia_vwm rfl rfl (by omega) (by omega) rfl) ?_
    | refine wG_pure (e_ia_vwi rfl rfl (by omega) rfl) ?_
    | refine wG_pure (e_ia_vwn rfl rfl (by omega) (by omega) rfl) ?_
    | refine wG_n rfl rfl ?_
    | refine wG_u rfl rfl ?_
    | refine wG_new (o_mks rfl rfl (by omega) (by decide)) ?_)
    simp only [dK]
    repeat (first | refine wG_pure (o_ldt_pt rfl hg_here rfl rfl rfl) ?_ | refine wG_pure (o_ldt_pt rfl (hg_skip q1 (hg_skip q2 hg_here)) rfl rfl rfl) ?_ | refine wG_call c5 (ag_is rfl (hg_skip n1 hg_here) rfl iRow_plain (ag_is rfl (hg_skip q3 (hg_skip q4 (hg_skip m1 hg_here))) rfl iRow_plain ag_nil)) rfl ?_ | (refine wG_callS (f := 23) (sm _ _ _ (hg_skip n1 hg_here) (wfH_cons hbc (by simp [AV.ltr]; omega) (wfH_cons (by omega) (ltrI _ _) (wfH_cons (by omega) (by simp [AV.ltr]; omega) (wfH_cons (by omega) (ltrI _ _) wfH_nil))))) rfl ?_) | refine wG_pure (o_ldt_pt rfl (hg_skip n2 hg_here) rfl rfl rfl) ?_ | refine wG_call c6 (ag_is rfl hg_here (mks_len _ _).symm iRow_plain (ag_int rfl ag_nil)) rfl ?_ | (first
    | refine wC_a rfl ?_
    | refine q_s rfl ?_
    | refine q_b rfl ?_
    | refine wG_nil ?_
    | refine wG_g rfl ?_
    | refine wG_pure (o_len_vwm rfl) ?_
    | refine wG_pure (o_not_d rfl) ?_
    | refine wG_p rfl (by first | exact rfl | omega) ?_
    | refine wG_pure (o_str2 rfl rfl rfl) ?_
    | refine wG_pure (e_istr rfl rfl (by omega)) ?_
    | refine wG_pure (e_istr0 rfl rfl (by omega)) ?_
    | refine wG_pure (o_not rfl) ?_
    | refine wG_pure (e_ia_vw0 rfl rfl (by omega) rfl) ?_
    | refine wG_pure (e_ia_vwp rfl rfl (by omega) rfl) ?_
    | refine wG_pure (e_ia_vwm rfl rfl (by omega) (by omega) rfl) ?_
    | refine wG_pure (e_ia_vwi rfl rfl (by omega) rfl) ?_
    | refine wG_pure (e_ia_vwn rfl rfl (by omega) (by omega) rfl) ?_
    | refine wG_n rfl rfl ?_
    | refine wG_u rfl rfl ?_
    | refine wG_new (o_mks rfl rfl (by omega) (by decide)) ?_))
    have dM : decide (1 + (vs.length : Int) < 0) = false := decide_eq_false (by omega)
    have dN : decide (1 + (vs.length : Int) ≠ 1 + (vs.length : Int)) = false := decide_eq_false (fun h => h rfl)
    simp only [dM]
    repeat (first
    | refine wC_a rfl ?_
    | refine q_s rfl ?_
    | refine q_b rfl ?_
    | refine wG_nil ?_
    | refine wG_g rfl ?_
    | refine wG_pure (o_len_vwm rfl) ?_
    | refine wG_pure (o_not_d rfl) ?_
    | refine wG_p rfl (by first | exact rfl | omega) ?_
    | refine wG_pure (o_str2 rfl rfl rfl) ?_
    | refine wG_pure (e_istr rfl rfl (by omega)) ?_
    | refine wG_pure (e_istr0 rfl rfl (by omega)) ?_
    | refine wG_pure (o_not rfl) ?_
    | refine wG_pure (e_ia_vw0 rfl rfl (by omega) rfl) ?_
    | refine wG_pure (e_ia_vwp rfl rfl (by omega) rfl) ?_
    | refine wG_pure (e_ia_vwm rfl rfl (by omega) (by omega) rfl) ?_
    | refine wG_pure (e_ia_vwi rfl rfl (by omega) rfl) ?_
    | refine wG_pure (e_ia_vwn rfl rfl (by omega) (by omega) rfl) ?_
    | refine wG_n rfl rfl ?_
    | refine wG_u rfl rfl ?_
    | refine wG_new (o_mks rfl rfl (by omega) (by decide)) ?_)
    simp only [dN]
    repeat (first
    | refine wC_a rfl ?_
    | refine q_s rfl ?_
    | refine q_b rfl ?_
    | refine wG_nil ?_
    | refine wG_g rfl ?_
    | refine wG_pure (o_len_vwm rfl) ?_
    | refine wG_pure (o_not_d rfl) ?_
    | refine wG_p rfl (by first | exact rfl | omega) ?_
    | refine wG_pure (o_str2 rfl rfl rfl) ?_
    | refine wG_pure (e_istr rfl rfl (by omega)) ?_
    | refine wG_pure (e_istr0 rfl rfl (by omega)) ?_
    | refine wG_pure (o_not rfl) ?_
    | refine wG_pure (e_ia_vw0 rfl rfl (by omega) rfl) ?_
    | refine wG_pure (e_ia_vwp rfl rfl (by omega) rfl) ?_
    | refine wG_pure (e_ia_vwm rfl rfl (by omega) (by omega) rfl) ?_
    | refine wG_pure (e_ia_vwi rfl rfl (by omega) rfl) ?_
    | refine wG_pure (e_ia_vwn rfl rfl (by omega) (by omega) rfl) ?_
    | refine wG_n rfl rfl ?_
    | refine wG_u rfl rfl ?_
    | refine wG_new (o_mks rfl rfl (by omega) (by decide)) ?_)
    refine wG_callG (v' := .sl c0 2 0 xs.length) cT rfl rfl rfl ?_
    change wpG _ _ _ ⟨_, tdH c0 xs _, _⟩ _
    obtain ⟨d1, hd1⟩ : ∃ d1, c0 + (tdO xs).length = d1 := ⟨_, rfl⟩
    rw [hd1]
    have w1 : d1 ≠ d1 + 1 := by omega
    have w2 : b0 ≠ d1 := by omega
    have w3 : b0 ≠ d1 + 1 := by omega
    have w4 : b0 + 1 ≠ d1 := by omega
    have w5 : b0 + 1 ≠ d1 + 1 := by omega
    repeat (first | refine wG_call1 cI (ag_any (dr_td xs (fun i rows hi => tdH_in hi)) ag_nil) rfl ?_ | refine wG_upd (o_st_agg rfl hg_here rfl rfl rfl rfl rfl) ?_ | refine wG_pure (o_ldt_pt rfl hg_here rfl rfl rfl) ?_ | refine wG_pure (o_ldt_pt rfl (hg_skip (by omega) (hg_skip (by omega) (hg_skip (by omega) (tdH_out (by omega) (hg_skip q2 (hg_skip q1 (hg_skip q2 hg_here))))))) rfl rfl rfl) ?_ | refine wG_call c5 (ag_is rfl (hg_skip w1 (hg_skip w1 hg_here)) rfl iRow_plain (ag_is rfl (hg_skip (by omega) (hg_skip (by omega) (hg_skip (by omega) (tdH_out (by omega) (hg_skip q4 (hg_skip q3 (hg_skip q4 (hg_skip m1 hg_here)))))))) rfl iRow_plain ag_nil)) rfl ?_ | refine wG_pure (o_ldt_pt rfl (hg_skip w5 (hg_skip w5 (hg_skip w4 (tdH_out (by omega) (hg_skip n2 hg_here))))) rfl rfl rfl) ?_ | refine wG_call c6 (ag_is rfl (hg_skip w3 (hg_skip w3 (hg_skip w2 (tdH_out (by omega) hg_here)))) (mks_len _ _).symm iRow_plain (ag_int rfl ag_nil)) rfl ?_ | (first
    | refine wC_a rfl ?_
    | refine q_s rfl ?_
    | refine q_b rfl ?_
    | refine wG_nil ?_
    | refine wG_g rfl ?_
    | refine wG_pure (o_len_vwm rfl) ?_
    | refine wG_pure (o_not_d rfl) ?_
    | refine wG_p rfl (by first | exact rfl | omega) ?_
    | refine wG_pure (o_str2 rfl rfl rfl) ?_
    | refine wG_pure (e_istr rfl rfl (by omega)) ?_
    | refine wG_pure (e_istr0 rfl rfl (by omega)) ?_
    | refine wG_pure (o_not rfl) ?_
    | refine wG_pure (e_ia_vw0 rfl rfl (by omega) rfl) ?_
    | refine wG_pure (e_ia_vwp rfl rfl (by omega) rfl) ?_
    | refine wG_pure (e_ia_vwm rfl rfl (by omega) (by omega) rfl) ?_
    | refine wG_pure (e_ia_vwi rfl rfl (by omega) rfl) ?_
    | refine wG_pure (e_ia_vwn rfl rfl (by omega) (by omega) rfl) ?_
    | refine wG_n rfl rfl ?_
    | refine wG_u rfl rfl ?_
    | refine wG_new (o_mks rfl rfl (by omega) (by decide)) ?_))
    simp only [dM]
    repeat (first
    | refine wC_a rfl ?_
    | refine q_s rfl ?_
    | refine q_b rfl ?_
    | refine wG_nil ?_
    | refine wG_g rfl ?_
    | refine wG_pure (o_len_vwm rfl) ?_
    | refine wG_pure (o_not_d rfl) ?_
    | refine wG_p rfl (by first | exact rfl | omega) ?_
    | refine wG_pure (o_str2 rfl rfl rfl) ?_
    | refine wG_pure (e_istr rfl rfl (by omega)) ?_
    | refine wG_pure (e_istr0 rfl rfl (by omega)) ?_
    | refine wG_pure (o_not rfl) ?_
    | refine wG_pure (e_ia_vw0 rfl rfl (by omega) rfl) ?_
    | refine wG_pure (e_ia_vwp rfl rfl (by omega) rfl) ?_
    | refine wG_pure (e_ia_vwm rfl rfl (by omega) (by omega) rfl) ?_
    | refine wG_pure (e_ia_vwi rfl rfl (by omega) rfl) ?_
    | refine wG_pure (e_ia_vwn rfl rfl (by omega) (by omega) rfl) ?_
    | refine wG_n rfl rfl ?_
    | refine wG_u rfl rfl ?_
    | refine wG_new (o_mks rfl rfl (by omega) (by decide)) ?_)
    simp only [dN]
    repeat (first
    | refine wC_a rfl ?_
    | refine q_s rfl ?_
    | refine q_b rfl ?_
    | refine wG_nil ?_
    | refine wG_g rfl ?_
    | refine wG_pure (o_len_vwm rfl) ?_
    | refine wG_pure (o_not_d rfl) ?_
    | refine wG_p rfl (by first | exact rfl | omega) ?_
    | refine wG_pure (o_str2 rfl rfl rfl) ?_
    | refine wG_pure (e_istr rfl rfl (by omega)) ?_
    | refine wG_pure (e_istr0 rfl rfl (by omega)) ?_
    | refine wG_pure (o_not rfl) ?_
    | refine wG_pure (e_ia_vw0 rfl rfl (by omega) rfl) ?_
    | refine wG_pure (e_ia_vwp rfl rfl (by omega) rfl) ?_
    | refine wG_pure (e_ia_vwm rfl rfl (by omega) (by omega) rfl) ?_
    | refine wG_pure (e_ia_vwi rfl rfl (by omega) rfl) ?_
    | refine wG_pure (e_ia_vwn rfl rfl (by omega) (by omega) rfl) ?_
    | refine wG_n rfl rfl ?_
    | refine wG_u rfl rfl ?_
    | refine wG_new (o_mks rfl rfl (by omega) (by decide)) ?_)
    exact ret_boolE (.inr rfl) ⟨_, retV_mv rfl, rfl⟩
  · have c5 := eqD_no
    have c6 := heldD_no
    have c7 := con23_nil 0 1
    repeat (first | refine wG_call cS (ag_any (dr_td xs (fun i rows hi => tdH_in hi)) ag_nil) rfl ?_ | refine wG_upd (o_st_agg rfl hg_here rfl rfl rfl rfl rfl) ?_ | (first
    | refine wC_a rfl ?_
    | refine q_s rfl ?_
    | refine q_b rfl ?_
    | refine wG_nil ?_
    | refine wG_g rfl ?_
    | refine wG_pure (o_len_vwm rfl) ?_
    | refine wG_pure (o_not_d rfl) ?_
    | refine wG_p rfl (by first | exact rfl | omega) ?_
    | refine wG_pure (o_str2 rfl rfl rfl) ?_
    | refine wG_pure (e_istr rfl rfl (by omega)) ?_
    | refine wG_pure (e_istr0 rfl rfl (by omega)) ?_
    | refine wG_pure (o_not rfl) ?_
    | refine wG_pure (e_ia_vw0 rfl rfl (by omega) rfl) ?_
    | refine wG_pure (e_ia_vwp rfl rfl (by omega) rfl) ?_
    | refine wG_pure (e_ia_vwm rfl rfl (by omega) (by omega) rfl) ?_
    | refine wG_pure (e_ia_vwi rfl rfl (by omega) rfl) ?_
    | refine wG_pure (e_ia_vwn rfl rfl (by omega) (by omega) rfl) ?_
    | refine wG_n rfl rfl ?_
    | refine wG_u rfl rfl ?_
    | refine wG_new (o_mks rfl rfl (by omega) (by decide)) ?_))
    refine wG_callG (v' := .sl (y1 + 1) 2 0 xs.length) cT rfl rfl rfl ?_
    change wpG _ _ _ ⟨_, tdH (y1 + 1) xs _, _⟩ _
    obtain ⟨b0, hb0⟩ : ∃ b0, y1 + 1 + (tdO xs).length = b0 := ⟨_, rfl⟩
    rw [hb0]
    have hx0 : ∀ {w0 w0' : Option Ab.Rows} {h : List (Nat × Option Ab.Rows)} (i : Nat) (rows : Ab.Rows), (tdO xs)[i]? = some rows → hg ((b0, w0) :: (b0, w0') :: tdH (y1 + 1) xs h) (y1 + 1 + i) = some (shR (y1 + 1) rows) := fun i rows hi => by
      have := tdO_lt hi
      exact hg_skip (by omega) (hg_skip (by omega) (tdH_in hi))
    have hx1 : ∀ {w0 w0' : Option Ab.Rows} {h : List (Nat × Option Ab.Rows)} (i : Nat) (rows : Ab.Rows), (tdO xs)[i]? = some rows → hg (tdH (b0 + 1) xs ((b0, w0) :: (b0, w0') :: tdH (y1 + 1) xs h)) (y1 + 1 + i) = some (shR (y1 + 1) rows) := fun i rows hi => by
      have := tdO_lt hi
      exact tdH_out (by omega) (hx0 i rows hi)
    repeat (first | refine wG_call cI (ag_any (dr_td xs (fun i rows hi => tdH_in hi)) ag_nil) rfl ?_ | refine wG_upd (o_st_agg rfl hg_here rfl rfl rfl rfl rfl) ?_ | refine wG_pure (o_ldt_pt rfl hg_here rfl rfl rfl) ?_ | refine wG_pure (o_ldt_pt rfl (hg_skip (by omega) (hg_skip (by omega) (tdH_out (by omega) hg_here))) rfl rfl rfl) ?_ | refine wG_call c5 rfl rfl ?_ | (first
    | refine wC_a rfl ?_
    | refine q_s rfl ?_
    | refine q_b rfl ?_
    | refine wG_nil ?_
    | refine wG_g rfl ?_
    | refine wG_pure (o_len_vwm rfl) ?_
    | refine wG_pure (o_not_d rfl) ?_
    | refine wG_p rfl (by first | exact rfl | omega) ?_
    | refine wG_pure (o_str2 rfl rfl rfl) ?_
    | refine wG_pure (e_istr rfl rfl (by omega)) ?_
    | refine wG_pure (e_istr0 rfl rfl (by omega)) ?_
    | refine wG_pure (o_not rfl) ?_
    | refine wG_pure (e_ia_vw0 rfl rfl (by omega) rfl) ?_
    | refine wG_pure (e_ia_vwp rfl rfl (by omega) rfl) ?_
    | refine wG_pure (e_ia_vwm rfl rfl (by omega) (by omega) rfl) ?_
    | refine wG_pure (e_ia_vwi rfl rfl (by omega) rfl) ?_
    | refine wG_pure (e_ia_vwn rfl rfl (by omega) (by omega) rfl) ?_
    | refine wG_n rfl rfl ?_
    | refine wG_u rfl rfl ?_
    | refine wG_new (o_mks rfl rfl (by omega) (by decide)) ?_))
    refine wG_callG (v' := .sl (b0 + 1) 2 0 xs.length) cT rfl rfl rfl ?_
    change wpG _ _ _ ⟨_, tdH (b0 + 1) xs _, _⟩ _
    repeat (first | refine wG_call cE (ag_any (dr_td xs hx1) (ag_any (dr_td xs (fun i rows hi => tdH_in hi)) ag_nil)) rfl ?_ | (first
    | refine wC_a rfl ?_
    | refine q_s rfl ?_
    | refine q_b rfl ?_
    | refine wG_nil ?_
    | refine wG_g rfl ?_
    | refine wG_pure (o_len_vwm rfl) ?_
    | refine wG_pure (o_not_d rfl) ?_
    | refine wG_p rfl (by first | exact rfl | omega) ?_
    | refine wG_pure (o_str2 rfl rfl rfl) ?_
    | refine wG_pure (e_istr rfl rfl (by omega)) ?_
    | refine wG_pure (e_istr0 rfl rfl (by omega)) ?_
    | refine wG_pure (o_not rfl) ?_
    | refine wG_pure (e_ia_vw0 rfl rfl (by omega) rfl) ?_
    | refine wG_pure (e_ia_vwp rfl rfl (by omega) rfl) ?_
    | refine wG_pure (e_ia_vwm rfl rfl (by omega) (by omega) rfl) ?_
    | refine wG_pure (e_ia_vwi rfl rfl (by omega) rfl) ?_
    | refine wG_pure (e_ia_vwn rfl rfl (by omega) (by omega) rfl) ?_
    | refine wG_n rfl rfl ?_
    | refine wG_u rfl rfl ?_
    | refine wG_new (o_mks rfl rfl (by omega) (by decide)) ?_))
    refine wG_callS (sM (p := y1 + 1) (h' := [(b0, some [[.int .i64 0, .nilS]]), (y1, some [[.int .i64 0, .nilS]])]) (fun i rows hi => hx1 i rows hi) (by omega) (wfH_cons (by omega) (by simp [AV.ltr]) (wfH_cons (by omega) (by simp [AV.ltr]) wfH_nil)) (fun q rows hq => ?_)) rfl ?_
    · have hm := hg_memL _ hq
      simp only [List.mem_cons, List.not_mem_nil, or_false, Prod.mk.injEq, Option.some.injEq] at hm
      rcases hm with ⟨rfl, rfl⟩ | ⟨rfl, rfl⟩
      · exact ⟨tdH_out (by omega) hg_here, .inr (by omega)⟩
      · exact ⟨tdH_out (by omega) (hg_skip (by omega) (hg_skip (by omega) (tdH_out (by omega) hg_here))), .inl (by omega)⟩
    obtain ⟨c0, hc0, hbc⟩ : ∃ c0, b0 + 1 + (tdO xs).length = c0 ∧ b0 < c0 := ⟨_, rfl, by omega⟩
    rw [hc0]
    have q1 : y1 ≠ b0 := by omega
    repeat (first
    | refine wC_a rfl ?_
    | refine q_s rfl ?_
    | refine q_b rfl ?_
    | refine wG_nil ?_
    | refine wG_g rfl ?_
    | refine wG_pure (o_len_vwm rfl) ?_
    | refine wG_pure (o_not_d rfl) ?_
    | refine wG_p rfl (by first | exact rfl | omega) ?_
    | refine wG_pure (o_str2 rfl rfl rfl) ?_
    | refine wG_pure (e_istr rfl rfl (by omega)) ?_
    | refine wG_pure (e_istr0 rfl rfl (by omega)) ?_
    | refine wG_pure (o_not rfl) ?_
    | refine wG_pure (e_ia_vw0 rfl rfl (by omega) rfl) ?_
    | refine wG_pure (e_ia_vwp rfl rfl (by omega) rfl) ?_
    | refine wG_pure (e_ia_vwm rfl rfl (by omega) (by omega) rfl) ?_
    | refine wG_pure (e_ia_vwi rfl rfl (by omega) rfl) ?_
    | refine wG_pure (e_ia_vwn rfl rfl (by omega) (by omega) rfl) ?_
    | refine wG_n rfl rfl ?_
    | refine wG_u rfl rfl ?_
    | refine wG_new (o_mks rfl rfl (by omega) (by decide)) ?_)
    simp only [dK]
    repeat (first | refine wG_pure (o_ldt_pt rfl hg_here rfl rfl rfl) ?_ | refine wG_pure (o_ldt_pt rfl (hg_skip q1 hg_here) rfl rfl rfl) ?_ | refine wG_call c5 rfl rfl ?_ | refine wG_call c6 rfl rfl ?_ | refine wG_call c7 rfl rfl ?_ | (first
    | refine wC_a rfl ?_
    | refine q_s rfl ?_
    | refine q_b rfl ?_
    | refine wG_nil ?_
    | refine wG_g rfl ?_
    | refine wG_pure (o_len_vwm rfl) ?_
    | refine wG_pure (o_not_d rfl) ?_
    | refine wG_p rfl (by first | exact rfl | omega) ?_
    | refine wG_pure (o_str2 rfl rfl rfl) ?_
    | refine wG_pure (e_istr rfl rfl (by omega)) ?_
    | refine wG_pure (e_istr0 rfl rfl (by omega)) ?_
    | refine wG_pure (o_not rfl) ?_
    | refine wG_pure (e_ia_vw0 rfl rfl (by omega) rfl) ?_
    | refine wG_pure (e_ia_vwp rfl rfl (by omega) rfl) ?_
    | refine wG_pure (e_ia_vwm rfl rfl (by omega) (by omega) rfl) ?_
    | refine wG_pure (e_ia_vwi rfl rfl (by omega) rfl) ?_
    | refine wG_pure (e_ia_vwn rfl rfl (by omega) (by omega) rfl) ?_
    | refine wG_n rfl rfl ?_
    | refine wG_u rfl rfl ?_
    | refine wG_new (o_mks rfl rfl (by omega) (by decide)) ?_))
    refine wG_callG (v' := .sl c0 2 0 xs.length) cT rfl rfl rfl ?_
    change wpG _ _ _ ⟨_, tdH c0 xs _, _⟩ _
    obtain ⟨d1, hd1⟩ : ∃ d1, c0 + (tdO xs).length = d1 := ⟨_, rfl⟩
    rw [hd1]
    have w1 : b0 ≠ d1 := by omega
    repeat (first | refine wG_call cI (ag_any (dr_td xs (fun i rows hi => tdH_in hi)) ag_nil) rfl ?_ | refine wG_upd (o_st_agg rfl hg_here rfl rfl rfl rfl rfl) ?_ | refine wG_pure (o_ldt_pt rfl hg_here rfl rfl rfl) ?_ | refine wG_pure (o_ldt_pt rfl (hg_skip (by omega) (hg_skip (by omega) (tdH_out (by omega) (hg_skip q1 hg_here)))) rfl rfl rfl) ?_ | refine wG_pure (o_ldt_pt rfl (hg_skip w1 (hg_skip w1 (tdH_out (by omega) hg_here))) rfl rfl rfl) ?_ | refine wG_call c5 rfl rfl ?_ | refine wG_call c6 rfl rfl ?_ | (first
    | refine wC_a rfl ?_
    | refine q_s rfl ?_
    | refine q_b rfl ?_
    | refine wG_nil ?_
    | refine wG_g rfl ?_
    | refine wG_pure (o_len_vwm rfl) ?_
    | refine wG_pure (o_not_d rfl) ?_
    | refine wG_p rfl (by first | exact rfl | omega) ?_
    | refine wG_pure (o_str2 rfl rfl rfl) ?_
    | refine wG_pure (e_istr rfl rfl (by omega)) ?_
    | refine wG_pure (e_istr0 rfl rfl (by omega)) ?_
    | refine wG_pure (o_not rfl) ?_
    | refine wG_pure (e_ia_vw0 rfl rfl (by omega) rfl) ?_
    | refine wG_pure (e_ia_vwp rfl rfl (by omega) rfl) ?_
    | refine wG_pure (e_ia_vwm rfl rfl (by omega) (by omega) rfl) ?_
    | refine wG_pure (e_ia_vwi rfl rfl (by omega) rfl) ?_
    | refine wG_pure (e_ia_vwn rfl rfl (by omega) (by omega) rfl) ?_
    | refine wG_n rfl rfl ?_
    | refine wG_u rfl rfl ?_
    | refine wG_new (o_mks rfl rfl (by omega) (by decide)) ?_))
    exact ret_boolE (.inr rfl) ⟨_, retV_mv rfl, rfl⟩
end Go.Proofs.Ytnohaclnpbpjbaa.Dst
