/- The laws on the number of datings and the chance of an order. -/
import Derived.Test.YtkeobnaehgcloaaDnH
import Derived.Test.YtkeobnaehgcloaaDnD
namespace Go.Proofs.Ytkeobnaehgcloaa.Dst
open Go Go.Proofs.Ytkeobnaehgcloaa.Ab Go.Proofs.Ytkeobnaehgcloaa.Il Go.Proofs.Ytkeobnaehgcloaa.Rec
attribute [local irreducible] wpO wpC wpDr wpQ wpG wpE stepA seqQ blkQ Ret RetG ev
set_option maxRecDepth 10000
set_option maxHeartbeats 8000000
set_option linter.unusedSimpArgs false
set_option linter.unusedVariables false

def ac6 : AC := (.seq (.reg [⟨(some 1), none, (.box 3 true (.t 0))⟩, ⟨(some 2), none, (.mv (.c (.bool false)))⟩]) (.seq (.reg [⟨(some 3), none, (.mv (.c (.int .i64 1048576)))⟩]) (.seq (.reg [⟨(some 11), none, (.ld true 3 (.t 1))⟩, ⟨(some 12), none, (.mv (.t 3))⟩, ⟨(some 13), none, (.call 12 [(.t 11), (.t 12)])⟩, ⟨(some 3), none, (.mv (.t 13))⟩]) (.seq (.seq (.reg [⟨(some 14), none, (.mv (.t 3))⟩, ⟨(some 15), none, (.bin .lss (.t 14) (.c (.int .i64 0)))⟩]) (.cond (.t 15) (.seq (.reg [⟨(some 2), none, (.mv (.c (.bool true)))⟩]) .ret) .skip)) (.seq (.reg [⟨(some 17), none, (.ld true 3 (.t 1))⟩, ⟨(some 18), none, (.call 15 [(.t 17)])⟩, ⟨(some 19), none, (.call 29 [(.t 18)])⟩, ⟨(some 16), none, (.mv (.t 19))⟩, ⟨(some 20), none, (.ext (.t 16) 0)⟩, ⟨(some 21), none, (.ext (.t 16) 1)⟩, ⟨(some 22), none, (.ext (.t 16) 2)⟩, ⟨(some 4), none, (.mv (.t 20))⟩, ⟨(some 5), none, (.mv (.t 21))⟩, ⟨(some 6), none, (.mv (.t 22))⟩]) (.seq (.reg [⟨(some 23), none, (.ld true 3 (.t 1))⟩, ⟨(some 24), none, (.call 15 [(.t 23)])⟩, ⟨(some 7), none, (.alloc [.nilS, .nilS, .nilS])⟩, ⟨none, none, (.st 3 (.t 7) (.t 24))⟩]) (.seq (.reg [⟨(some 26), none, (.ld true 3 (.t 7))⟩, ⟨(some 27), none, (.call 30 [(.t 26)])⟩, ⟨(some 25), none, (.mv (.t 27))⟩, ⟨(some 28), none, (.ext (.t 25) 0)⟩, ⟨(some 29), none, (.ext (.t 25) 1)⟩, ⟨(some 30), none, (.ext (.t 25) 2)⟩, ⟨(some 8), none, (.mv (.t 28))⟩, ⟨(some 9), none, (.mv (.t 29))⟩, ⟨(some 10), none, (.mv (.t 30))⟩]) (.seq (.seq (.reg [⟨(some 31), none, (.mv (.t 8))⟩, ⟨(some 32), none, (.mv (.t 4))⟩, ⟨(some 33), none, (.bin .neq (.t 31) (.t 32))⟩, ⟨(some 34), none, (.mv (.t 33))⟩, ⟨(some 35), (some (34, false)), (.mv (.t 9))⟩, ⟨(some 36), (some (34, false)), (.mv (.t 5))⟩, ⟨(some 37), (some (34, false)), (.bin .neq (.t 35) (.t 36))⟩, ⟨(some 38), none, (.pick (.t 34) (.c (.bool true)) (.t 37))⟩, ⟨(some 39), none, (.mv (.t 38))⟩, ⟨(some 40), (some (39, false)), (.mv (.t 10))⟩, ⟨(some 41), (some (39, false)), (.mv (.t 6))⟩, ⟨(some 42), (some (39, false)), (.bool2 true (.t 40) (.t 41))⟩, ⟨(some 43), none, (.pick (.t 39) (.c (.bool true)) (.t 42))⟩]) (.cond (.t 43) (.seq (.reg [⟨(some 2), none, (.mv (.c (.bool false)))⟩]) .ret) .skip)) (.seq (.seq (.dreg [⟨(some 44), none, (.ld true 3 (.t 7))⟩, ⟨(some 45), none, (.ld true 3 (.t 1))⟩, ⟨(some 46), none, (.call 15 [(.t 45)])⟩, ⟨(some 47), none, (.call 18 [(.t 44), (.t 46)])⟩, ⟨(some 48), none, (.un .not (.t 47))⟩] [[], [], [1], [0, 1, 2], [0, 1, 2, 3]]) (.cond (.t 48) (.seq (.reg [⟨(some 2), none, (.mv (.c (.bool false)))⟩]) .ret) .skip)) (.seq (.reg [⟨(some 2), none, (.mv (.c (.bool true)))⟩]) .ret))))))))))
def ro6 : List AOp := [(.mv (.t 2))]
theorem fun6 : Fun Try.prog 6 49 ac6 ro6 := ⟨Try.f6, _, Try.func6, by kernel_rfl, rfl, rfl, by kernel_rfl, by kernel_rfl, by decide⟩
def ac7 : AC := (.seq (.reg [⟨(some 3), none, (.box 3 true (.t 0))⟩, ⟨(some 6), none, (.mv (.c (.bool false)))⟩]) (.seq (.reg [⟨(some 7), none, (.mv (.c (.int .i64 1048576)))⟩]) (.seq (.reg [⟨(some 15), none, (.ld true 3 (.t 3))⟩, ⟨(some 16), none, (.mv (.t 7))⟩, ⟨(some 17), none, (.call 12 [(.t 15), (.t 16)])⟩, ⟨(some 7), none, (.mv (.t 17))⟩]) (.seq (.seq (.reg [⟨(some 18), none, (.mv (.t 7))⟩, ⟨(some 19), none, (.bin .lss (.t 18) (.c (.int .i64 0)))⟩]) (.cond (.t 19) (.seq (.reg [⟨(some 6), none, (.mv (.c (.bool true)))⟩]) .ret) .skip)) (.seq (.reg [⟨(some 21), none, (.ld true 3 (.t 3))⟩, ⟨(some 22), none, (.call 15 [(.t 21)])⟩, ⟨(some 23), none, (.mv (.t 1))⟩, ⟨(some 24), none, (.mv (.t 2))⟩, ⟨(some 25), none, (.call 31 [(.t 22), (.t 23), (.t 24)])⟩, ⟨(some 20), none, (.mv (.t 25))⟩, ⟨(some 26), none, (.ext (.t 20) 0)⟩, ⟨(some 27), none, (.ext (.t 20) 1)⟩, ⟨(some 28), none, (.ext (.t 20) 2)⟩, ⟨(some 8), none, (.mv (.t 26))⟩, ⟨(some 9), none, (.mv (.t 27))⟩, ⟨(some 10), none, (.mv (.t 28))⟩]) (.seq (.reg [⟨(some 29), none, (.ld true 3 (.t 3))⟩, ⟨(some 30), none, (.call 15 [(.t 29)])⟩, ⟨(some 11), none, (.alloc [.nilS, .nilS, .nilS])⟩, ⟨none, none, (.st 3 (.t 11) (.t 30))⟩]) (.seq (.reg [⟨(some 32), none, (.ld true 3 (.t 11))⟩, ⟨(some 33), none, (.mv (.t 1))⟩, ⟨(some 34), none, (.mv (.t 2))⟩, ⟨(some 35), none, (.call 32 [(.t 32), (.t 33), (.t 34)])⟩, ⟨(some 31), none, (.mv (.t 35))⟩, ⟨(some 36), none, (.ext (.t 31) 0)⟩, ⟨(some 37), none, (.ext (.t 31) 1)⟩, ⟨(some 38), none, (.ext (.t 31) 2)⟩, ⟨(some 12), none, (.mv (.t 36))⟩, ⟨(some 13), none, (.mv (.t 37))⟩, ⟨(some 14), none, (.mv (.t 38))⟩]) (.seq (.seq (.reg [⟨(some 39), none, (.mv (.t 12))⟩, ⟨(some 40), none, (.mv (.t 8))⟩, ⟨(some 41), none, (.bin .neq (.t 39) (.t 40))⟩, ⟨(some 42), none, (.mv (.t 41))⟩, ⟨(some 43), (some (42, false)), (.mv (.t 13))⟩, ⟨(some 44), (some (42, false)), (.mv (.t 9))⟩, ⟨(some 45), (some (42, false)), (.bin .neq (.t 43) (.t 44))⟩, ⟨(some 46), none, (.pick (.t 42) (.c (.bool true)) (.t 45))⟩, ⟨(some 47), none, (.mv (.t 46))⟩, ⟨(some 48), (some (47, false)), (.mv (.t 14))⟩, ⟨(some 49), (some (47, false)), (.mv (.t 10))⟩, ⟨(some 50), (some (47, false)), (.bool2 true (.t 48) (.t 49))⟩, ⟨(some 51), none, (.pick (.t 47) (.c (.bool true)) (.t 50))⟩]) (.cond (.t 51) (.seq (.reg [⟨(some 6), none, (.mv (.c (.bool false)))⟩]) .ret) .skip)) (.seq (.seq (.dreg [⟨(some 52), none, (.ld true 3 (.t 11))⟩, ⟨(some 53), none, (.ld true 3 (.t 3))⟩, ⟨(some 54), none, (.call 15 [(.t 53)])⟩, ⟨(some 55), none, (.call 18 [(.t 52), (.t 54)])⟩, ⟨(some 56), none, (.un .not (.t 55))⟩] [[], [], [1], [0, 1, 2], [0, 1, 2, 3]]) (.cond (.t 56) (.seq (.reg [⟨(some 6), none, (.mv (.c (.bool false)))⟩]) .ret) .skip)) (.seq (.reg [⟨(some 6), none, (.mv (.c (.bool true)))⟩]) .ret))))))))))
def ro7 : List AOp := [(.mv (.t 6))]
theorem fun7 : Fun Try.prog 7 57 ac7 ro7 := ⟨Try.f7, _, Try.func7, by kernel_rfl, rfl, rfl, by kernel_rfl, by kernel_rfl, by decide⟩

theorem con6 (a b c : Bool) (r : Rc) (xs : List Dn)   (h1 : r.cs.length ≤ 9223372036854775807) (h2 : r.xs.length ≤ 9223372036854775807) (h3 : xs.length ≤ 9223372036854775807) (hL : LenN xs 9223372036854775807) : Con Try.prog 6 true [.agg (dtR a b c r xs) ] (.bool true) [] := by
  classical
  refine con_of_wp mixed fun6 (by simp) [] plain_nil ?_
  unfold ac6 ro6
  simp only [zipT]
  have c1 := con12 a b c r xs h1 h2 h3 hL 1048576 (by decide) (by decide)
  by_cases hR : szR 1048576 r < 0
  · rw [if_pos hR] at c1
    repeat (first | refine wG_call c1 rfl rfl ?_ | (first
    | refine wC_a rfl ?_
    | refine q_s rfl ?_
    | refine q_b rfl ?_
    | refine wG_nil ?_
    | refine wG_g rfl ?_
    | refine wG_pure (o_len_vwm rfl) ?_
    | refine wG_pure (o_not_d rfl) ?_
    | refine wG_p rfl (by first | exact rfl | omega) ?_
    | refine wG_pure (o_str2 rfl rfl rfl) ?_
    | refine wG_pure (e_istr rfl rfl (by omega)) ?_
    | refine wG_pure (e_istr0 rfl rfl (by omega)) ?_
    | refine wG_pure (o_not rfl) ?_
    | refine wG_pure (e_ia_vw0 rfl rfl (by omega) rfl) ?_
    | refine wG_pure (e_ia_vwp rfl rfl (by omega) rfl) ?_
    | refine wG_pure (e_ia_vwm rfl rfl (by omega) (by omega) rfl) ?_
    | refine wG_pure (e_ia_vwi rfl rfl (by omega) rfl) ?_
    | refine wG_pure (e_ia_vwn rfl rfl (by omega) (by omega) rfl) ?_
    | refine wG_n rfl rfl ?_
    | refine wG_u rfl rfl ?_
    | refine wG_new (o_mks rfl rfl (by omega) (by decide)) ?_))
    exact ret_boolE (.inr rfl) ⟨_, retV_mv rfl, rfl⟩
  rw [if_neg hR] at c1
  obtain ⟨s1, s2, s3⟩ := szR_ok (Int.not_lt.1 hR)
  by_cases hD2 : szD (szR 1048576 r) xs < 0
  · rw [if_pos hD2] at c1
    repeat (first | refine wG_call c1 rfl rfl ?_ | (first
    | refine wC_a rfl ?_
    | refine q_s rfl ?_
    | refine q_b rfl ?_
    | refine wG_nil ?_
    | refine wG_g rfl ?_
    | refine wG_pure (o_len_vwm rfl) ?_
    | refine wG_pure (o_not_d rfl) ?_
    | refine wG_p rfl (by first | exact rfl | omega) ?_
    | refine wG_pure (o_str2 rfl rfl rfl) ?_
    | refine wG_pure (e_istr rfl rfl (by omega)) ?_
    | refine wG_pure (e_istr0 rfl rfl (by omega)) ?_
    | refine wG_pure (o_not rfl) ?_
    | refine wG_pure (e_ia_vw0 rfl rfl (by omega) rfl) ?_
    | refine wG_pure (e_ia_vwp rfl rfl (by omega) rfl) ?_
    | refine wG_pure (e_ia_vwm rfl rfl (by omega) (by omega) rfl) ?_
    | refine wG_pure (e_ia_vwi rfl rfl (by omega) rfl) ?_
    | refine wG_pure (e_ia_vwn rfl rfl (by omega) (by omega) rfl) ?_
    | refine wG_n rfl rfl ?_
    | refine wG_u rfl rfl ?_
    | refine wG_new (o_mks rfl rfl (by omega) (by decide)) ?_))
    exact ret_boolE (.inr rfl) ⟨_, retV_mv rfl, rfl⟩
  rw [if_neg hD2] at c1
  obtain ⟨s4, s5, s6⟩ := szD_ok (Int.not_lt.1 hD2)
  have h1' : r.cs.length ≤ 1048576 := by omega
  have h2' : r.xs.length ≤ 1048576 := by omega
  have h3' : xs.length ≤ 1048576 := by omega
  have hL' : LenN xs 1048576 := fun i hi => by have := s5 i hi; omega
  have h3t : (tD xs).length ≤ 1048576 := by rw [tD_len]; exact h3'
  have hLt := hL'.t
  have cT := con15 a b c r xs h1' h2' h3' hL'
  obtain ⟨z, w, p, cS, cI⟩ : ∃ z w p, Con Try.prog 29 true [.agg (dtR true true true r (tD xs)) ] (.tup [.int .i64 z, .int .i64 w, .bool p]) [] ∧ Con Try.prog 30 true [.agg (dtR true true true r (tD xs)) ] (.tup [.int .i64 z, .int .i64 w, .bool p]) [] := by
    first
      | (by_cases hk : GoodN r (tD xs)
         · exact ⟨_, _, true, con29_yes true true true r (tD xs) h1' h2' h3t hLt hk, con30_yes true true true r (tD xs) h1' h2' h3t hLt hk⟩
         · exact ⟨_, _, false, con29_no true true true r (tD xs) h1' h2' h3t hLt hk, con30_no true true true r (tD xs) h1' h2' h3t hLt hk⟩)
      | (by_cases hk : okO r (tD xs) x y
         · obtain ⟨i, hi⟩ : ∃ i : Nat, idx r x = i := ⟨_, (Int.toNat_of_nonneg hk.2.1).symm⟩
           obtain ⟨k, hk2⟩ : ∃ k : Nat, idx r y = k := ⟨_, (Int.toNat_of_nonneg hk.2.2).symm⟩
           exact ⟨_, _, true, con29_yes true true true r (tD xs) x y h1' h2' h3t hLt hk.1 hi hk2, con30_yes true true true r (tD xs) x y h1' h2' h3t hLt hk.1 hi hk2⟩
         · exact ⟨_, _, false, con29_no true true true r (tD xs) x y h1' h2' h3t hLt hk, con30_no true true true r (tD xs) x y h1' h2' h3t hLt hk⟩)
  have cE := con18 true true true true true true r (tD xs) h1' h2' h3t hLt
  have hlen := dtO_len r xs
  have d0 : decide (szD (szR 1048576 r) xs < 0) = false := decide_eq_false hD2
  repeat (first | refine wG_call c1 rfl rfl ?_ | (first
    | refine wC_a rfl ?_
    | refine q_s rfl ?_
    | refine q_b rfl ?_
    | refine wG_nil ?_
    | refine wG_g rfl ?_
    | refine wG_pure (o_len_vwm rfl) ?_
    | refine wG_pure (o_not_d rfl) ?_
    | refine wG_p rfl (by first | exact rfl | omega) ?_
    | refine wG_pure (o_str2 rfl rfl rfl) ?_
    | refine wG_pure (e_istr rfl rfl (by omega)) ?_
    | refine wG_pure (e_istr0 rfl rfl (by omega)) ?_
    | refine wG_pure (o_not rfl) ?_
    | refine wG_pure (e_ia_vw0 rfl rfl (by omega) rfl) ?_
    | refine wG_pure (e_ia_vwp rfl rfl (by omega) rfl) ?_
    | refine wG_pure (e_ia_vwm rfl rfl (by omega) (by omega) rfl) ?_
    | refine wG_pure (e_ia_vwi rfl rfl (by omega) rfl) ?_
    | refine wG_pure (e_ia_vwn rfl rfl (by omega) (by omega) rfl) ?_
    | refine wG_n rfl rfl ?_
    | refine wG_u rfl rfl ?_
    | refine wG_new (o_mks rfl rfl (by omega) (by decide)) ?_))
  simp only [d0]
  repeat (first
    | refine wC_a rfl ?_
    | refine q_s rfl ?_
    | refine q_b rfl ?_
    | refine wG_nil ?_
    | refine wG_g rfl ?_
    | refine wG_pure (o_len_vwm rfl) ?_
    | refine wG_pure (o_not_d rfl) ?_
    | refine wG_p rfl (by first | exact rfl | omega) ?_
    | refine wG_pure (o_str2 rfl rfl rfl) ?_
    | refine wG_pure (e_istr rfl rfl (by omega)) ?_
    | refine wG_pure (e_istr0 rfl rfl (by omega)) ?_
    | refine wG_pure (o_not rfl) ?_
    | refine wG_pure (e_ia_vw0 rfl rfl (by omega) rfl) ?_
    | refine wG_pure (e_ia_vwp rfl rfl (by omega) rfl) ?_
    | refine wG_pure (e_ia_vwm rfl rfl (by omega) (by omega) rfl) ?_
    | refine wG_pure (e_ia_vwi rfl rfl (by omega) rfl) ?_
    | refine wG_pure (e_ia_vwn rfl rfl (by omega) (by omega) rfl) ?_
    | refine wG_n rfl rfl ?_
    | refine wG_u rfl rfl ?_
    | refine wG_new (o_mks rfl rfl (by omega) (by decide)) ?_)
  refine wG_callG (v' := dtV 1 r xs) cT rfl rfl rfl ?_
  change wpG _ _ _ ⟨_, dtH 1 r xs _, _⟩ _
  obtain ⟨m2, hm2⟩ : ∃ m2, 0 + 1 + (dtO r xs).length = m2 := ⟨_, rfl⟩
  rw [hm2]
  repeat (first | refine wG_call cS (ag_any (dr_dt r xs (fun i rows hi => dtH_in hi)) ag_nil) rfl ?_ | (first
    | refine wC_a rfl ?_
    | refine q_s rfl ?_
    | refine q_b rfl ?_
    | refine wG_nil ?_
    | refine wG_g rfl ?_
    | refine wG_pure (o_len_vwm rfl) ?_
    | refine wG_pure (o_not_d rfl) ?_
    | refine wG_p rfl (by first | exact rfl | omega) ?_
    | refine wG_pure (o_str2 rfl rfl rfl) ?_
    | refine wG_pure (e_istr rfl rfl (by omega)) ?_
    | refine wG_pure (e_istr0 rfl rfl (by omega)) ?_
    | refine wG_pure (o_not rfl) ?_
    | refine wG_pure (e_ia_vw0 rfl rfl (by omega) rfl) ?_
    | refine wG_pure (e_ia_vwp rfl rfl (by omega) rfl) ?_
    | refine wG_pure (e_ia_vwm rfl rfl (by omega) (by omega) rfl) ?_
    | refine wG_pure (e_ia_vwi rfl rfl (by omega) rfl) ?_
    | refine wG_pure (e_ia_vwn rfl rfl (by omega) (by omega) rfl) ?_
    | refine wG_n rfl rfl ?_
    | refine wG_u rfl rfl ?_
    | refine wG_new (o_mks rfl rfl (by omega) (by decide)) ?_))
  refine wG_pure (o_ldt_pt rfl (dtH_out (by omega) rfl) rfl rfl rfl) ?_
  refine wG_callG (v' := dtV m2 r xs) cT rfl rfl rfl ?_
  change wpG _ _ _ ⟨_, dtH m2 r xs _, _⟩ _
  obtain ⟨b0, hb0⟩ : ∃ b0, m2 + (dtO r xs).length = b0 := ⟨_, rfl⟩
  rw [hb0]
  have hx0 : ∀ {v1 v2 : Option Ab.Rows} {h : List (Nat × Option Ab.Rows)} (i : Nat) (rows : Ab.Rows), (dtO r xs)[i]? = some rows → hg ((b0, v1) :: (b0, v2) :: dtH m2 r xs h) (m2 + i) = some (shR m2 rows) := fun i rows hi => by
    have := dtO_lt hi
    exact hg_skip (by omega) (hg_skip (by omega) (dtH_in hi))
  have hx1 : ∀ {v1 v2 : Option Ab.Rows} {h : List (Nat × Option Ab.Rows)} (i : Nat) (rows : Ab.Rows), (dtO r xs)[i]? = some rows → hg (dtH (b0 + 1) r xs ((b0, v1) :: (b0, v2) :: dtH m2 r xs h)) (m2 + i) = some (shR m2 rows) := fun i rows hi => by
    have := dtO_lt hi
    exact dtH_out (by omega) (hx0 i rows hi)
  have dz : decide (z ≠ z) = false := decide_eq_false (fun h => h rfl)
  have dw : decide (w ≠ w) = false := decide_eq_false (fun h => h rfl)
  have dp : decide (p ≠ p) = false := decide_eq_false (fun h => h rfl)
  repeat (first | refine wC_dregE ?_ | refine wG_upd (o_st_agg rfl hg_here rfl rfl rfl rfl rfl) ?_ | refine wG_pure (o_ldt_pt rfl hg_here rfl rfl rfl) ?_ | refine wG_call cI (ag_any (dr_dt r xs hx0) ag_nil) rfl ?_ | (first
    | refine wC_a rfl ?_
    | refine q_s rfl ?_
    | refine q_b rfl ?_
    | refine wG_nil ?_
    | refine wG_g rfl ?_
    | refine wG_pure (o_len_vwm rfl) ?_
    | refine wG_pure (o_not_d rfl) ?_
    | refine wG_p rfl (by first | exact rfl | omega) ?_
    | refine wG_pure (o_str2 rfl rfl rfl) ?_
    | refine wG_pure (e_istr rfl rfl (by omega)) ?_
    | refine wG_pure (e_istr0 rfl rfl (by omega)) ?_
    | refine wG_pure (o_not rfl) ?_
    | refine wG_pure (e_ia_vw0 rfl rfl (by omega) rfl) ?_
    | refine wG_pure (e_ia_vwp rfl rfl (by omega) rfl) ?_
    | refine wG_pure (e_ia_vwm rfl rfl (by omega) (by omega) rfl) ?_
    | refine wG_pure (e_ia_vwi rfl rfl (by omega) rfl) ?_
    | refine wG_pure (e_ia_vwn rfl rfl (by omega) (by omega) rfl) ?_
    | refine wG_n rfl rfl ?_
    | refine wG_u rfl rfl ?_
    | refine wG_new (o_mks rfl rfl (by omega) (by decide)) ?_))
  simp only [dz]
  repeat (first
    | refine wC_a rfl ?_
    | refine q_s rfl ?_
    | refine q_b rfl ?_
    | refine wG_nil ?_
    | refine wG_g rfl ?_
    | refine wG_pure (o_len_vwm rfl) ?_
    | refine wG_pure (o_not_d rfl) ?_
    | refine wG_p rfl (by first | exact rfl | omega) ?_
    | refine wG_pure (o_str2 rfl rfl rfl) ?_
    | refine wG_pure (e_istr rfl rfl (by omega)) ?_
    | refine wG_pure (e_istr0 rfl rfl (by omega)) ?_
    | refine wG_pure (o_not rfl) ?_
    | refine wG_pure (e_ia_vw0 rfl rfl (by omega) rfl) ?_
    | refine wG_pure (e_ia_vwp rfl rfl (by omega) rfl) ?_
    | refine wG_pure (e_ia_vwm rfl rfl (by omega) (by omega) rfl) ?_
    | refine wG_pure (e_ia_vwi rfl rfl (by omega) rfl) ?_
    | refine wG_pure (e_ia_vwn rfl rfl (by omega) (by omega) rfl) ?_
    | refine wG_n rfl rfl ?_
    | refine wG_u rfl rfl ?_
    | refine wG_new (o_mks rfl rfl (by omega) (by decide)) ?_)
  simp only [dw]
  repeat (first
    | refine wC_a rfl ?_
    | refine q_s rfl ?_
    | refine q_b rfl ?_
    | refine wG_nil ?_
    | refine wG_g rfl ?_
    | refine wG_pure (o_len_vwm rfl) ?_
    | refine wG_pure (o_not_d rfl) ?_
    | refine wG_p rfl (by first | exact rfl | omega) ?_
    | refine wG_pure (o_str2 rfl rfl rfl) ?_
    | refine wG_pure (e_istr rfl rfl (by omega)) ?_
    | refine wG_pure (e_istr0 rfl rfl (by omega)) ?_
    | refine wG_pure (o_not rfl) ?_
    | refine wG_pure (e_ia_vw0 rfl rfl (by omega) rfl) ?_
    | refine wG_pure (e_ia_vwp rfl rfl (by omega) rfl) ?_
    | refine wG_pure (e_ia_vwm rfl rfl (by omega) (by omega) rfl) ?_
    | refine wG_pure (e_ia_vwi rfl rfl (by omega) rfl) ?_
    | refine wG_pure (e_ia_vwn rfl rfl (by omega) (by omega) rfl) ?_
    | refine wG_n rfl rfl ?_
    | refine wG_u rfl rfl ?_
    | refine wG_new (o_mks rfl rfl (by omega) (by decide)) ?_)
  simp only [dp]
  repeat (first | refine wC_dregE ?_ | refine wE_v (o_ldt_pt rfl hg_here rfl rfl rfl) rfl ?_ | refine wE_v (o_ldt_pt rfl (hg_skip (by omega) (hg_skip (by omega) (dtH_out (by omega) (dtH_out (by omega) rfl)))) rfl rfl rfl) rfl ?_ | refine wE_callG (v' := dtV (b0 + 1) r xs) cT rfl rfl rfl rfl ?_ | refine wE_call cE (ag_any (dr_dt r xs hx1) (ag_any (dr_dt r xs (fun i rows hi => dtH_in hi)) ag_nil)) rfl rfl ?_ | refine wE_nil (hok5 (djB_mkh (by omega))) ?_ | (first
    | refine wC_a rfl ?_
    | refine q_s rfl ?_
    | refine q_b rfl ?_
    | refine wG_nil ?_
    | refine wG_g rfl ?_
    | refine wG_pure (o_len_vwm rfl) ?_
    | refine wG_pure (o_not_d rfl) ?_
    | refine wG_p rfl (by first | exact rfl | omega) ?_
    | refine wG_pure (o_str2 rfl rfl rfl) ?_
    | refine wG_pure (e_istr rfl rfl (by omega)) ?_
    | refine wG_pure (e_istr0 rfl rfl (by omega)) ?_
    | refine wG_pure (o_not rfl) ?_
    | refine wG_pure (e_ia_vw0 rfl rfl (by omega) rfl) ?_
    | refine wG_pure (e_ia_vwp rfl rfl (by omega) rfl) ?_
    | refine wG_pure (e_ia_vwm rfl rfl (by omega) (by omega) rfl) ?_
    | refine wG_pure (e_ia_vwi rfl rfl (by omega) rfl) ?_
    | refine wG_pure (e_ia_vwn rfl rfl (by omega) (by omega) rfl) ?_
    | refine wG_n rfl rfl ?_
    | refine wG_u rfl rfl ?_
    | refine wG_new (o_mks rfl rfl (by omega) (by decide)) ?_) | (first
    | refine wE_nil (by kernel_rfl) ?_
    | refine wE_gy rfl ?_
    | refine wE_gn rfl rfl rfl ?_
    | refine wE_gu rfl rfl ?_
    | refine wE_gnn rfl rfl rfl ?_
    | refine wE_v (o_len_vwm rfl) rfl ?_
    | refine wE_v (o_not_d rfl) rfl ?_
    | refine wE_p rfl (by first | exact rfl | omega) rfl ?_
    | refine wE_v (o_str2 rfl rfl rfl) rfl ?_
    | refine wE_v (e_istr rfl rfl (by omega)) rfl ?_
    | refine wE_v (e_istr0 rfl rfl (by omega)) rfl ?_
    | refine wE_v (o_not rfl) rfl ?_
    | refine wE_v (e_ia_vw0 rfl rfl (by omega) rfl) rfl ?_
    | refine wE_v (e_ia_vwp rfl rfl (by omega) rfl) rfl ?_
    | refine wE_v (e_ia_vwm rfl rfl (by omega) (by omega) rfl) rfl ?_
    | refine wE_v (e_ia_vwi rfl rfl (by omega) rfl) rfl ?_
    | refine wE_v (e_ia_vwn rfl rfl (by omega) (by omega) rfl) rfl ?_
    | refine wE_n rfl rfl rfl ?_
    | refine wE_u rfl rfl rfl ?_
    | refine wE_new (o_mks rfl rfl (by omega) (by decide)) rfl ?_))
  exact ret_boolE (.inr rfl) ⟨_, retV_mv rfl, rfl⟩
theorem con7 (a b c : Bool) (r : Rc) (xs : List Dn) (x y : Int) (h1 : r.cs.length ≤ 9223372036854775807) (h2 : r.xs.length ≤ 9223372036854775807) (h3 : xs.length ≤ 9223372036854775807) (hL : LenN xs 9223372036854775807) : Con Try.prog 7 true [.agg (dtR a b c r xs), .int .i64 x, .int .i64 y] (.bool true) [] := by
  classical
  refine con_of_wp mixed fun7 (by simp) [] plain_nil ?_
  unfold ac7 ro7
  simp only [zipT]
  have c1 := con12 a b c r xs h1 h2 h3 hL 1048576 (by decide) (by decide)
  by_cases hR : szR 1048576 r < 0
  · rw [if_pos hR] at c1
    repeat (first | refine wG_call c1 rfl rfl ?_ | (first
    | refine wC_a rfl ?_
    | refine q_s rfl ?_
    | refine q_b rfl ?_
    | refine wG_nil ?_
    | refine wG_g rfl ?_
    | refine wG_pure (o_len_vwm rfl) ?_
    | refine wG_pure (o_not_d rfl) ?_
    | refine wG_p rfl (by first | exact rfl | omega) ?_
    | refine wG_pure (o_str2 rfl rfl rfl) ?_
    | refine wG_pure (e_istr rfl rfl (by omega)) ?_
    | refine wG_pure (e_istr0 rfl rfl (by omega)) ?_
    | refine wG_pure (o_not rfl) ?_
    | refine wG_pure (e_ia_vw0 rfl rfl (by omega) rfl) ?_
    | refine wG_pure (e_ia_vwp rfl rfl (by omega) rfl) ?_
    | refine wG_pure (e_ia_vwm rfl rfl (by omega) (by omega) rfl) ?_
    | refine wG_pure (e_ia_vwi rfl rfl (by omega) rfl) ?_
    | refine wG_pure (e_ia_vwn rfl rfl (by omega) (by omega) rfl) ?_
    | refine wG_n rfl rfl ?_
    | refine wG_u rfl rfl ?_
    | refine wG_new (o_mks rfl rfl (by omega) (by decide)) ?_))
    exact ret_boolE (.inr rfl) ⟨_, retV_mv rfl, rfl⟩
  rw [if_neg hR] at c1
  obtain ⟨s1, s2, s3⟩ := szR_ok (Int.not_lt.1 hR)
  by_cases hD2 : szD (szR 1048576 r) xs < 0
  · rw [if_pos hD2] at c1
    repeat (first | refine wG_call c1 rfl rfl ?_ | (first
    | refine wC_a rfl ?_
    | refine q_s rfl ?_
    | refine q_b rfl ?_
    | refine wG_nil ?_
    | refine wG_g rfl ?_
    | refine wG_pure (o_len_vwm rfl) ?_
    | refine wG_pure (o_not_d rfl) ?_
    | refine wG_p rfl (by first | exact rfl | omega) ?_
    | refine wG_pure (o_str2 rfl rfl rfl) ?_
    | refine wG_pure (e_istr rfl rfl (by omega)) ?_
    | refine wG_pure (e_istr0 rfl rfl (by omega)) ?_
    | refine wG_pure (o_not rfl) ?_
    | refine wG_pure (e_ia_vw0 rfl rfl (by omega) rfl) ?_
    | refine wG_pure (e_ia_vwp rfl rfl (by omega) rfl) ?_
    | refine wG_pure (e_ia_vwm rfl rfl (by omega) (by omega) rfl) ?_
    | refine wG_pure (e_ia_vwi rfl rfl (by omega) rfl) ?_
    | refine wG_pure (e_ia_vwn rfl rfl (by omega) (by omega) rfl) ?_
    | refine wG_n rfl rfl ?_
    | refine wG_u rfl rfl ?_
    | refine wG_new (o_mks rfl rfl (by omega) (by decide)) ?_))
    exact ret_boolE (.inr rfl) ⟨_, retV_mv rfl, rfl⟩
  rw [if_neg hD2] at c1
  obtain ⟨s4, s5, s6⟩ := szD_ok (Int.not_lt.1 hD2)
  have h1' : r.cs.length ≤ 1048576 := by omega
  have h2' : r.xs.length ≤ 1048576 := by omega
  have h3' : xs.length ≤ 1048576 := by omega
  have hL' : LenN xs 1048576 := fun i hi => by have := s5 i hi; omega
  have h3t : (tD xs).length ≤ 1048576 := by rw [tD_len]; exact h3'
  have hLt := hL'.t
  have cT := con15 a b c r xs h1' h2' h3' hL'
  obtain ⟨z, w, p, cS, cI⟩ : ∃ z w p, Con Try.prog 31 true [.agg (dtR true true true r (tD xs)), .int .i64 x, .int .i64 y] (.tup [.int .i64 z, .int .i64 w, .bool p]) [] ∧ Con Try.prog 32 true [.agg (dtR true true true r (tD xs)), .int .i64 x, .int .i64 y] (.tup [.int .i64 z, .int .i64 w, .bool p]) [] := by
    first
      | (by_cases hk : GoodN r (tD xs)
         · exact ⟨_, _, true, con31_yes true true true r (tD xs) h1' h2' h3t hLt hk, con32_yes true true true r (tD xs) h1' h2' h3t hLt hk⟩
         · exact ⟨_, _, false, con31_no true true true r (tD xs) h1' h2' h3t hLt hk, con32_no true true true r (tD xs) h1' h2' h3t hLt hk⟩)
      | (by_cases hk : okO r (tD xs) x y
         · obtain ⟨i, hi⟩ : ∃ i : Nat, idx r x = i := ⟨_, (Int.toNat_of_nonneg hk.2.1).symm⟩
           obtain ⟨k, hk2⟩ : ∃ k : Nat, idx r y = k := ⟨_, (Int.toNat_of_nonneg hk.2.2).symm⟩
           exact ⟨_, _, true, con31_yes true true true r (tD xs) x y h1' h2' h3t hLt hk.1 hi hk2, con32_yes true true true r (tD xs) x y h1' h2' h3t hLt hk.1 hi hk2⟩
         · exact ⟨_, _, false, con31_no true true true r (tD xs) x y h1' h2' h3t hLt hk, con32_no true true true r (tD xs) x y h1' h2' h3t hLt hk⟩)
  have cE := con18 true true true true true true r (tD xs) h1' h2' h3t hLt
  have hlen := dtO_len r xs
  have d0 : decide (szD (szR 1048576 r) xs < 0) = false := decide_eq_false hD2
  repeat (first | refine wG_call c1 rfl rfl ?_ | (first
    | refine wC_a rfl ?_
    | refine q_s rfl ?_
    | refine q_b rfl ?_
    | refine wG_nil ?_
    | refine wG_g rfl ?_
    | refine wG_pure (o_len_vwm rfl) ?_
    | refine wG_pure (o_not_d rfl) ?_
    | refine wG_p rfl (by first | exact rfl | omega) ?_
    | refine wG_pure (o_str2 rfl rfl rfl) ?_
    | refine wG_pure (e_istr rfl rfl (by omega)) ?_
    | refine wG_pure (e_istr0 rfl rfl (by omega)) ?_
    | refine wG_pure (o_not rfl) ?_
    | refine wG_pure (e_ia_vw0 rfl rfl (by omega) rfl) ?_
    | refine wG_pure (e_ia_vwp rfl rfl (by omega) rfl) ?_
    | refine wG_pure (e_ia_vwm rfl rfl (by omega) (by omega) rfl) ?_
    | refine wG_pure (e_ia_vwi rfl rfl (by omega) rfl) ?_
    | refine wG_pure (e_ia_vwn rfl rfl (by omega) (by omega) rfl) ?_
    | refine wG_n rfl rfl ?_
    | refine wG_u rfl rfl ?_
    | refine wG_new (o_mks rfl rfl (by omega) (by decide)) ?_))
  simp only [d0]
  repeat (first
    | refine wC_a rfl ?_
    | refine q_s rfl ?_
    | refine q_b rfl ?_
    | refine wG_nil ?_
    | refine wG_g rfl ?_
    | refine wG_pure (o_len_vwm rfl) ?_
    | refine wG_pure (o_not_d rfl) ?_
    | refine wG_p rfl (by first | exact rfl | omega) ?_
    | refine wG_pure (o_str2 rfl rfl rfl) ?_
    | refine wG_pure (e_istr rfl rfl (by omega)) ?_
    | refine wG_pure (e_istr0 rfl rfl (by omega)) ?_
    | refine wG_pure (o_not rfl) ?_
    | refine wG_pure (e_ia_vw0 rfl rfl (by omega) rfl) ?_
    | refine wG_pure (e_ia_vwp rfl rfl (by omega) rfl) ?_
    | refine wG_pure (e_ia_vwm rfl rfl (by omega) (by omega) rfl) ?_
    | refine wG_pure (e_ia_vwi rfl rfl (by omega) rfl) ?_
    | refine wG_pure (e_ia_vwn rfl rfl (by omega) (by omega) rfl) ?_
    | refine wG_n rfl rfl ?_
    | refine wG_u rfl rfl ?_
    | refine wG_new (o_mks rfl rfl (by omega) (by decide)) ?_)
  refine wG_callG (v' := dtV 1 r xs) cT rfl rfl rfl ?_
  change wpG _ _ _ ⟨_, dtH 1 r xs _, _⟩ _
  obtain ⟨m2, hm2⟩ : ∃ m2, 0 + 1 + (dtO r xs).length = m2 := ⟨_, rfl⟩
  rw [hm2]
  repeat (first | refine wG_call cS (ag_any (dr_dt r xs (fun i rows hi => dtH_in hi)) (ag_int rfl (ag_int rfl ag_nil))) rfl ?_ | (first
    | refine wC_a rfl ?_
    | refine q_s rfl ?_
    | refine q_b rfl ?_
    | refine wG_nil ?_
    | refine wG_g rfl ?_
    | refine wG_pure (o_len_vwm rfl) ?_
    | refine wG_pure (o_not_d rfl) ?_
    | refine wG_p rfl (by first | exact rfl | omega) ?_
    | refine wG_pure (o_str2 rfl rfl rfl) ?_
    | refine wG_pure (e_istr rfl rfl (by omega)) ?_
    | refine wG_pure (e_istr0 rfl rfl (by omega)) ?_
    | refine wG_pure (o_not rfl) ?_
    | refine wG_pure (e_ia_vw0 rfl rfl (by omega) rfl) ?_
    | refine wG_pure (e_ia_vwp rfl rfl (by omega) rfl) ?_
    | refine wG_pure (e_ia_vwm rfl rfl (by omega) (by omega) rfl) ?_
    | refine wG_pure (e_ia_vwi rfl rfl (by omega) rfl) ?_
    | refine wG_pure (e_ia_vwn rfl rfl (by omega) (by omega) rfl) ?_
    | refine wG_n rfl rfl ?_
    | refine wG_u rfl rfl ?_
    | refine wG_new (o_mks rfl rfl (by omega) (by decide)) ?_))
  refine wG_pure (o_ldt_pt rfl (dtH_out (by omega) rfl) rfl rfl rfl) ?_
  refine wG_callG (v' := dtV m2 r xs) cT rfl rfl rfl ?_
  change wpG _ _ _ ⟨_, dtH m2 r xs _, _⟩ _
  obtain ⟨b0, hb0⟩ : ∃ b0, m2 + (dtO r xs).length = b0 := ⟨_, rfl⟩
  rw [hb0]
  have hx0 : ∀ {v1 v2 : Option Ab.Rows} {h : List (Nat × Option Ab.Rows)} (i : Nat) (rows : Ab.Rows), (dtO r xs)[i]? = some rows → hg ((b0, v1) :: (b0, v2) :: dtH m2 r xs h) (m2 + i) = some (shR m2 rows) := fun i rows hi => by
    have := dtO_lt hi
    exact hg_skip (by omega) (hg_skip (by omega) (dtH_in hi))
  have hx1 : ∀ {v1 v2 : Option Ab.Rows} {h : List (Nat × Option Ab.Rows)} (i : Nat) (rows : Ab.Rows), (dtO r xs)[i]? = some rows → hg (dtH (b0 + 1) r xs ((b0, v1) :: (b0, v2) :: dtH m2 r xs h)) (m2 + i) = some (shR m2 rows) := fun i rows hi => by
    have := dtO_lt hi
    exact dtH_out (by omega) (hx0 i rows hi)
  have dz : decide (z ≠ z) = false := decide_eq_false (fun h => h rfl)
  have dw : decide (w ≠ w) = false := decide_eq_false (fun h => h rfl)
  have dp : decide (p ≠ p) = false := decide_eq_false (fun h => h rfl)
  repeat (first | refine wC_dregE ?_ | refine wG_upd (o_st_agg rfl hg_here rfl rfl rfl rfl rfl) ?_ | refine wG_pure (o_ldt_pt rfl hg_here rfl rfl rfl) ?_ | refine wG_call cI (ag_any (dr_dt r xs hx0) (ag_int rfl (ag_int rfl ag_nil))) rfl ?_ | (first
    | refine wC_a rfl ?_
    | refine q_s rfl ?_
    | refine q_b rfl ?_
    | refine wG_nil ?_
    | refine wG_g rfl ?_
    | refine wG_pure (o_len_vwm rfl) ?_
    | refine wG_pure (o_not_d rfl) ?_
    | refine wG_p rfl (by first | exact rfl | omega) ?_
    | refine wG_pure (o_str2 rfl rfl rfl) ?_
    | refine wG_pure (e_istr rfl rfl (by omega)) ?_
    | refine wG_pure (e_istr0 rfl rfl (by omega)) ?_
    | refine wG_pure (o_not rfl) ?_
    | refine wG_pure (e_ia_vw0 rfl rfl (by omega) rfl) ?_
    | refine wG_pure (e_ia_vwp rfl rfl (by omega) rfl) ?_
    | refine wG_pure (e_ia_vwm rfl rfl (by omega) (by omega) rfl) ?_
    | refine wG_pure (e_ia_vwi rfl rfl (by omega) rfl) ?_
    | refine wG_pure (e_ia_vwn rfl rfl (by omega) (by omega) rfl) ?_
    | refine wG_n rfl rfl ?_
    | refine wG_u rfl rfl ?_
    | refine wG_new (o_mks rfl rfl (by omega) (by decide)) ?_))
  simp only [dz]
  repeat (first
    | refine wC_a rfl ?_
    | refine q_s rfl ?_
    | refine q_b rfl ?_
    | refine wG_nil ?_
    | refine wG_g rfl ?_
    | refine wG_pure (o_len_vwm rfl) ?_
    | refine wG_pure (o_not_d rfl) ?_
    | refine wG_p rfl (by first | exact rfl | omega) ?_
    | refine wG_pure (o_str2 rfl rfl rfl) ?_
    | refine wG_pure (e_istr rfl rfl (by omega)) ?_
    | refine wG_pure (e_istr0 rfl rfl (by omega)) ?_
    | refine wG_pure (o_not rfl) ?_
    | refine wG_pure (e_ia_vw0 rfl rfl (by omega) rfl) ?_
    | refine wG_pure (e_ia_vwp rfl rfl (by omega) rfl) ?_
    | refine wG_pure (e_ia_vwm rfl rfl (by omega) (by omega) rfl) ?_
    | refine wG_pure (e_ia_vwi rfl rfl (by omega) rfl) ?_
    | refine wG_pure (e_ia_vwn rfl rfl (by omega) (by omega) rfl) ?_
    | refine wG_n rfl rfl ?_
    | refine wG_u rfl rfl ?_
    | refine wG_new (o_mks rfl rfl (by omega) (by decide)) ?_)
  simp only [dw]
  repeat (first
    | refine wC_a rfl ?_
    | refine q_s rfl ?_
    | refine q_b rfl ?_
    | refine wG_nil ?_
    | refine wG_g rfl ?_
    | refine wG_pure (o_len_vwm rfl) ?_
    | refine wG_pure (o_not_d rfl) ?_
    | refine wG_p rfl (by first | exact rfl | omega) ?_
    | refine wG_pure (o_str2 rfl rfl rfl) ?_
    | refine wG_pure (e_istr rfl rfl (by omega)) ?_
    | refine wG_pure (e_istr0 rfl rfl (by omega)) ?_
    | refine wG_pure (o_not rfl) ?_
    | refine wG_pure (e_ia_vw0 rfl rfl (by omega) rfl) ?_
    | refine wG_pure (e_ia_vwp rfl rfl (by omega) rfl) ?_
    | refine wG_pure (e_ia_vwm rfl rfl (by omega) (by omega) rfl) ?_
    | refine wG_pure (e_ia_vwi rfl rfl (by omega) rfl) ?_
    | refine wG_pure (e_ia_vwn rfl rfl (by omega) (by omega) rfl) ?_
    | refine wG_n rfl rfl ?_
    | refine wG_u rfl rfl ?_
    | refine wG_new (o_mks rfl rfl (by omega) (by decide)) ?_)
  simp only [dp]
  repeat (first | refine wC_dregE ?_ | refine wE_v (o_ldt_pt rfl hg_here rfl rfl rfl) rfl ?_ | refine wE_v (o_ldt_pt rfl (hg_skip (by omega) (hg_skip (by omega) (dtH_out (by omega) (dtH_out (by omega) rfl)))) rfl rfl rfl) rfl ?_ | refine wE_callG (v' := dtV (b0 + 1) r xs) cT rfl rfl rfl rfl ?_ | refine wE_call cE (ag_any (dr_dt r xs hx1) (ag_any (dr_dt r xs (fun i rows hi => dtH_in hi)) ag_nil)) rfl rfl ?_ | refine wE_nil (hok5 (djB_mkh (by omega))) ?_ | (first
    | refine wC_a rfl ?_
    | refine q_s rfl ?_
    | refine q_b rfl ?_
    | refine wG_nil ?_
    | refine wG_g rfl ?_
    | refine wG_pure (o_len_vwm rfl) ?_
    | refine wG_pure (o_not_d rfl) ?_
    | refine wG_p rfl (by first | exact rfl | omega) ?_
    | refine wG_pure (o_str2 rfl rfl rfl) ?_
    | refine wG_pure (e_istr rfl rfl (by omega)) ?_
    | refine wG_pure (e_istr0 rfl rfl (by omega)) ?_
    | refine wG_pure (o_not rfl) ?_
    | refine wG_pure (e_ia_vw0 rfl rfl (by omega) rfl) ?_
    | refine wG_pure (e_ia_vwp rfl rfl (by omega) rfl) ?_
    | refine wG_pure (e_ia_vwm rfl rfl (by omega) (by omega) rfl) ?_
    | refine wG_pure (e_ia_vwi rfl rfl (by omega) rfl) ?_
    | refine wG_pure (e_ia_vwn rfl rfl (by omega) (by omega) rfl) ?_
    | refine wG_n rfl rfl ?_
    | refine wG_u rfl rfl ?_
    | refine wG_new (o_mks rfl rfl (by omega) (by decide)) ?_) | (first
    | refine wE_nil (by kernel_rfl) ?_
    | refine wE_gy rfl ?_
    | refine wE_gn rfl rfl rfl ?_
    | refine wE_gu rfl rfl ?_
    | refine wE_gnn rfl rfl rfl ?_
    | refine wE_v (o_len_vwm rfl) rfl ?_
    | refine wE_v (o_not_d rfl) rfl ?_
    | refine wE_p rfl (by first | exact rfl | omega) rfl ?_
    | refine wE_v (o_str2 rfl rfl rfl) rfl ?_
    | refine wE_v (e_istr rfl rfl (by omega)) rfl ?_
    | refine wE_v (e_istr0 rfl rfl (by omega)) rfl ?_
    | refine wE_v (o_not rfl) rfl ?_
    | refine wE_v (e_ia_vw0 rfl rfl (by omega) rfl) rfl ?_
    | refine wE_v (e_ia_vwp rfl rfl (by omega) rfl) rfl ?_
    | refine wE_v (e_ia_vwm rfl rfl (by omega) (by omega) rfl) rfl ?_
    | refine wE_v (e_ia_vwi rfl rfl (by omega) rfl) rfl ?_
    | refine wE_v (e_ia_vwn rfl rfl (by omega) (by omega) rfl) rfl ?_
    | refine wE_n rfl rfl rfl ?_
    | refine wE_u rfl rfl rfl ?_
    | refine wE_new (o_mks rfl rfl (by omega) (by decide)) rfl ?_))
  exact ret_boolE (.inr rfl) ⟨_, retV_mv rfl, rfl⟩
end Go.Proofs.Ytkeobnaehgcloaa.Dst
