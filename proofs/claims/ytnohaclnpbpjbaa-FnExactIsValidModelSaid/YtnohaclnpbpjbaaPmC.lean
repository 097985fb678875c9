/- The law on valid models. -/
import Derived.Test.YtnohaclnpbpjbaaPmB
namespace Go.Proofs.Ytnohaclnpbpjbaa.Dst
open Go Go.Proofs.Ytnohaclnpbpjbaa.Ab Go.Proofs.Ytnohaclnpbpjbaa.Il
attribute [local irreducible] wpO wpC wpDr wpQ wpG wpE stepA seqQ blkQ Ret RetG ev
set_option maxRecDepth 10000
set_option maxHeartbeats 8000000
set_option linter.unusedSimpArgs false
set_option linter.unusedVariables false

def ac3 : AC := (.seq (.reg [⟨(some 1), none, (.box 4 true (.t 0))⟩, ⟨(some 2), none, (.mv (.c (.bool false)))⟩]) (.seq (.reg [⟨(some 3), none, (.mv (.c (.int .i64 1048576)))⟩]) (.seq (.reg [⟨(some 7), none, (.ld true 4 (.t 1))⟩, ⟨(some 8), none, (.mv (.t 3))⟩, ⟨(some 9), none, (.call 11 [(.t 7), (.t 8)])⟩, ⟨(some 3), none, (.mv (.t 9))⟩]) (.seq (.seq (.reg [⟨(some 10), none, (.mv (.t 3))⟩, ⟨(some 11), none, (.bin .lss (.t 10) (.c (.int .i64 0)))⟩]) (.cond (.t 11) (.seq (.reg [⟨(some 2), none, (.mv (.c (.bool true)))⟩]) .ret) .skip)) (.seq (.reg [⟨(some 12), none, (.ld true 4 (.t 1))⟩, ⟨(some 13), none, (.call 13 [(.t 12)])⟩, ⟨(some 14), none, (.call 12 [(.t 13)])⟩, ⟨(some 4), none, (.mv (.t 14))⟩]) (.seq (.reg [⟨(some 15), none, (.ld true 4 (.t 1))⟩, ⟨(some 16), none, (.call 13 [(.t 15)])⟩, ⟨(some 5), none, (.alloc [(.int .i64 0), (.int .i64 0), (.int .i64 0), .nilS])⟩, ⟨none, none, (.st 4 (.t 5) (.t 16))⟩]) (.seq (.reg [⟨(some 17), none, (.ld true 4 (.t 5))⟩, ⟨(some 18), none, (.call 14 [(.t 17)])⟩, ⟨(some 6), none, (.mv (.t 18))⟩]) (.seq (.seq (.reg [⟨(some 19), none, (.mv (.t 6))⟩, ⟨(some 20), none, (.mv (.t 4))⟩, ⟨(some 21), none, (.bool2 true (.t 19) (.t 20))⟩]) (.cond (.t 21) (.seq (.reg [⟨(some 2), none, (.mv (.c (.bool false)))⟩]) .ret) .skip)) (.seq (.seq (.dreg [⟨(some 22), none, (.ld true 4 (.t 5))⟩, ⟨(some 23), none, (.ld true 4 (.t 1))⟩, ⟨(some 24), none, (.call 13 [(.t 23)])⟩, ⟨(some 25), none, (.call 15 [(.t 22), (.t 24)])⟩, ⟨(some 26), none, (.un .not (.t 25))⟩] [[], [], [1], [0, 1, 2], [0, 1, 2, 3]]) (.cond (.t 26) (.seq (.reg [⟨(some 2), none, (.mv (.c (.bool false)))⟩]) .ret) .skip)) (.seq (.reg [⟨(some 2), none, (.mv (.c (.bool true)))⟩]) .ret))))))))))
def ro3 : List AOp := [(.mv (.t 2))]
theorem fun3 : Fun Try.prog 3 27 ac3 ro3 := ⟨Try.f3, _, Try.func3, by kernel_rfl, rfl, rfl, by kernel_rfl, by kernel_rfl, by decide⟩

theorem hok5 {W r0 r1 r2 r3 r4 : List Nat} (h : djB W r0 = true) : hokB [[], [], [1], [0, 1, 2], [0, 1, 2, 3]] [([], r0), ([], r1), (W, r2), ([], r3), ([], r4)] = true := by
  have e : ∀ l : List Nat, djB [] l = true := fun l => rfl
  have e2 : ∀ l : List Nat, djB l [] = true := fun l => by simp [djB]
  simp [hokB, List.range, List.range.loop, e, e2, h]
theorem mkh_fst : ∀ (objs : List Ab.Rows) (m x : Nat), x ∈ (mkh m objs).map (·.1) → m ≤ x ∧ x < m + objs.length
  | [], m, x, h => by simp [mkh] at h
  | o :: objs, m, x, h => by
    simp only [mkh, List.map_cons, List.mem_cons] at h
    rcases h with rfl | h
    · simp
    · have := mkh_fst objs (m + 1) x h
      simp only [List.length_cons]; omega
theorem djB_mkh {m b : Nat} {objs : List Ab.Rows} (h : b < m) : djB ((mkh m objs).map (·.1)) [b] = true := by
  unfold djB
  rw [List.all_eq_true]
  intro x hx
  have := (mkh_fst objs m x hx).1
  simp; omega
theorem con3 (c : Bool) (m : Md) (xs : List Ev) (h3 : xs.length ≤ 9223372036854775807) (hL : LenE xs 9223372036854775807) : Con Try.prog 3 true [.agg (mdR c m xs)] (.bool true) [] := by
  classical
  refine con_of_wp mixed fun3 (by simp) [] plain_nil ?_
  unfold ac3 ro3
  simp only [zipT]
  have c1 := con11 c m xs h3 hL 1048576 (by decide) (by decide)
  by_cases hD2 : szD 1048576 xs < 0
  · rw [if_pos hD2] at c1
    repeat (first | refine wG_call c1 rfl rfl ?_ | (first
    | refine wC_a rfl ?_
    | refine q_s rfl ?_
    | refine q_b rfl ?_
    | refine wG_nil ?_
    | refine wG_g rfl ?_
    | refine wG_pure (o_len_vwm rfl) ?_
    | refine wG_pure (o_not_d rfl) ?_
    | refine wG_p rfl (by first | exact rfl | omega) ?_
    | refine wG_pure (o_str2 rfl rfl rfl) ?_
    | refine wG_pure (e_istr rfl rfl (by omega)) ?_
    | refine wG_pure (e_istr0 rfl rfl (by omega)) ?_
    | refine wG_pure (o_not rfl) ?_
    | refine wG_pure (e_ia_vw0 rfl rfl (by omega) rfl) ?_
    | refine wG_pure (e_ia_vwp rfl rfl (by omega) rfl) ?_
    | refine wG_pure (e_ia_vwm rfl rfl (by omega) (by omega) rfl) ?_
    | refine wG_pure (e_ia_vwi rfl rfl (by omega) rfl) ?_
    | refine wG_pure (e_ia_vwn rfl rfl (by omega) (by omega) rfl) ?_
    | refine wG_n rfl rfl ?_
    | refine wG_u rfl rfl ?_
    | refine wG_new (o_mks rfl rfl (by omega) (by decide)) ?_))
    exact ret_boolE (.inr rfl) ⟨_, retV_mv rfl, rfl⟩
  rw [if_neg hD2] at c1
  obtain ⟨s4, s5, s6⟩ := szD_ok (Int.not_lt.1 hD2)
  have h3' : xs.length ≤ 1048576 := by omega
  have hL' : LenE xs 1048576 := fun i hi => by have := s5 i hi; omega
  have h3t : (tE xs).length ≤ 1048576 := by rw [tE_len]; exact h3'
  have hLt := hL'.t
  have cT := con13 c m xs h3' hL'
  have cS := con12 true m (tE xs) h3t hLt
  have cI := con14 true m (tE xs) h3t hLt
  have cE := con15 true true m (tE xs) h3t hLt
  have hlen := teO_len xs
  have d0 : decide (szD 1048576 xs < 0) = false := decide_eq_false hD2
  repeat (first | refine wG_call c1 rfl rfl ?_ | (first
    | refine wC_a rfl ?_
    | refine q_s rfl ?_
    | refine q_b rfl ?_
    | refine wG_nil ?_
    | refine wG_g rfl ?_
    | refine wG_pure (o_len_vwm rfl) ?_
    | refine wG_pure (o_not_d rfl) ?_
    | refine wG_p rfl (by first | exact rfl | omega) ?_
    | refine wG_pure (o_str2 rfl rfl rfl) ?_
    | refine wG_pure (e_istr rfl rfl (by omega)) ?_
    | refine wG_pure (e_istr0 rfl rfl (by omega)) ?_
    | refine wG_pure (o_not rfl) ?_
    | refine wG_pure (e_ia_vw0 rfl rfl (by omega) rfl) ?_
    | refine wG_pure (e_ia_vwp rfl rfl (by omega) rfl) ?_
    | refine wG_pure (e_ia_vwm rfl rfl (by omega) (by omega) rfl) ?_
    | refine wG_pure (e_ia_vwi rfl rfl (by omega) rfl) ?_
    | refine wG_pure (e_ia_vwn rfl rfl (by omega) (by omega) rfl) ?_
    | refine wG_n rfl rfl ?_
    | refine wG_u rfl rfl ?_
    | refine wG_new (o_mks rfl rfl (by omega) (by decide)) ?_))
  simp only [d0]
  repeat (first
    | refine wC_a rfl ?_
    | refine q_s rfl ?_
    | refine q_b rfl ?_
    | refine wG_nil ?_
    | refine wG_g rfl ?_
    | refine wG_pure (o_len_vwm rfl) ?_
    | refine wG_pure (o_not_d rfl) ?_
    | refine wG_p rfl (by first | exact rfl | omega) ?_
    | refine wG_pure (o_str2 rfl rfl rfl) ?_
    | refine wG_pure (e_istr rfl rfl (by omega)) ?_
    | refine wG_pure (e_istr0 rfl rfl (by omega)) ?_
    | refine wG_pure (o_not rfl) ?_
    | refine wG_pure (e_ia_vw0 rfl rfl (by omega) rfl) ?_
    | refine wG_pure (e_ia_vwp rfl rfl (by omega) rfl) ?_
    | refine wG_pure (e_ia_vwm rfl rfl (by omega) (by omega) rfl) ?_
    | refine wG_pure (e_ia_vwi rfl rfl (by omega) rfl) ?_
    | refine wG_pure (e_ia_vwn rfl rfl (by omega) (by omega) rfl) ?_
    | refine wG_n rfl rfl ?_
    | refine wG_u rfl rfl ?_
    | refine wG_new (o_mks rfl rfl (by omega) (by decide)) ?_)
  refine wG_callG (v' := mdV 1 m xs) cT rfl rfl rfl ?_
  change wpG _ _ _ ⟨_, mdH 1 xs _, _⟩ _
  obtain ⟨m2, hm2⟩ : ∃ m2, 0 + 1 + (teO xs).length = m2 := ⟨_, rfl⟩
  rw [hm2]
  repeat (first | refine wG_call cS (ag_any (dr_md m xs (fun i rows hi => mdH_in hi)) ag_nil) rfl ?_ | (first
    | refine wC_a rfl ?_
    | refine q_s rfl ?_
    | refine q_b rfl ?_
    | refine wG_nil ?_
    | refine wG_g rfl ?_
    | refine wG_pure (o_len_vwm rfl) ?_
    | refine wG_pure (o_not_d rfl) ?_
    | refine wG_p rfl (by first | exact rfl | omega) ?_
    | refine wG_pure (o_str2 rfl rfl rfl) ?_
    | refine wG_pure (e_istr rfl rfl (by omega)) ?_
    | refine wG_pure (e_istr0 rfl rfl (by omega)) ?_
    | refine wG_pure (o_not rfl) ?_
    | refine wG_pure (e_ia_vw0 rfl rfl (by omega) rfl) ?_
    | refine wG_pure (e_ia_vwp rfl rfl (by omega) rfl) ?_
    | refine wG_pure (e_ia_vwm rfl rfl (by omega) (by omega) rfl) ?_
    | refine wG_pure (e_ia_vwi rfl rfl (by omega) rfl) ?_
    | refine wG_pure (e_ia_vwn rfl rfl (by omega) (by omega) rfl) ?_
    | refine wG_n rfl rfl ?_
    | refine wG_u rfl rfl ?_
    | refine wG_new (o_mks rfl rfl (by omega) (by decide)) ?_))
  refine wG_pure (o_ldt_pt rfl (mdH_out (by omega) rfl) rfl rfl rfl) ?_
  refine wG_callG (v' := mdV m2 m xs) cT rfl rfl rfl ?_
  change wpG _ _ _ ⟨_, mdH m2 xs _, _⟩ _
  obtain ⟨b0, hb0⟩ : ∃ b0, m2 + (teO xs).length = b0 := ⟨_, rfl⟩
  rw [hb0]
  have hx0 : ∀ {v1 v2 : Option Ab.Rows} {h : List (Nat × Option Ab.Rows)} (i : Nat) (rows : Ab.Rows), (teO xs)[i]? = some rows → hg ((b0, v1) :: (b0, v2) :: mdH m2 xs h) (m2 + i) = some (shR m2 rows) := fun i rows hi => by
    have := teO_lt hi
    exact hg_skip (by omega) (hg_skip (by omega) (mdH_in hi))
  have hx1 : ∀ {v1 v2 : Option Ab.Rows} {h : List (Nat × Option Ab.Rows)} (i : Nat) (rows : Ab.Rows), (teO xs)[i]? = some rows → hg (mdH (b0 + 1) xs ((b0, v1) :: (b0, v2) :: mdH m2 xs h)) (m2 + i) = some (shR m2 rows) := fun i rows hi => by
    have := teO_lt hi
    exact mdH_out (by omega) (hx0 i rows hi)
  generalize decide (GoodM m (tE xs)) = p at *
  repeat (first | refine wC_dregE ?_ | refine wG_upd (o_st_agg rfl hg_here rfl rfl rfl rfl rfl) ?_ | refine wG_pure (o_ldt_pt rfl hg_here rfl rfl rfl) ?_ | refine wG_call cI (ag_any (dr_md m xs hx0) ag_nil) rfl ?_ | (first
    | refine wC_a rfl ?_
    | refine q_s rfl ?_
    | refine q_b rfl ?_
    | refine wG_nil ?_
    | refine wG_g rfl ?_
    | refine wG_pure (o_len_vwm rfl) ?_
    | refine wG_pure (o_not_d rfl) ?_
    | refine wG_p rfl (by first | exact rfl | omega) ?_
    | refine wG_pure (o_str2 rfl rfl rfl) ?_
    | refine wG_pure (e_istr rfl rfl (by omega)) ?_
    | refine wG_pure (e_istr0 rfl rfl (by omega)) ?_
    | refine wG_pure (o_not rfl) ?_
    | refine wG_pure (e_ia_vw0 rfl rfl (by omega) rfl) ?_
    | refine wG_pure (e_ia_vwp rfl rfl (by omega) rfl) ?_
    | refine wG_pure (e_ia_vwm rfl rfl (by omega) (by omega) rfl) ?_
    | refine wG_pure (e_ia_vwi rfl rfl (by omega) rfl) ?_
    | refine wG_pure (e_ia_vwn rfl rfl (by omega) (by omega) rfl) ?_
    | refine wG_n rfl rfl ?_
    | refine wG_u rfl rfl ?_
    | refine wG_new (o_mks rfl rfl (by omega) (by decide)) ?_))
  have dp : decide (p ≠ p) = false := decide_eq_false (fun h => h rfl)
  simp only [dp]
  repeat (first | refine wC_dregE ?_ | refine wE_v (o_ldt_pt rfl hg_here rfl rfl rfl) rfl ?_ | refine wE_v (o_ldt_pt rfl (hg_skip (by omega) (hg_skip (by omega) (mdH_out (by omega) (mdH_out (by omega) rfl)))) rfl rfl rfl) rfl ?_ | refine wE_callG (v' := mdV (b0 + 1) m xs) cT rfl rfl rfl rfl ?_ | refine wE_call cE (ag_any (dr_md m xs hx1) (ag_any (dr_md m xs (fun i rows hi => mdH_in hi)) ag_nil)) rfl rfl ?_ | refine wE_nil (hok5 (djB_mkh (by omega))) ?_ | (first
    | refine wC_a rfl ?_
    | refine q_s rfl ?_
    | refine q_b rfl ?_
    | refine wG_nil ?_
    | refine wG_g rfl ?_
    | refine wG_pure (o_len_vwm rfl) ?_
    | refine wG_pure (o_not_d rfl) ?_
    | refine wG_p rfl (by first | exact rfl | omega) ?_
    | refine wG_pure (o_str2 rfl rfl rfl) ?_
    | refine wG_pure (e_istr rfl rfl (by omega)) ?_
    | refine wG_pure (e_istr0 rfl rfl (by omega)) ?_
    | refine wG_pure (o_not rfl) ?_
    | refine wG_pure (e_ia_vw0 rfl rfl (by omega) rfl) ?_
    | refine wG_pure (e_ia_vwp rfl rfl (by omega) rfl) ?_
    | refine wG_pure (e_ia_vwm rfl rfl (by omega) (by omega) rfl) ?_
    | refine wG_pure (e_ia_vwi rfl rfl (by omega) rfl) ?_
    | refine wG_pure (e_ia_vwn rfl rfl (by omega) (by omega) rfl) ?_
    | refine wG_n rfl rfl ?_
    | refine wG_u rfl rfl ?_
    | refine wG_new (o_mks rfl rfl (by omega) (by decide)) ?_) | (first
    | refine wE_nil (by kernel_rfl) ?_
    | refine wE_gy rfl ?_
    | refine wE_gn rfl rfl rfl ?_
    | refine wE_gu rfl rfl ?_
    | refine wE_gnn rfl rfl rfl ?_
    | refine wE_v (o_len_vwm rfl) rfl ?_
    | refine wE_v (o_not_d rfl) rfl ?_
    | refine wE_p rfl (by first | exact rfl | omega) rfl ?_
    | refine wE_v (o_str2 rfl rfl rfl) rfl ?_
    | refine wE_v (e_istr rfl rfl (by omega)) rfl ?_
    | refine wE_v (e_istr0 rfl rfl (by omega)) rfl ?_
    | refine wE_v (o_not rfl) rfl ?_
    | refine wE_v (e_ia_vw0 rfl rfl (by omega) rfl) rfl ?_
    | refine wE_v (e_ia_vwp rfl rfl (by omega) rfl) rfl ?_
    | refine wE_v (e_ia_vwm rfl rfl (by omega) (by omega) rfl) rfl ?_
    | refine wE_v (e_ia_vwi rfl rfl (by omega) rfl) rfl ?_
    | refine wE_v (e_ia_vwn rfl rfl (by omega) (by omega) rfl) rfl ?_
    | refine wE_n rfl rfl rfl ?_
    | refine wE_u rfl rfl rfl ?_
    | refine wE_new (o_mks rfl rfl (by omega) (by decide)) rfl ?_))
  exact ret_boolE (.inr rfl) ⟨_, retV_mv rfl, rfl⟩
end Go.Proofs.Ytnohaclnpbpjbaa.Dst
