/- The laws on valid records with distributions and on weights of datings. -/
import Derived.Test.YtkeobnaehgcloaaDnC
namespace Go.Proofs.Ytkeobnaehgcloaa.Dst
open Go Go.Proofs.Ytkeobnaehgcloaa.Ab Go.Proofs.Ytkeobnaehgcloaa.Il Go.Proofs.Ytkeobnaehgcloaa.Rec
attribute [local irreducible] wpO wpC wpDr wpQ wpG wpE stepA seqQ blkQ Ret RetG ev
set_option maxRecDepth 10000
set_option maxHeartbeats 8000000
set_option linter.unusedSimpArgs false
set_option linter.unusedVariables false

def ac4 : AC := (.seq (.reg [⟨(some 1), none, (.box 3 true (.t 0))⟩, ⟨(some 2), none, (.mv (.c (.bool false)))⟩]) (.seq (.reg [⟨(some 3), none, (.mv (.c (.int .i64 1048576)))⟩]) (.seq (.reg [⟨(some 7), none, (.ld true 3 (.t 1))⟩, ⟨(some 8), none, (.mv (.t 3))⟩, ⟨(some 9), none, (.call 12 [(.t 7), (.t 8)])⟩, ⟨(some 3), none, (.mv (.t 9))⟩]) (.seq (.seq (.reg [⟨(some 10), none, (.mv (.t 3))⟩, ⟨(some 11), none, (.bin .lss (.t 10) (.c (.int .i64 0)))⟩]) (.cond (.t 11) (.seq (.reg [⟨(some 2), none, (.mv (.c (.bool true)))⟩]) .ret) .skip)) (.seq (.reg [⟨(some 12), none, (.ld true 3 (.t 1))⟩, ⟨(some 13), none, (.call 15 [(.t 12)])⟩, ⟨(some 14), none, (.call 23 [(.t 13)])⟩, ⟨(some 4), none, (.mv (.t 14))⟩]) (.seq (.reg [⟨(some 15), none, (.ld true 3 (.t 1))⟩, ⟨(some 16), none, (.call 15 [(.t 15)])⟩, ⟨(some 5), none, (.alloc [.nilS, .nilS, .nilS])⟩, ⟨none, none, (.st 3 (.t 5) (.t 16))⟩]) (.seq (.reg [⟨(some 17), none, (.ld true 3 (.t 5))⟩, ⟨(some 18), none, (.call 24 [(.t 17)])⟩, ⟨(some 6), none, (.mv (.t 18))⟩]) (.seq (.seq (.reg [⟨(some 19), none, (.mv (.t 6))⟩, ⟨(some 20), none, (.mv (.t 4))⟩, ⟨(some 21), none, (.bool2 true (.t 19) (.t 20))⟩]) (.cond (.t 21) (.seq (.reg [⟨(some 2), none, (.mv (.c (.bool false)))⟩]) .ret) .skip)) (.seq (.seq (.dreg [⟨(some 22), none, (.ld true 3 (.t 5))⟩, ⟨(some 23), none, (.ld true 3 (.t 1))⟩, ⟨(some 24), none, (.call 15 [(.t 23)])⟩, ⟨(some 25), none, (.call 18 [(.t 22), (.t 24)])⟩, ⟨(some 26), none, (.un .not (.t 25))⟩] [[], [], [1], [0, 1, 2], [0, 1, 2, 3]]) (.cond (.t 26) (.seq (.reg [⟨(some 2), none, (.mv (.c (.bool false)))⟩]) .ret) .skip)) (.seq (.reg [⟨(some 2), none, (.mv (.c (.bool true)))⟩]) .ret))))))))))
def ro4 : List AOp := [(.mv (.t 2))]
theorem fun4 : Fun Try.prog 4 27 ac4 ro4 := ⟨Try.f4, _, Try.func4, by kernel_rfl, rfl, rfl, by kernel_rfl, by kernel_rfl, by decide⟩
def ac5 : AC := (.seq (.reg [⟨(some 2), none, (.box 3 true (.t 0))⟩, ⟨(some 4), none, (.mv (.c (.bool false)))⟩]) (.seq (.seq (.reg [⟨(some 12), none, (.mv (.t 1))⟩, ⟨(some 13), none, (.len (.t 12))⟩, ⟨(some 14), none, (.bin .gtr (.t 13) (.c (.int .i64 1048576)))⟩]) (.cond (.t 14) (.seq (.reg [⟨(some 4), none, (.mv (.c (.bool true)))⟩]) .ret) .skip)) (.seq (.reg [⟨(some 5), none, (.mv (.c (.int .i64 1048576)))⟩]) (.seq (.reg [⟨(some 15), none, (.ld true 3 (.t 2))⟩, ⟨(some 16), none, (.mv (.t 5))⟩, ⟨(some 17), none, (.call 12 [(.t 15), (.t 16)])⟩, ⟨(some 5), none, (.mv (.t 17))⟩]) (.seq (.seq (.reg [⟨(some 18), none, (.mv (.t 5))⟩, ⟨(some 19), none, (.bin .lss (.t 18) (.c (.int .i64 0)))⟩]) (.cond (.t 19) (.seq (.reg [⟨(some 4), none, (.mv (.c (.bool true)))⟩]) .ret) .skip)) (.seq (.reg [⟨(some 21), none, (.ld true 3 (.t 2))⟩, ⟨(some 22), none, (.call 15 [(.t 21)])⟩, ⟨(some 23), none, (.mv (.t 1))⟩, ⟨(some 24), none, (.call 26 [(.t 23)])⟩, ⟨(some 25), none, (.call 25 [(.t 22), (.t 24)])⟩, ⟨(some 20), none, (.mv (.t 25))⟩, ⟨(some 26), none, (.ext (.t 20) 0)⟩, ⟨(some 27), none, (.ext (.t 20) 1)⟩, ⟨(some 6), none, (.mv (.t 26))⟩, ⟨(some 7), none, (.mv (.t 27))⟩]) (.seq (.reg [⟨(some 28), none, (.ld true 3 (.t 2))⟩, ⟨(some 29), none, (.call 15 [(.t 28)])⟩, ⟨(some 8), none, (.alloc [.nilS, .nilS, .nilS])⟩, ⟨none, none, (.st 3 (.t 8) (.t 29))⟩]) (.seq (.reg [⟨(some 30), none, (.mv (.t 1))⟩, ⟨(some 31), none, (.call 26 [(.t 30)])⟩, ⟨(some 9), none, (.mv (.t 31))⟩]) (.seq (.reg [⟨(some 33), none, (.ld true 3 (.t 8))⟩, ⟨(some 34), none, (.mv (.t 9))⟩, ⟨(some 35), none, (.call 27 [(.t 33), (.t 34)])⟩, ⟨(some 32), none, (.mv (.t 35))⟩, ⟨(some 36), none, (.ext (.t 32) 0)⟩, ⟨(some 37), none, (.ext (.t 32) 1)⟩, ⟨(some 10), none, (.mv (.t 36))⟩, ⟨(some 11), none, (.mv (.t 37))⟩]) (.seq (.seq (.reg [⟨(some 38), none, (.mv (.t 10))⟩, ⟨(some 39), none, (.mv (.t 6))⟩, ⟨(some 40), none, (.bin .neq (.t 38) (.t 39))⟩, ⟨(some 41), none, (.mv (.t 40))⟩, ⟨(some 42), (some (41, false)), (.mv (.t 11))⟩, ⟨(some 43), (some (41, false)), (.mv (.t 7))⟩, ⟨(some 44), (some (41, false)), (.bool2 true (.t 42) (.t 43))⟩, ⟨(some 45), none, (.pick (.t 41) (.c (.bool true)) (.t 44))⟩]) (.cond (.t 45) (.seq (.reg [⟨(some 4), none, (.mv (.c (.bool false)))⟩]) .ret) .skip)) (.seq (.seq (.dreg [⟨(some 46), none, (.ld true 3 (.t 8))⟩, ⟨(some 47), none, (.ld true 3 (.t 2))⟩, ⟨(some 48), none, (.call 15 [(.t 47)])⟩, ⟨(some 49), none, (.call 18 [(.t 46), (.t 48)])⟩, ⟨(some 50), none, (.un .not (.t 49))⟩] [[], [], [1], [0, 1, 2], [0, 1, 2, 3]]) (.cond (.t 50) (.seq (.reg [⟨(some 4), none, (.mv (.c (.bool false)))⟩]) .ret) .skip)) (.seq (.seq (.reg [⟨(some 51), none, (.mv (.t 9))⟩, ⟨(some 52), none, (.mv (.t 1))⟩, ⟨(some 53), none, (.call 26 [(.t 52)])⟩, ⟨(some 54), none, (.call 28 [(.t 51), (.t 53)])⟩, ⟨(some 55), none, (.un .not (.t 54))⟩]) (.cond (.t 55) (.seq (.reg [⟨(some 4), none, (.mv (.c (.bool false)))⟩]) .ret) .skip)) (.seq (.reg [⟨(some 4), none, (.mv (.c (.bool true)))⟩]) .ret)))))))))))))
def ro5 : List AOp := [(.mv (.t 4))]
theorem fun5 : Fun Try.prog 5 56 ac5 ro5 := ⟨Try.f5, _, Try.func5, by kernel_rfl, rfl, rfl, by kernel_rfl, by kernel_rfl, by decide⟩

theorem hok5 {W r0 r1 r2 r3 r4 : List Nat} (h : djB W r0 = true) : hokB [[], [], [1], [0, 1, 2], [0, 1, 2, 3]] [([], r0), ([], r1), (W, r2), ([], r3), ([], r4)] = true := by
  have e : ∀ l : List Nat, djB [] l = true := fun l => rfl
  have e2 : ∀ l : List Nat, djB l [] = true := fun l => by simp [djB]
  simp [hokB, List.range, List.range.loop, e, e2, h]
theorem mkh_fst : ∀ (objs : List Ab.Rows) (m x : Nat), x ∈ (mkh m objs).map (·.1) → m ≤ x ∧ x < m + objs.length
  | [], m, x, h => by simp [mkh] at h
  | o :: objs, m, x, h => by
    simp only [mkh, List.map_cons, List.mem_cons] at h
    rcases h with rfl | h
    · simp
    · have := mkh_fst objs (m + 1) x h
      simp only [List.length_cons]; omega
theorem djB_mkh {m b : Nat} {objs : List Ab.Rows} (h : b < m) : djB ((mkh m objs).map (·.1)) [b] = true := by
  unfold djB
  rw [List.all_eq_true]
  intro x hx
  have := (mkh_fst objs m x hx).1
  simp; omega
def dtH (m : Nat) (r : Rc) (xs : List Dn) (h : List (Nat × Option Ab.Rows)) : List (Nat × Option Ab.Rows) := mkh m ((dtO r xs).map (shR m)) ++ h
theorem dtH_in {m i : Nat} {r : Rc} {xs : List Dn} {h : List (Nat × Option Ab.Rows)} {rows : Ab.Rows} (hi : (dtO r xs)[i]? = some rows) : hg (dtH m r xs h) (m + i) = some (shR m rows) := shOget hi
theorem dtH_out {m q : Nat} {r : Rc} {xs : List Dn} {h : List (Nat × Option Ab.Rows)} {y : Option Ab.Rows} (hq : q < m ∨ m + (xs.length + 3) ≤ q) (h1 : hg h q = y) : hg (dtH m r xs h) q = y := hg_out (fun hc => by
  have h1 := hc.1
  have h2 := hc.2
  rw [List.length_map, dtO_len] at h2
  omega) h1
theorem dtO_lt {i : Nat} {r : Rc} {xs : List Dn} {rows : Ab.Rows} (hi : (dtO r xs)[i]? = some rows) : i < xs.length + 3 := by
  have := (List.getElem?_eq_some_iff.1 hi).1
  rwa [dtO_len] at this
theorem con4 (a b c : Bool) (r : Rc) (xs : List Dn) (h1 : r.cs.length ≤ 9223372036854775807) (h2 : r.xs.length ≤ 9223372036854775807) (h3 : xs.length ≤ 9223372036854775807) (hL : LenN xs 9223372036854775807) : Con Try.prog 4 true [.agg (dtR a b c r xs)] (.bool true) [] := by
  classical
  refine con_of_wp mixed fun4 (by simp) [] plain_nil ?_
  unfold ac4 ro4
  simp only [zipT]
  have c1 := con12 a b c r xs h1 h2 h3 hL 1048576 (by decide) (by decide)
  by_cases hR : szR 1048576 r < 0
  · rw [if_pos hR] at c1
    repeat (first | refine wG_call c1 rfl rfl ?_ | (first
    | refine wC_a rfl ?_
    | refine q_s rfl ?_
    | refine q_b rfl ?_
    | refine wG_nil ?_
    | refine wG_g rfl ?_
    | refine wG_pure (o_len_vwm rfl) ?_
    | refine wG_pure (o_not_d rfl) ?_
    | refine wG_p rfl (by first | exact rfl | omega) ?_
    | refine wG_pure (o_str2 rfl rfl rfl) ?_
    | refine wG_pure (e_istr rfl rfl (by omega)) ?_
    | refine wG_pure (e_istr0 rfl rfl (by omega)) ?_
    | refine wG_pure (o_not rfl) ?_
    | refine wG_pure (e_ia_vw0 rfl rfl (by omega) rfl) ?_
    | refine wG_pure (e_ia_vwp rfl rfl (by omega) rfl) ?_
    | refine wG_pure (e_ia_vwm rfl rfl (by omega) (by omega) rfl) ?_
    | refine wG_pure (e_ia_vwi rfl rfl (by omega) rfl) ?_
    | refine wG_pure (e_ia_vwn rfl rfl (by omega) (by omega) rfl) ?_
    | refine wG_n rfl rfl ?_
    | refine wG_u rfl rfl ?_
    | refine wG_new (o_mks rfl rfl (by omega) (by decide)) ?_))
    exact ret_boolE (.inr rfl) ⟨_, retV_mv rfl, rfl⟩
  rw [if_neg hR] at c1
  obtain ⟨s1, s2, s3⟩ := szR_ok (Int.not_lt.1 hR)
  by_cases hD2 : szD (szR 1048576 r) xs < 0
  · rw [if_pos hD2] at c1
    repeat (first | refine wG_call c1 rfl rfl ?_ | (first
    | refine wC_a rfl ?_
    | refine q_s rfl ?_
    | refine q_b rfl ?_
    | refine wG_nil ?_
    | refine wG_g rfl ?_
    | refine wG_pure (o_len_vwm rfl) ?_
    | refine wG_pure (o_not_d rfl) ?_
    | refine wG_p rfl (by first | exact rfl | omega) ?_
    | refine wG_pure (o_str2 rfl rfl rfl) ?_
    | refine wG_pure (e_istr rfl rfl (by omega)) ?_
    | refine wG_pure (e_istr0 rfl rfl (by omega)) ?_
    | refine wG_pure (o_not rfl) ?_
    | refine wG_pure (e_ia_vw0 rfl rfl (by omega) rfl) ?_
    | refine wG_pure (e_ia_vwp rfl rfl (by omega) rfl) ?_
    | refine wG_pure (e_ia_vwm rfl rfl (by omega) (by omega) rfl) ?_
    | refine wG_pure (e_ia_vwi rfl rfl (by omega) rfl) ?_
    | refine wG_pure (e_ia_vwn rfl rfl (by omega) (by omega) rfl) ?_
    | refine wG_n rfl rfl ?_
    | refine wG_u rfl rfl ?_
    | refine wG_new (o_mks rfl rfl (by omega) (by decide)) ?_))
    exact ret_boolE (.inr rfl) ⟨_, retV_mv rfl, rfl⟩
  rw [if_neg hD2] at c1
  obtain ⟨s4, s5, s6⟩ := szD_ok (Int.not_lt.1 hD2)
  have h1' : r.cs.length ≤ 1048576 := by omega
  have h2' : r.xs.length ≤ 1048576 := by omega
  have h3' : xs.length ≤ 1048576 := by omega
  have hL' : LenN xs 1048576 := fun i hi => by have := s5 i hi; omega
  have h3t : (tD xs).length ≤ 1048576 := by rw [tD_len]; exact h3'
  have hLt := hL'.t
  have cT := con15 a b c r xs h1' h2' h3' hL'
  have cS := con23 true true true r (tD xs) h1' h2' h3t hLt
  have cI := con24 true true true r (tD xs) h1' h2' h3t hLt
  have cE := con18 true true true true true true r (tD xs) h1' h2' h3t hLt
  have hlen := dtO_len r xs
  have d0 : decide (szD (szR 1048576 r) xs < 0) = false := decide_eq_false hD2
  repeat (first | refine wG_call c1 rfl rfl ?_ | (first
    | refine wC_a rfl ?_
    | refine q_s rfl ?_
    | refine q_b rfl ?_
    | refine wG_nil ?_
    | refine wG_g rfl ?_
    | refine wG_pure (o_len_vwm rfl) ?_
    | refine wG_pure (o_not_d rfl) ?_
    | refine wG_p rfl (by first | exact rfl | omega) ?_
    | refine wG_pure (o_str2 rfl rfl rfl) ?_
    | refine wG_pure (e_istr rfl rfl (by omega)) ?_
    | refine wG_pure (e_istr0 rfl rfl (by omega)) ?_
    | refine wG_pure (o_not rfl) ?_
    | refine wG_pure (e_ia_vw0 rfl rfl (by omega) rfl) ?_
    | refine wG_pure (e_ia_vwp rfl rfl (by omega) rfl) ?_
    | refine wG_pure (e_ia_vwm rfl rfl (by omega) (by omega) rfl) ?_
    | refine wG_pure (e_ia_vwi rfl rfl (by omega) rfl) ?_
    | refine wG_pure (e_ia_vwn rfl rfl (by omega) (by omega) rfl) ?_
    | refine wG_n rfl rfl ?_
    | refine wG_u rfl rfl ?_
    | refine wG_new (o_mks rfl rfl (by omega) (by decide)) ?_))
  simp only [d0]
  repeat (first
    | refine wC_a rfl ?_
    | refine q_s rfl ?_
    | refine q_b rfl ?_
    | refine wG_nil ?_
    | refine wG_g rfl ?_
    | refine wG_pure (o_len_vwm rfl) ?_
    | refine wG_pure (o_not_d rfl) ?_
    | refine wG_p rfl (by first | exact rfl | omega) ?_
    | refine wG_pure (o_str2 rfl rfl rfl) ?_
    | refine wG_pure (e_istr rfl rfl (by omega)) ?_
    | refine wG_pure (e_istr0 rfl rfl (by omega)) ?_
    | refine wG_pure (o_not rfl) ?_
    | refine wG_pure (e_ia_vw0 rfl rfl (by omega) rfl) ?_
    | refine wG_pure (e_ia_vwp rfl rfl (by omega) rfl) ?_
    | refine wG_pure (e_ia_vwm rfl rfl (by omega) (by omega) rfl) ?_
    | refine wG_pure (e_ia_vwi rfl rfl (by omega) rfl) ?_
    | refine wG_pure (e_ia_vwn rfl rfl (by omega) (by omega) rfl) ?_
    | refine wG_n rfl rfl ?_
    | refine wG_u rfl rfl ?_
    | refine wG_new (o_mks rfl rfl (by omega) (by decide)) ?_)
  refine wG_callG (v' := dtV 1 r xs) cT rfl rfl rfl ?_
  change wpG _ _ _ ⟨_, dtH 1 r xs _, _⟩ _
  obtain ⟨m2, hm2⟩ : ∃ m2, 0 + 1 + (dtO r xs).length = m2 := ⟨_, rfl⟩
  rw [hm2]
  repeat (first | refine wG_call cS (ag_any (dr_dt r xs (fun i rows hi => dtH_in hi)) ag_nil) rfl ?_ | (first
    | refine wC_a rfl ?_
    | refine q_s rfl ?_
    | refine q_b rfl ?_
    | refine wG_nil ?_
    | refine wG_g rfl ?_
    | refine wG_pure (o_len_vwm rfl) ?_
    | refine wG_pure (o_not_d rfl) ?_
    | refine wG_p rfl (by first | exact rfl | omega) ?_
    | refine wG_pure (o_str2 rfl rfl rfl) ?_
    | refine wG_pure (e_istr rfl rfl (by omega)) ?_
    | refine wG_pure (e_istr0 rfl rfl (by omega)) ?_
    | refine wG_pure (o_not rfl) ?_
    | refine wG_pure (e_ia_vw0 rfl rfl (by omega) rfl) ?_
    | refine wG_pure (e_ia_vwp rfl rfl (by omega) rfl) ?_
    | refine wG_pure (e_ia_vwm rfl rfl (by omega) (by omega) rfl) ?_
    | refine wG_pure (e_ia_vwi rfl rfl (by omega) rfl) ?_
    | refine wG_pure (e_ia_vwn rfl rfl (by omega) (by omega) rfl) ?_
    | refine wG_n rfl rfl ?_
    | refine wG_u rfl rfl ?_
    | refine wG_new (o_mks rfl rfl (by omega) (by decide)) ?_))
  refine wG_pure (o_ldt_pt rfl (dtH_out (by omega) rfl) rfl rfl rfl) ?_
  refine wG_callG (v' := dtV m2 r xs) cT rfl rfl rfl ?_
  change wpG _ _ _ ⟨_, dtH m2 r xs _, _⟩ _
  obtain ⟨b0, hb0⟩ : ∃ b0, m2 + (dtO r xs).length = b0 := ⟨_, rfl⟩
  rw [hb0]
  have hx0 : ∀ {v1 v2 : Option Ab.Rows} {h : List (Nat × Option Ab.Rows)} (i : Nat) (rows : Ab.Rows), (dtO r xs)[i]? = some rows → hg ((b0, v1) :: (b0, v2) :: dtH m2 r xs h) (m2 + i) = some (shR m2 rows) := fun i rows hi => by
    have := dtO_lt hi
    exact hg_skip (by omega) (hg_skip (by omega) (dtH_in hi))
  have hx1 : ∀ {v1 v2 : Option Ab.Rows} {h : List (Nat × Option Ab.Rows)} (i : Nat) (rows : Ab.Rows), (dtO r xs)[i]? = some rows → hg (dtH (b0 + 1) r xs ((b0, v1) :: (b0, v2) :: dtH m2 r xs h)) (m2 + i) = some (shR m2 rows) := fun i rows hi => by
    have := dtO_lt hi
    exact dtH_out (by omega) (hx0 i rows hi)
  generalize decide (GoodN r (tD xs)) = p at *
  repeat (first | refine wC_dregE ?_ | refine wG_upd (o_st_agg rfl hg_here rfl rfl rfl rfl rfl) ?_ | refine wG_pure (o_ldt_pt rfl hg_here rfl rfl rfl) ?_ | refine wG_call cI (ag_any (dr_dt r xs hx0) ag_nil) rfl ?_ | (first
    | refine wC_a rfl ?_
    | refine q_s rfl ?_
    | refine q_b rfl ?_
    | refine wG_nil ?_
    | refine wG_g rfl ?_
    | refine wG_pure (o_len_vwm rfl) ?_
    | refine wG_pure (o_not_d rfl) ?_
    | refine wG_p rfl (by first | exact rfl | omega) ?_
    | refine wG_pure (o_str2 rfl rfl rfl) ?_
    | refine wG_pure (e_istr rfl rfl (by omega)) ?_
    | refine wG_pure (e_istr0 rfl rfl (by omega)) ?_
    | refine wG_pure (o_not rfl) ?_
    | refine wG_pure (e_ia_vw0 rfl rfl (by omega) rfl) ?_
    | refine wG_pure (e_ia_vwp rfl rfl (by omega) rfl) ?_
    | refine wG_pure (e_ia_vwm rfl rfl (by omega) (by omega) rfl) ?_
    | refine wG_pure (e_ia_vwi rfl rfl (by omega) rfl) ?_
    | refine wG_pure (e_ia_vwn rfl rfl (by omega) (by omega) rfl) ?_
    | refine wG_n rfl rfl ?_
    | refine wG_u rfl rfl ?_
    | refine wG_new (o_mks rfl rfl (by omega) (by decide)) ?_))
  have dp : decide (p ≠ p) = false := decide_eq_false (fun h => h rfl)
  simp only [dp]
  repeat (first | refine wC_dregE ?_ | refine wE_v (o_ldt_pt rfl hg_here rfl rfl rfl) rfl ?_ | refine wE_v (o_ldt_pt rfl (hg_skip (by omega) (hg_skip (by omega) (dtH_out (by omega) (dtH_out (by omega) rfl)))) rfl rfl rfl) rfl ?_ | refine wE_callG (v' := dtV (b0 + 1) r xs) cT rfl rfl rfl rfl ?_ | refine wE_call cE (ag_any (dr_dt r xs hx1) (ag_any (dr_dt r xs (fun i rows hi => dtH_in hi)) ag_nil)) rfl rfl ?_ | refine wE_nil (hok5 (djB_mkh (by omega))) ?_ | (first
    | refine wC_a rfl ?_
    | refine q_s rfl ?_
    | refine q_b rfl ?_
    | refine wG_nil ?_
    | refine wG_g rfl ?_
    | refine wG_pure (o_len_vwm rfl) ?_
    | refine wG_pure (o_not_d rfl) ?_
    | refine wG_p rfl (by first | exact rfl | omega) ?_
    | refine wG_pure (o_str2 rfl rfl rfl) ?_
    | refine wG_pure (e_istr rfl rfl (by omega)) ?_
    | refine wG_pure (e_istr0 rfl rfl (by omega)) ?_
    | refine wG_pure (o_not rfl) ?_
    | refine wG_pure (e_ia_vw0 rfl rfl (by omega) rfl) ?_
    | refine wG_pure (e_ia_vwp rfl rfl (by omega) rfl) ?_
    | refine wG_pure (e_ia_vwm rfl rfl (by omega) (by omega) rfl) ?_
    | refine wG_pure (e_ia_vwi rfl rfl (by omega) rfl) ?_
    | refine wG_pure (e_ia_vwn rfl rfl (by omega) (by omega) rfl) ?_
    | refine wG_n rfl rfl ?_
    | refine wG_u rfl rfl ?_
    | refine wG_new (o_mks rfl rfl (by omega) (by decide)) ?_) | (first
    | refine wE_nil (by kernel_rfl) ?_
    | refine wE_gy rfl ?_
    | refine wE_gn rfl rfl rfl ?_
    | refine wE_gu rfl rfl ?_
    | refine wE_gnn rfl rfl rfl ?_
    | refine wE_v (o_len_vwm rfl) rfl ?_
    | refine wE_v (o_not_d rfl) rfl ?_
    | refine wE_p rfl (by first | exact rfl | omega) rfl ?_
    | refine wE_v (o_str2 rfl rfl rfl) rfl ?_
    | refine wE_v (e_istr rfl rfl (by omega)) rfl ?_
    | refine wE_v (e_istr0 rfl rfl (by omega)) rfl ?_
    | refine wE_v (o_not rfl) rfl ?_
    | refine wE_v (e_ia_vw0 rfl rfl (by omega) rfl) rfl ?_
    | refine wE_v (e_ia_vwp rfl rfl (by omega) rfl) rfl ?_
    | refine wE_v (e_ia_vwm rfl rfl (by omega) (by omega) rfl) rfl ?_
    | refine wE_v (e_ia_vwi rfl rfl (by omega) rfl) rfl ?_
    | refine wE_v (e_ia_vwn rfl rfl (by omega) (by omega) rfl) rfl ?_
    | refine wE_n rfl rfl rfl ?_
    | refine wE_u rfl rfl rfl ?_
    | refine wE_new (o_mks rfl rfl (by omega) (by decide)) rfl ?_))
  exact ret_boolE (.inr rfl) ⟨_, retV_mv rfl, rfl⟩
theorem con5 (a b c nn : Bool) (r : Rc) (xs : List Dn) (ys : List Int) (h1 : r.cs.length ≤ 9223372036854775807) (h2 : r.xs.length ≤ 9223372036854775807) (h3 : xs.length ≤ 9223372036854775807) (hL : LenN xs 9223372036854775807) (h4 : ys.length ≤ 9223372036854775807) : Con Try.prog 5 true [.agg (dtR a b c r xs), .vw nn (ys.map iRow)] (.bool true) [] := by
  classical
  refine con_of_wp mixed fun5 (by simp) [] plain_nil ?_
  unfold ac5 ro5
  simp only [zipT]
  repeat (first
    | refine wC_a rfl ?_
    | refine q_s rfl ?_
    | refine q_b rfl ?_
    | refine wG_nil ?_
    | refine wG_g rfl ?_
    | refine wG_pure (o_len_vwm rfl) ?_
    | refine wG_pure (o_not_d rfl) ?_
    | refine wG_p rfl (by first | exact rfl | omega) ?_
    | refine wG_pure (o_str2 rfl rfl rfl) ?_
    | refine wG_pure (e_istr rfl rfl (by omega)) ?_
    | refine wG_pure (e_istr0 rfl rfl (by omega)) ?_
    | refine wG_pure (o_not rfl) ?_
    | refine wG_pure (e_ia_vw0 rfl rfl (by omega) rfl) ?_
    | refine wG_pure (e_ia_vwp rfl rfl (by omega) rfl) ?_
    | refine wG_pure (e_ia_vwm rfl rfl (by omega) (by omega) rfl) ?_
    | refine wG_pure (e_ia_vwi rfl rfl (by omega) rfl) ?_
    | refine wG_pure (e_ia_vwn rfl rfl (by omega) (by omega) rfl) ?_
    | refine wG_n rfl rfl ?_
    | refine wG_u rfl rfl ?_
    | refine wG_new (o_mks rfl rfl (by omega) (by decide)) ?_)
  refine wC_cond_d rfl (fun hd => ?_) (fun hd => ?_)
  · repeat (first
    | refine wC_a rfl ?_
    | refine q_s rfl ?_
    | refine q_b rfl ?_
    | refine wG_nil ?_
    | refine wG_g rfl ?_
    | refine wG_pure (o_len_vwm rfl) ?_
    | refine wG_pure (o_not_d rfl) ?_
    | refine wG_p rfl (by first | exact rfl | omega) ?_
    | refine wG_pure (o_str2 rfl rfl rfl) ?_
    | refine wG_pure (e_istr rfl rfl (by omega)) ?_
    | refine wG_pure (e_istr0 rfl rfl (by omega)) ?_
    | refine wG_pure (o_not rfl) ?_
    | refine wG_pure (e_ia_vw0 rfl rfl (by omega) rfl) ?_
    | refine wG_pure (e_ia_vwp rfl rfl (by omega) rfl) ?_
    | refine wG_pure (e_ia_vwm rfl rfl (by omega) (by omega) rfl) ?_
    | refine wG_pure (e_ia_vwi rfl rfl (by omega) rfl) ?_
    | refine wG_pure (e_ia_vwn rfl rfl (by omega) (by omega) rfl) ?_
    | refine wG_n rfl rfl ?_
    | refine wG_u rfl rfl ?_
    | refine wG_new (o_mks rfl rfl (by omega) (by decide)) ?_)
    exact ret_boolE (.inr rfl) ⟨_, retV_mv rfl, rfl⟩
  have h4' : ys.length ≤ 1048576 := by omega
  have c1 := con12 a b c r xs h1 h2 h3 hL 1048576 (by decide) (by decide)
  by_cases hR : szR 1048576 r < 0
  · rw [if_pos hR] at c1
    repeat (first | refine wG_call c1 rfl rfl ?_ | (first
    | refine wC_a rfl ?_
    | refine q_s rfl ?_
    | refine q_b rfl ?_
    | refine wG_nil ?_
    | refine wG_g rfl ?_
    | refine wG_pure (o_len_vwm rfl) ?_
    | refine wG_pure (o_not_d rfl) ?_
    | refine wG_p rfl (by first | exact rfl | omega) ?_
    | refine wG_pure (o_str2 rfl rfl rfl) ?_
    | refine wG_pure (e_istr rfl rfl (by omega)) ?_
    | refine wG_pure (e_istr0 rfl rfl (by omega)) ?_
    | refine wG_pure (o_not rfl) ?_
    | refine wG_pure (e_ia_vw0 rfl rfl (by omega) rfl) ?_
    | refine wG_pure (e_ia_vwp rfl rfl (by omega) rfl) ?_
    | refine wG_pure (e_ia_vwm rfl rfl (by omega) (by omega) rfl) ?_
    | refine wG_pure (e_ia_vwi rfl rfl (by omega) rfl) ?_
    | refine wG_pure (e_ia_vwn rfl rfl (by omega) (by omega) rfl) ?_
    | refine wG_n rfl rfl ?_
    | refine wG_u rfl rfl ?_
    | refine wG_new (o_mks rfl rfl (by omega) (by decide)) ?_))
    exact ret_boolE (.inr rfl) ⟨_, retV_mv rfl, rfl⟩
  rw [if_neg hR] at c1
  obtain ⟨s1, s2, s3⟩ := szR_ok (Int.not_lt.1 hR)
  by_cases hD2 : szD (szR 1048576 r) xs < 0
  · rw [if_pos hD2] at c1
    repeat (first | refine wG_call c1 rfl rfl ?_ | (first
    | refine wC_a rfl ?_
    | refine q_s rfl ?_
    | refine q_b rfl ?_
    | refine wG_nil ?_
    | refine wG_g rfl ?_
    | refine wG_pure (o_len_vwm rfl) ?_
    | refine wG_pure (o_not_d rfl) ?_
    | refine wG_p rfl (by first | exact rfl | omega) ?_
    | refine wG_pure (o_str2 rfl rfl rfl) ?_
    | refine wG_pure (e_istr rfl rfl (by omega)) ?_
    | refine wG_pure (e_istr0 rfl rfl (by omega)) ?_
    | refine wG_pure (o_not rfl) ?_
    | refine wG_pure (e_ia_vw0 rfl rfl (by omega) rfl) ?_
    | refine wG_pure (e_ia_vwp rfl rfl (by omega) rfl) ?_
    | refine wG_pure (e_ia_vwm rfl rfl (by omega) (by omega) rfl) ?_
    | refine wG_pure (e_ia_vwi rfl rfl (by omega) rfl) ?_
    | refine wG_pure (e_ia_vwn rfl rfl (by omega) (by omega) rfl) ?_
    | refine wG_n rfl rfl ?_
    | refine wG_u rfl rfl ?_
    | refine wG_new (o_mks rfl rfl (by omega) (by decide)) ?_))
    exact ret_boolE (.inr rfl) ⟨_, retV_mv rfl, rfl⟩
  rw [if_neg hD2] at c1
  obtain ⟨s4, s5, s6⟩ := szD_ok (Int.not_lt.1 hD2)
  have h1' : r.cs.length ≤ 1048576 := by omega
  have h2' : r.xs.length ≤ 1048576 := by omega
  have h3' : xs.length ≤ 1048576 := by omega
  have hL' : LenN xs 1048576 := fun i hi => by have := s5 i hi; omega
  have h3t : (tD xs).length ≤ 1048576 := by rw [tD_len]; exact h3'
  have hLt := hL'.t
  have cT := con15 a b c r xs h1' h2' h3' hL'
  obtain ⟨z, p, cS, cI⟩ : ∃ z p, Con Try.prog 25 true [.agg (dtR true true true r (tD xs)), .vw true (ys.map iRow)] (.tup [.int .i64 z, .bool p]) [] ∧ Con Try.prog 27 true [.agg (dtR true true true r (tD xs)), .vw true (ys.map iRow)] (.tup [.int .i64 z, .bool p]) [] := by
    by_cases hk : okY r (tD xs) ys
    · exact ⟨_, true, con25_yes true true true true r (tD xs) ys h1' h2' h3t hLt hk, con27_yes true true true true r (tD xs) ys h1' h2' h3t hLt hk⟩
    · exact ⟨_, false, con25_no true true true true r (tD xs) ys h1' h2' h3t hLt hk, con27_no true true true true r (tD xs) ys h1' h2' h3t hLt hk⟩
  have cE := con18 true true true true true true r (tD xs) h1' h2' h3t hLt
  have cY := con26 nn ys h4'
  have cQ := con28_same true true ys h4'
  have hlen := dtO_len r xs
  have d0 : decide (szD (szR 1048576 r) xs < 0) = false := decide_eq_false hD2
  repeat (first | refine wG_call c1 rfl rfl ?_ | (first
    | refine wC_a rfl ?_
    | refine q_s rfl ?_
    | refine q_b rfl ?_
    | refine wG_nil ?_
    | refine wG_g rfl ?_
    | refine wG_pure (o_len_vwm rfl) ?_
    | refine wG_pure (o_not_d rfl) ?_
    | refine wG_p rfl (by first | exact rfl | omega) ?_
    | refine wG_pure (o_str2 rfl rfl rfl) ?_
    | refine wG_pure (e_istr rfl rfl (by omega)) ?_
    | refine wG_pure (e_istr0 rfl rfl (by omega)) ?_
    | refine wG_pure (o_not rfl) ?_
    | refine wG_pure (e_ia_vw0 rfl rfl (by omega) rfl) ?_
    | refine wG_pure (e_ia_vwp rfl rfl (by omega) rfl) ?_
    | refine wG_pure (e_ia_vwm rfl rfl (by omega) (by omega) rfl) ?_
    | refine wG_pure (e_ia_vwi rfl rfl (by omega) rfl) ?_
    | refine wG_pure (e_ia_vwn rfl rfl (by omega) (by omega) rfl) ?_
    | refine wG_n rfl rfl ?_
    | refine wG_u rfl rfl ?_
    | refine wG_new (o_mks rfl rfl (by omega) (by decide)) ?_))
  simp only [d0]
  repeat (first
    | refine wC_a rfl ?_
    | refine q_s rfl ?_
    | refine q_b rfl ?_
    | refine wG_nil ?_
    | refine wG_g rfl ?_
    | refine wG_pure (o_len_vwm rfl) ?_
    | refine wG_pure (o_not_d rfl) ?_
    | refine wG_p rfl (by first | exact rfl | omega) ?_
    | refine wG_pure (o_str2 rfl rfl rfl) ?_
    | refine wG_pure (e_istr rfl rfl (by omega)) ?_
    | refine wG_pure (e_istr0 rfl rfl (by omega)) ?_
    | refine wG_pure (o_not rfl) ?_
    | refine wG_pure (e_ia_vw0 rfl rfl (by omega) rfl) ?_
    | refine wG_pure (e_ia_vwp rfl rfl (by omega) rfl) ?_
    | refine wG_pure (e_ia_vwm rfl rfl (by omega) (by omega) rfl) ?_
    | refine wG_pure (e_ia_vwi rfl rfl (by omega) rfl) ?_
    | refine wG_pure (e_ia_vwn rfl rfl (by omega) (by omega) rfl) ?_
    | refine wG_n rfl rfl ?_
    | refine wG_u rfl rfl ?_
    | refine wG_new (o_mks rfl rfl (by omega) (by decide)) ?_)
  refine wG_callG (v' := dtV 1 r xs) cT rfl rfl rfl ?_
  change wpG _ _ _ ⟨_, dtH 1 r xs _, _⟩ _
  obtain ⟨y1, hy1⟩ : ∃ y1, 0 + 1 + (dtO r xs).length = y1 := ⟨_, rfl⟩
  rw [hy1]
  repeat (first | refine wG_call1 cY rfl rfl ?_ | refine wG_call cS (ag_any (dr_dt r xs (fun i rows hi => hg_skip (by have := dtO_lt hi; omega) (dtH_in hi))) (ag_sl rfl hg_here rfl iRow_plain ag_nil)) rfl ?_ | (first
    | refine wC_a rfl ?_
    | refine q_s rfl ?_
    | refine q_b rfl ?_
    | refine wG_nil ?_
    | refine wG_g rfl ?_
    | refine wG_pure (o_len_vwm rfl) ?_
    | refine wG_pure (o_not_d rfl) ?_
    | refine wG_p rfl (by first | exact rfl | omega) ?_
    | refine wG_pure (o_str2 rfl rfl rfl) ?_
    | refine wG_pure (e_istr rfl rfl (by omega)) ?_
    | refine wG_pure (e_istr0 rfl rfl (by omega)) ?_
    | refine wG_pure (o_not rfl) ?_
    | refine wG_pure (e_ia_vw0 rfl rfl (by omega) rfl) ?_
    | refine wG_pure (e_ia_vwp rfl rfl (by omega) rfl) ?_
    | refine wG_pure (e_ia_vwm rfl rfl (by omega) (by omega) rfl) ?_
    | refine wG_pure (e_ia_vwi rfl rfl (by omega) rfl) ?_
    | refine wG_pure (e_ia_vwn rfl rfl (by omega) (by omega) rfl) ?_
    | refine wG_n rfl rfl ?_
    | refine wG_u rfl rfl ?_
    | refine wG_new (o_mks rfl rfl (by omega) (by decide)) ?_))
  refine wG_pure (o_ldt_pt rfl (hg_skip (by omega) (dtH_out (by omega) rfl)) rfl rfl rfl) ?_
  refine wG_callG (v' := dtV (y1 + 1) r xs) cT rfl rfl rfl ?_
  change wpG _ _ _ ⟨_, dtH (y1 + 1) r xs _, _⟩ _
  obtain ⟨b0, hb0⟩ : ∃ b0, y1 + 1 + (dtO r xs).length = b0 := ⟨_, rfl⟩
  rw [hb0]
  have hx0 : ∀ {v0 v1 v2 : Option Ab.Rows} {h : List (Nat × Option Ab.Rows)} (i : Nat) (rows : Ab.Rows), (dtO r xs)[i]? = some rows → hg ((b0 + 1, v0) :: (b0, v1) :: (b0, v2) :: dtH (y1 + 1) r xs h) (y1 + 1 + i) = some (shR (y1 + 1) rows) := fun i rows hi => by
    have := dtO_lt hi
    exact hg_skip (by omega) (hg_skip (by omega) (hg_skip (by omega) (dtH_in hi)))
  have hx1 : ∀ {v0 v1 v2 : Option Ab.Rows} {h : List (Nat × Option Ab.Rows)} (i : Nat) (rows : Ab.Rows), (dtO r xs)[i]? = some rows → hg (dtH (b0 + 1 + 1) r xs ((b0 + 1, v0) :: (b0, v1) :: (b0, v2) :: dtH (y1 + 1) r xs h)) (y1 + 1 + i) = some (shR (y1 + 1) rows) := fun i rows hi => by
    have := dtO_lt hi
    exact dtH_out (by omega) (hx0 i rows hi)
  have ne1 : b0 ≠ b0 + 1 := by omega
  repeat (first | refine wC_dregE ?_ | refine wG_call1 cY rfl rfl ?_ | refine wG_upd (o_st_agg rfl hg_here rfl rfl rfl rfl rfl) ?_ | refine wG_pure (o_ldt_pt rfl (hg_skip ne1 hg_here) rfl rfl rfl) ?_ | refine wG_call cI (ag_any (dr_dt r xs hx0) (ag_sl rfl hg_here rfl iRow_plain ag_nil)) rfl ?_ | (first
    | refine wC_a rfl ?_
    | refine q_s rfl ?_
    | refine q_b rfl ?_
    | refine wG_nil ?_
    | refine wG_g rfl ?_
    | refine wG_pure (o_len_vwm rfl) ?_
    | refine wG_pure (o_not_d rfl) ?_
    | refine wG_p rfl (by first | exact rfl | omega) ?_
    | refine wG_pure (o_str2 rfl rfl rfl) ?_
    | refine wG_pure (e_istr rfl rfl (by omega)) ?_
    | refine wG_pure (e_istr0 rfl rfl (by omega)) ?_
    | refine wG_pure (o_not rfl) ?_
    | refine wG_pure (e_ia_vw0 rfl rfl (by omega) rfl) ?_
    | refine wG_pure (e_ia_vwp rfl rfl (by omega) rfl) ?_
    | refine wG_pure (e_ia_vwm rfl rfl (by omega) (by omega) rfl) ?_
    | refine wG_pure (e_ia_vwi rfl rfl (by omega) rfl) ?_
    | refine wG_pure (e_ia_vwn rfl rfl (by omega) (by omega) rfl) ?_
    | refine wG_n rfl rfl ?_
    | refine wG_u rfl rfl ?_
    | refine wG_new (o_mks rfl rfl (by omega) (by decide)) ?_))
  have dz : decide (z ≠ z) = false := decide_eq_false (fun h => h rfl)
  have dp : decide (p ≠ p) = false := decide_eq_false (fun h => h rfl)
  simp only [dz]
  repeat (first
    | refine wC_a rfl ?_
    | refine q_s rfl ?_
    | refine q_b rfl ?_
    | refine wG_nil ?_
    | refine wG_g rfl ?_
    | refine wG_pure (o_len_vwm rfl) ?_
    | refine wG_pure (o_not_d rfl) ?_
    | refine wG_p rfl (by first | exact rfl | omega) ?_
    | refine wG_pure (o_str2 rfl rfl rfl) ?_
    | refine wG_pure (e_istr rfl rfl (by omega)) ?_
    | refine wG_pure (e_istr0 rfl rfl (by omega)) ?_
    | refine wG_pure (o_not rfl) ?_
    | refine wG_pure (e_ia_vw0 rfl rfl (by omega) rfl) ?_
    | refine wG_pure (e_ia_vwp rfl rfl (by omega) rfl) ?_
    | refine wG_pure (e_ia_vwm rfl rfl (by omega) (by omega) rfl) ?_
    | refine wG_pure (e_ia_vwi rfl rfl (by omega) rfl) ?_
    | refine wG_pure (e_ia_vwn rfl rfl (by omega) (by omega) rfl) ?_
    | refine wG_n rfl rfl ?_
    | refine wG_u rfl rfl ?_
    | refine wG_new (o_mks rfl rfl (by omega) (by decide)) ?_)
  simp only [dp]
  repeat (first | refine wC_dregE ?_ | refine wG_call1 cY rfl rfl ?_ | refine wE_v (o_ldt_pt rfl (hg_skip ne1 hg_here) rfl rfl rfl) rfl ?_ | refine wE_v (o_ldt_pt rfl (hg_skip (by omega) (hg_skip (by omega) (hg_skip (by omega) (dtH_out (by omega) (hg_skip (by omega) (dtH_out (by omega) rfl)))))) rfl rfl rfl) rfl ?_ | refine wE_callG (v' := dtV (b0 + 1 + 1) r xs) cT rfl rfl rfl rfl ?_ | refine wE_call cE (ag_any (dr_dt r xs hx1) (ag_any (dr_dt r xs (fun i rows hi => dtH_in hi)) ag_nil)) rfl rfl ?_ | refine wE_nil (hok5 (djB_mkh (by omega))) ?_ | refine wG_call cQ (ag_sl rfl (hg_skip (by omega) (dtH_out (by omega) hg_here)) rfl iRow_plain (ag_sl rfl hg_here rfl iRow_plain ag_nil)) rfl ?_ | (first
    | refine wC_a rfl ?_
    | refine q_s rfl ?_
    | refine q_b rfl ?_
    | refine wG_nil ?_
    | refine wG_g rfl ?_
    | refine wG_pure (o_len_vwm rfl) ?_
    | refine wG_pure (o_not_d rfl) ?_
    | refine wG_p rfl (by first | exact rfl | omega) ?_
    | refine wG_pure (o_str2 rfl rfl rfl) ?_
    | refine wG_pure (e_istr rfl rfl (by omega)) ?_
    | refine wG_pure (e_istr0 rfl rfl (by omega)) ?_
    | refine wG_pure (o_not rfl) ?_
    | refine wG_pure (e_ia_vw0 rfl rfl (by omega) rfl) ?_
    | refine wG_pure (e_ia_vwp rfl rfl (by omega) rfl) ?_
    | refine wG_pure (e_ia_vwm rfl rfl (by omega) (by omega) rfl) ?_
    | refine wG_pure (e_ia_vwi rfl rfl (by omega) rfl) ?_
    | refine wG_pure (e_ia_vwn rfl rfl (by omega) (by omega) rfl) ?_
    | refine wG_n rfl rfl ?_
    | refine wG_u rfl rfl ?_
    | refine wG_new (o_mks rfl rfl (by omega) (by decide)) ?_) | (first
    | refine wE_nil (by kernel_rfl) ?_
    | refine wE_gy rfl ?_
    | refine wE_gn rfl rfl rfl ?_
    | refine wE_gu rfl rfl ?_
    | refine wE_gnn rfl rfl rfl ?_
    | refine wE_v (o_len_vwm rfl) rfl ?_
    | refine wE_v (o_not_d rfl) rfl ?_
    | refine wE_p rfl (by first | exact rfl | omega) rfl ?_
    | refine wE_v (o_str2 rfl rfl rfl) rfl ?_
    | refine wE_v (e_istr rfl rfl (by omega)) rfl ?_
    | refine wE_v (e_istr0 rfl rfl (by omega)) rfl ?_
    | refine wE_v (o_not rfl) rfl ?_
    | refine wE_v (e_ia_vw0 rfl rfl (by omega) rfl) rfl ?_
    | refine wE_v (e_ia_vwp rfl rfl (by omega) rfl) rfl ?_
    | refine wE_v (e_ia_vwm rfl rfl (by omega) (by omega) rfl) rfl ?_
    | refine wE_v (e_ia_vwi rfl rfl (by omega) rfl) rfl ?_
    | refine wE_v (e_ia_vwn rfl rfl (by omega) (by omega) rfl) rfl ?_
    | refine wE_n rfl rfl rfl ?_
    | refine wE_u rfl rfl rfl ?_
    | refine wE_new (o_mks rfl rfl (by omega) (by decide)) rfl ?_))
  exact ret_boolE (.inr rfl) ⟨_, retV_mv rfl, rfl⟩
end Go.Proofs.Ytkeobnaehgcloaa.Dst
