/- The law on a fixed date: no record comes out; the law. -/
import Derived.Test.YtkeobnaehgcloaaDxB
namespace Go.Proofs.Ytkeobnaehgcloaa.Dst
open Go Go.Proofs.Ytkeobnaehgcloaa.Ab Go.Proofs.Ytkeobnaehgcloaa.Il Go.Proofs.Ytkeobnaehgcloaa.Rec
attribute [local irreducible] wpO wpC wpDr wpQ wpG wpE stepA seqQ blkQ Ret RetG ev
set_option maxRecDepth 10000
set_option maxHeartbeats 8000000
set_option linter.unusedSimpArgs false
set_option linter.unusedVariables false

theorem con_n3 {P : Program} {f : Nat} {nv : Bool} {vs : List AV} {v : AV} {objs : List Ab.Rows} (h : Con P f nv (.agg [.vw false [], .vw false [], .vw false []]  :: vs) v objs) : Con P f nv (.agg [.nilS, .nilS, .nilS]  :: vs) v objs := by
  refine ⟨h.1, h.2.1, fun F w cargs hF ha => h.2.2 F w cargs hF ?_⟩
  obtain ⟨u, us, e1, ⟨cs, q1, ⟨u1, us1, q2, q3, ⟨u2, us2, q4, q5, ⟨u3, us3, q8, q9, q10⟩⟩⟩, q7⟩, e3⟩ := ha
  exact ⟨u, us, e1, ⟨cs, q1, ⟨u1, us1, q2, V_nil q3, ⟨u2, us2, q4, V_nil q5, ⟨u3, us3, q8, V_nil q9, q10⟩⟩⟩, q7⟩, e3⟩
theorem con_n32 {P : Program} {f : Nat} {nv : Bool} {b : AV} {vs : List AV} {v : AV} {objs : List Ab.Rows} (h : Con P f nv (b :: .agg [.vw false [], .vw false [], .vw false []]  :: vs) v objs) : Con P f nv (b :: .agg [.nilS, .nilS, .nilS]  :: vs) v objs := by
  refine ⟨h.1, h.2.1, fun F w cargs hF ha => h.2.2 F w cargs hF ?_⟩
  obtain ⟨u0, us0, e0, e00, ⟨u, us, e1, ⟨cs, q1, ⟨u1, us1, q2, q3, ⟨u2, us2, q4, q5, ⟨u3, us3, q8, q9, q10⟩⟩⟩, q7⟩, e3⟩⟩ := ha
  exact ⟨u0, us0, e0, e00, ⟨u, us, e1, ⟨cs, q1, ⟨u1, us1, q2, V_nil q3, ⟨u2, us2, q4, V_nil q5, ⟨u3, us3, q8, V_nil q9, q10⟩⟩⟩, q7⟩, e3⟩⟩
theorem eqR_no : Con Try.prog 18 true [.agg [.nilS, .nilS, .nilS], .agg [.nilS, .nilS, .nilS]] (.bool true) [] :=
  con_n3 (con_n32 (con18 false false false false false false ⟨[], []⟩ [] (by decide) (by decide) (by decide) (fun i hi => absurd hi (Nat.not_lt_zero _))))
theorem heldR_no : Con Try.prog 22 true [.agg [.nilS, .nilS, .nilS], .int .i64 1] (.int .i64 1) [] :=
  con_n3 (con22 false false false 0 0 [] [] (by decide) (by decide) rfl (fun j hj => absurd hj (Nat.not_lt_zero _)) (by decide) (by decide))
theorem con102_nil (k : Int) : Con Try.prog 102 true [.nilS, .int .i64 k] (.int .i64 k) [] := by
  refine con_of_wp mixed fun102 (by simp) [] plain_nil ?_
  unfold ac102 ro102
  simp only [zipT]
  repeat (first
    | refine wC_a rfl ?_
    | refine q_s rfl ?_
    | refine q_b rfl ?_
    | refine wG_nil ?_
    | refine wG_g rfl ?_
    | refine wG_pure (o_len_vwm rfl) ?_
    | refine wG_pure (o_not_d rfl) ?_
    | refine wG_p rfl (by first | exact rfl | omega) ?_
    | refine wG_pure (o_str2 rfl rfl rfl) ?_
    | refine wG_pure (e_istr rfl rfl (by omega)) ?_
    | refine wG_pure (e_istr0 rfl rfl (by omega)) ?_
    | refine wG_pure (o_not rfl) ?_
    | refine wG_pure (e_ia_vw0 rfl rfl (by omega) rfl) ?_
    | refine wG_pure (e_ia_vwp rfl rfl (by omega) rfl) ?_
    | refine wG_pure (e_ia_vwm rfl rfl (by omega) (by omega) rfl) ?_
    | refine wG_pure (e_ia_vwi rfl rfl (by omega) rfl) ?_
    | refine wG_pure (e_ia_vwn rfl rfl (by omega) (by omega) rfl) ?_
    | refine wG_n rfl rfl ?_
    | refine wG_u rfl rfl ?_
    | refine wG_new (o_mks rfl rfl (by omega) (by decide)) ?_)
  refine wC_loop Nat (fun i => ⟨[(0, .nilS), (1, .int .i64 k), (5, .int .i64 0)], [], 0⟩) (fun _ => True) (fun i => 0) 0 trivial ?_ (fun _ _ => Nat.le_refl _) ?_
  · simp [LeP, leT, leH, lk, AV.ltr]
  intro i hi
  repeat (first
    | refine wC_a rfl ?_
    | refine q_s rfl ?_
    | refine q_b rfl ?_
    | refine wG_nil ?_
    | refine wG_g rfl ?_
    | refine wG_pure (o_len_vwm rfl) ?_
    | refine wG_pure (o_not_d rfl) ?_
    | refine wG_p rfl (by first | exact rfl | omega) ?_
    | refine wG_pure (o_str2 rfl rfl rfl) ?_
    | refine wG_pure (e_istr rfl rfl (by omega)) ?_
    | refine wG_pure (e_istr0 rfl rfl (by omega)) ?_
    | refine wG_pure (o_not rfl) ?_
    | refine wG_pure (e_ia_vw0 rfl rfl (by omega) rfl) ?_
    | refine wG_pure (e_ia_vwp rfl rfl (by omega) rfl) ?_
    | refine wG_pure (e_ia_vwm rfl rfl (by omega) (by omega) rfl) ?_
    | refine wG_pure (e_ia_vwi rfl rfl (by omega) rfl) ?_
    | refine wG_pure (e_ia_vwn rfl rfl (by omega) (by omega) rfl) ?_
    | refine wG_n rfl rfl ?_
    | refine wG_u rfl rfl ?_
    | refine wG_new (o_mks rfl rfl (by omega) (by decide)) ?_)
  exact ret_intE (.inr rfl) ⟨_, retV_mv rfl, rfl⟩
theorem con103_nil (k : Int) : Con Try.prog 103 true [.nilS, .int .i64 k] (.int .i64 k) [] := by
  refine con_of_wp mixed fun103 (by simp) [] plain_nil ?_
  unfold ac103 ro103
  simp only [zipT]
  repeat (first
    | refine wC_a rfl ?_
    | refine q_s rfl ?_
    | refine q_b rfl ?_
    | refine wG_nil ?_
    | refine wG_g rfl ?_
    | refine wG_pure (o_len_vwm rfl) ?_
    | refine wG_pure (o_not_d rfl) ?_
    | refine wG_p rfl (by first | exact rfl | omega) ?_
    | refine wG_pure (o_str2 rfl rfl rfl) ?_
    | refine wG_pure (e_istr rfl rfl (by omega)) ?_
    | refine wG_pure (e_istr0 rfl rfl (by omega)) ?_
    | refine wG_pure (o_not rfl) ?_
    | refine wG_pure (e_ia_vw0 rfl rfl (by omega) rfl) ?_
    | refine wG_pure (e_ia_vwp rfl rfl (by omega) rfl) ?_
    | refine wG_pure (e_ia_vwm rfl rfl (by omega) (by omega) rfl) ?_
    | refine wG_pure (e_ia_vwi rfl rfl (by omega) rfl) ?_
    | refine wG_pure (e_ia_vwn rfl rfl (by omega) (by omega) rfl) ?_
    | refine wG_n rfl rfl ?_
    | refine wG_u rfl rfl ?_
    | refine wG_new (o_mks rfl rfl (by omega) (by decide)) ?_)
  refine wC_loop Nat (fun i => ⟨[(0, .nilS), (1, .int .i64 k), (5, .int .i64 0)], [], 0⟩) (fun _ => True) (fun i => 0) 0 trivial ?_ (fun _ _ => Nat.le_refl _) ?_
  · simp [LeP, leT, leH, lk, AV.ltr]
  intro i hi
  repeat (first
    | refine wC_a rfl ?_
    | refine q_s rfl ?_
    | refine q_b rfl ?_
    | refine wG_nil ?_
    | refine wG_g rfl ?_
    | refine wG_pure (o_len_vwm rfl) ?_
    | refine wG_pure (o_not_d rfl) ?_
    | refine wG_p rfl (by first | exact rfl | omega) ?_
    | refine wG_pure (o_str2 rfl rfl rfl) ?_
    | refine wG_pure (e_istr rfl rfl (by omega)) ?_
    | refine wG_pure (e_istr0 rfl rfl (by omega)) ?_
    | refine wG_pure (o_not rfl) ?_
    | refine wG_pure (e_ia_vw0 rfl rfl (by omega) rfl) ?_
    | refine wG_pure (e_ia_vwp rfl rfl (by omega) rfl) ?_
    | refine wG_pure (e_ia_vwm rfl rfl (by omega) (by omega) rfl) ?_
    | refine wG_pure (e_ia_vwi rfl rfl (by omega) rfl) ?_
    | refine wG_pure (e_ia_vwn rfl rfl (by omega) (by omega) rfl) ?_
    | refine wG_n rfl rfl ?_
    | refine wG_u rfl rfl ?_
    | refine wG_new (o_mks rfl rfl (by omega) (by decide)) ?_)
  exact ret_intE (.inr rfl) ⟨_, retV_mv rfl, rfl⟩
theorem con59_nil (k : Int) : Con Try.prog 59 true [.nilS, .int .i64 k] (.int .i64 k) [] := by
  refine con_of_wp mixed fun59 (by simp) [] plain_nil ?_
  unfold ac59 ro59
  simp only [zipT]
  repeat (first
    | refine wC_a rfl ?_
    | refine q_s rfl ?_
    | refine q_b rfl ?_
    | refine wG_nil ?_
    | refine wG_g rfl ?_
    | refine wG_pure (o_len_vwm rfl) ?_
    | refine wG_pure (o_not_d rfl) ?_
    | refine wG_p rfl (by first | exact rfl | omega) ?_
    | refine wG_pure (o_str2 rfl rfl rfl) ?_
    | refine wG_pure (e_istr rfl rfl (by omega)) ?_
    | refine wG_pure (e_istr0 rfl rfl (by omega)) ?_
    | refine wG_pure (o_not rfl) ?_
    | refine wG_pure (e_ia_vw0 rfl rfl (by omega) rfl) ?_
    | refine wG_pure (e_ia_vwp rfl rfl (by omega) rfl) ?_
    | refine wG_pure (e_ia_vwm rfl rfl (by omega) (by omega) rfl) ?_
    | refine wG_pure (e_ia_vwi rfl rfl (by omega) rfl) ?_
    | refine wG_pure (e_ia_vwn rfl rfl (by omega) (by omega) rfl) ?_
    | refine wG_n rfl rfl ?_
    | refine wG_u rfl rfl ?_
    | refine wG_new (o_mks rfl rfl (by omega) (by decide)) ?_)
  refine wC_loop Nat (fun i => ⟨[(0, .nilS), (1, .int .i64 k), (5, .int .i64 0)], [], 0⟩) (fun _ => True) (fun i => 0) 0 trivial ?_ (fun _ _ => Nat.le_refl _) ?_
  · simp [LeP, leT, leH, lk, AV.ltr]
  intro i hi
  repeat (first
    | refine wC_a rfl ?_
    | refine q_s rfl ?_
    | refine q_b rfl ?_
    | refine wG_nil ?_
    | refine wG_g rfl ?_
    | refine wG_pure (o_len_vwm rfl) ?_
    | refine wG_pure (o_not_d rfl) ?_
    | refine wG_p rfl (by first | exact rfl | omega) ?_
    | refine wG_pure (o_str2 rfl rfl rfl) ?_
    | refine wG_pure (e_istr rfl rfl (by omega)) ?_
    | refine wG_pure (e_istr0 rfl rfl (by omega)) ?_
    | refine wG_pure (o_not rfl) ?_
    | refine wG_pure (e_ia_vw0 rfl rfl (by omega) rfl) ?_
    | refine wG_pure (e_ia_vwp rfl rfl (by omega) rfl) ?_
    | refine wG_pure (e_ia_vwm rfl rfl (by omega) (by omega) rfl) ?_
    | refine wG_pure (e_ia_vwi rfl rfl (by omega) rfl) ?_
    | refine wG_pure (e_ia_vwn rfl rfl (by omega) (by omega) rfl) ?_
    | refine wG_n rfl rfl ?_
    | refine wG_u rfl rfl ?_
    | refine wG_new (o_mks rfl rfl (by omega) (by decide)) ?_)
  exact ret_intE (.inr rfl) ⟨_, retV_mv rfl, rfl⟩
theorem con58_nil (k : Int) : Con Try.prog 58 true [.agg [.nilS, .nilS], .int .i64 k] (.int .i64 k) [] := by
  refine con_of_wp mixed fun58 (by simp) [] plain_nil ?_
  unfold ac58 ro58
  simp only [zipT]
  have c1 := con102_nil k
  have c2 := con103_nil k
  repeat (first | refine wG_call c1 rfl rfl ?_ | refine wG_call c2 rfl rfl ?_ | (first
    | refine wC_a rfl ?_
    | refine q_s rfl ?_
    | refine q_b rfl ?_
    | refine wG_nil ?_
    | refine wG_g rfl ?_
    | refine wG_pure (o_len_vwm rfl) ?_
    | refine wG_pure (o_not_d rfl) ?_
    | refine wG_p rfl (by first | exact rfl | omega) ?_
    | refine wG_pure (o_str2 rfl rfl rfl) ?_
    | refine wG_pure (e_istr rfl rfl (by omega)) ?_
    | refine wG_pure (e_istr0 rfl rfl (by omega)) ?_
    | refine wG_pure (o_not rfl) ?_
    | refine wG_pure (e_ia_vw0 rfl rfl (by omega) rfl) ?_
    | refine wG_pure (e_ia_vwp rfl rfl (by omega) rfl) ?_
    | refine wG_pure (e_ia_vwm rfl rfl (by omega) (by omega) rfl) ?_
    | refine wG_pure (e_ia_vwi rfl rfl (by omega) rfl) ?_
    | refine wG_pure (e_ia_vwn rfl rfl (by omega) (by omega) rfl) ?_
    | refine wG_n rfl rfl ?_
    | refine wG_u rfl rfl ?_
    | refine wG_new (o_mks rfl rfl (by omega) (by decide)) ?_))
  exact ret_intE (.inr rfl) ⟨_, retV_mv rfl, rfl⟩
theorem markR_no (k : Int) : Con Try.prog 20 true [.agg [.nilS, .nilS, .nilS], .int .i64 k] (.int .i64 k) [] := by
  refine con_of_wp mixed fun20 (by simp) [] plain_nil ?_
  unfold ac20 ro20
  simp only [zipT]
  have c1 := con58_nil k
  have c2 := con59_nil k
  repeat (first | refine wG_call c1 rfl rfl ?_ | refine wG_call c2 rfl rfl ?_ | (first
    | refine wC_a rfl ?_
    | refine q_s rfl ?_
    | refine q_b rfl ?_
    | refine wG_nil ?_
    | refine wG_g rfl ?_
    | refine wG_pure (o_len_vwm rfl) ?_
    | refine wG_pure (o_not_d rfl) ?_
    | refine wG_p rfl (by first | exact rfl | omega) ?_
    | refine wG_pure (o_str2 rfl rfl rfl) ?_
    | refine wG_pure (e_istr rfl rfl (by omega)) ?_
    | refine wG_pure (e_istr0 rfl rfl (by omega)) ?_
    | refine wG_pure (o_not rfl) ?_
    | refine wG_pure (e_ia_vw0 rfl rfl (by omega) rfl) ?_
    | refine wG_pure (e_ia_vwp rfl rfl (by omega) rfl) ?_
    | refine wG_pure (e_ia_vwm rfl rfl (by omega) (by omega) rfl) ?_
    | refine wG_pure (e_ia_vwi rfl rfl (by omega) rfl) ?_
    | refine wG_pure (e_ia_vwn rfl rfl (by omega) (by omega) rfl) ?_
    | refine wG_n rfl rfl ?_
    | refine wG_u rfl rfl ?_
    | refine wG_new (o_mks rfl rfl (by omega) (by decide)) ?_))
  exact ret_intE (.inr rfl) ⟨_, retV_mv rfl, rfl⟩
theorem lawF_no (a b c : Bool) (r : Rc) (xs : List Dn) (x y : Int) (h1' : r.cs.length ≤ 1048576) (h2' : r.xs.length ≤ 1048576) (h3' : xs.length ≤ 1048576) (hL' : LenN xs 1048576) (hS : sL xs xs.length ≤ 1048576)
    (cS : Con Try.prog 37 true [.agg (dtR true true true r (tD xs)), .int .i64 x, .int .i64 y] aNo []) (cI : Con Try.prog 38 true [.agg (dtR true true true r (tD xs)), .int .i64 x, .int .i64 y] aNo [])
    (l1 : Int) (hl1 : 0 ≤ l1) (c1 : Con Try.prog 12 true [.agg (dtR a b c r xs), .int .i64 1048576] (.int .i64 l1) []) : Con Try.prog 9 true [.agg (dtR a b c r xs), .int .i64 x, .int .i64 y] (.bool true) [] := by
  classical
  refine con_of_wp mixed fun9 (by simp) [] plain_nil ?_
  unfold ac9 ro9
  simp only [zipT]
  have h3t : (tD xs).length ≤ 1048576 := by rw [tD_len]; exact h3'
  have hLt := hL'.t
  have cT := con15 a b c r xs h1' h2' h3' hL'
  have cE := con18 true true true true true true r (tD xs) h1' h2' h3t hLt
  have c5 := eqR_no
  have c6 := heldR_no
  have c7 := markR_no 1
  have hlen := dtO_len r xs
  have d1 : decide (l1 < 0) = false := decide_eq_false (by omega)
  repeat (first | refine wG_call c1 rfl rfl ?_ | (first
    | refine wC_a rfl ?_
    | refine q_s rfl ?_
    | refine q_b rfl ?_
    | refine wG_nil ?_
    | refine wG_g rfl ?_
    | refine wG_pure (o_len_vwm rfl) ?_
    | refine wG_pure (o_not_d rfl) ?_
    | refine wG_p rfl (by first | exact rfl | omega) ?_
    | refine wG_pure (o_str2 rfl rfl rfl) ?_
    | refine wG_pure (e_istr rfl rfl (by omega)) ?_
    | refine wG_pure (e_istr0 rfl rfl (by omega)) ?_
    | refine wG_pure (o_not rfl) ?_
    | refine wG_pure (e_ia_vw0 rfl rfl (by omega) rfl) ?_
    | refine wG_pure (e_ia_vwp rfl rfl (by omega) rfl) ?_
    | refine wG_pure (e_ia_vwm rfl rfl (by omega) (by omega) rfl) ?_
    | refine wG_pure (e_ia_vwi rfl rfl (by omega) rfl) ?_
    | refine wG_pure (e_ia_vwn rfl rfl (by omega) (by omega) rfl) ?_
    | refine wG_n rfl rfl ?_
    | refine wG_u rfl rfl ?_
    | refine wG_new (o_mks rfl rfl (by omega) (by decide)) ?_))
  simp only [d1]
  repeat (first
    | refine wC_a rfl ?_
    | refine q_s rfl ?_
    | refine q_b rfl ?_
    | refine wG_nil ?_
    | refine wG_g rfl ?_
    | refine wG_pure (o_len_vwm rfl) ?_
    | refine wG_pure (o_not_d rfl) ?_
    | refine wG_p rfl (by first | exact rfl | omega) ?_
    | refine wG_pure (o_str2 rfl rfl rfl) ?_
    | refine wG_pure (e_istr rfl rfl (by omega)) ?_
    | refine wG_pure (e_istr0 rfl rfl (by omega)) ?_
    | refine wG_pure (o_not rfl) ?_
    | refine wG_pure (e_ia_vw0 rfl rfl (by omega) rfl) ?_
    | refine wG_pure (e_ia_vwp rfl rfl (by omega) rfl) ?_
    | refine wG_pure (e_ia_vwm rfl rfl (by omega) (by omega) rfl) ?_
    | refine wG_pure (e_ia_vwi rfl rfl (by omega) rfl) ?_
    | refine wG_pure (e_ia_vwn rfl rfl (by omega) (by omega) rfl) ?_
    | refine wG_n rfl rfl ?_
    | refine wG_u rfl rfl ?_
    | refine wG_new (o_mks rfl rfl (by omega) (by decide)) ?_)
  refine wG_callG (v' := dtV 1 r xs) cT rfl rfl rfl ?_
  change wpG _ _ _ ⟨_, dtH 1 r xs _, _⟩ _
  obtain ⟨z1, hz1⟩ : ∃ z1, 0 + 1 + (dtO r xs).length = z1 := ⟨_, rfl⟩
  rw [hz1]
  repeat (first | refine wG_call cS (ag_any (dr_dt r xs (fun i rows hi => dtH_in hi)) (ag_int rfl (ag_int rfl ag_nil))) rfl ?_ | refine wG_upd (o_st_agg rfl hg_here rfl rfl rfl rfl rfl) ?_ | (first
    | refine wC_a rfl ?_
    | refine q_s rfl ?_
    | refine q_b rfl ?_
    | refine wG_nil ?_
    | refine wG_g rfl ?_
    | refine wG_pure (o_len_vwm rfl) ?_
    | refine wG_pure (o_not_d rfl) ?_
    | refine wG_p rfl (by first | exact rfl | omega) ?_
    | refine wG_pure (o_str2 rfl rfl rfl) ?_
    | refine wG_pure (e_istr rfl rfl (by omega)) ?_
    | refine wG_pure (e_istr0 rfl rfl (by omega)) ?_
    | refine wG_pure (o_not rfl) ?_
    | refine wG_pure (e_ia_vw0 rfl rfl (by omega) rfl) ?_
    | refine wG_pure (e_ia_vwp rfl rfl (by omega) rfl) ?_
    | refine wG_pure (e_ia_vwm rfl rfl (by omega) (by omega) rfl) ?_
    | refine wG_pure (e_ia_vwi rfl rfl (by omega) rfl) ?_
    | refine wG_pure (e_ia_vwn rfl rfl (by omega) (by omega) rfl) ?_
    | refine wG_n rfl rfl ?_
    | refine wG_u rfl rfl ?_
    | refine wG_new (o_mks rfl rfl (by omega) (by decide)) ?_))
  refine hpG (fun H => hg H 0 = some [dtR a b c r xs] ∧ hg H z1 = some [[.nilS, .nilS, .nilS]] ∧ wfH H (z1 + 1)) ⟨?_, hg_here, ?_⟩ ?_
  · exact hg_skip (by omega) (hg_skip (by omega) (dtH_out (by omega) rfl))
  · exact wfH_cons (by omega) (by simp [put, AV.ltr]) (wfH_cons (by omega) (by simp [AV.ltr]) (dtH_wf (by omega) (wfH_cons (by omega) (by simp [dtR, AV.ltr]) wfH_nil)))
  rintro H1 ⟨f0, fa, fw⟩
  repeat (first | refine wG_pure (o_ldt_pt rfl f0 rfl rfl rfl) ?_ | (first
    | refine wC_a rfl ?_
    | refine q_s rfl ?_
    | refine q_b rfl ?_
    | refine wG_nil ?_
    | refine wG_g rfl ?_
    | refine wG_pure (o_len_vwm rfl) ?_
    | refine wG_pure (o_not_d rfl) ?_
    | refine wG_p rfl (by first | exact rfl | omega) ?_
    | refine wG_pure (o_str2 rfl rfl rfl) ?_
    | refine wG_pure (e_istr rfl rfl (by omega)) ?_
    | refine wG_pure (e_istr0 rfl rfl (by omega)) ?_
    | refine wG_pure (o_not rfl) ?_
    | refine wG_pure (e_ia_vw0 rfl rfl (by omega) rfl) ?_
    | refine wG_pure (e_ia_vwp rfl rfl (by omega) rfl) ?_
    | refine wG_pure (e_ia_vwm rfl rfl (by omega) (by omega) rfl) ?_
    | refine wG_pure (e_ia_vwi rfl rfl (by omega) rfl) ?_
    | refine wG_pure (e_ia_vwn rfl rfl (by omega) (by omega) rfl) ?_
    | refine wG_n rfl rfl ?_
    | refine wG_u rfl rfl ?_
    | refine wG_new (o_mks rfl rfl (by omega) (by decide)) ?_))
  refine wG_callG (v' := dtV (z1 + 1) r xs) cT rfl rfl rfl ?_
  change wpG _ _ _ ⟨_, dtH (z1 + 1) r xs _, _⟩ _
  obtain ⟨p1, hp1⟩ : ∃ p1, z1 + 1 + (dtO r xs).length = p1 := ⟨_, rfl⟩
  rw [hp1]
  repeat (first | refine wG_upd (o_st_agg rfl hg_here rfl rfl rfl rfl rfl) ?_ | (first
    | refine wC_a rfl ?_
    | refine q_s rfl ?_
    | refine q_b rfl ?_
    | refine wG_nil ?_
    | refine wG_g rfl ?_
    | refine wG_pure (o_len_vwm rfl) ?_
    | refine wG_pure (o_not_d rfl) ?_
    | refine wG_p rfl (by first | exact rfl | omega) ?_
    | refine wG_pure (o_str2 rfl rfl rfl) ?_
    | refine wG_pure (e_istr rfl rfl (by omega)) ?_
    | refine wG_pure (e_istr0 rfl rfl (by omega)) ?_
    | refine wG_pure (o_not rfl) ?_
    | refine wG_pure (e_ia_vw0 rfl rfl (by omega) rfl) ?_
    | refine wG_pure (e_ia_vwp rfl rfl (by omega) rfl) ?_
    | refine wG_pure (e_ia_vwm rfl rfl (by omega) (by omega) rfl) ?_
    | refine wG_pure (e_ia_vwi rfl rfl (by omega) rfl) ?_
    | refine wG_pure (e_ia_vwn rfl rfl (by omega) (by omega) rfl) ?_
    | refine wG_n rfl rfl ?_
    | refine wG_u rfl rfl ?_
    | refine wG_new (o_mks rfl rfl (by omega) (by decide)) ?_))
  refine hpG (fun H => hg H 0 = some [dtR a b c r xs] ∧ hg H z1 = some [[.nilS, .nilS, .nilS]] ∧ FM r xs (z1 + 1) p1 H ∧ wfH H (p1 + 1)) ⟨hg_skip (by omega) (hg_skip (by omega) (dtH_out (by omega) f0)), hg_skip (by omega) (hg_skip (by omega) (dtH_out (by omega) fa)), ⟨fun i rows hi => ?_, hg_here⟩, ?_⟩ ?_
  · have := dtO_lt hi
    exact hg_skip (by omega) (hg_skip (by omega) (dtH_in hi))
  · exact wfH_cons (by omega) (by simp [put, AV.ltr]; omega) (wfH_cons (by omega) (by simp [AV.ltr]) (dtH_wf (by omega) (wfH_le fw (by omega))))
  clear f0 fa fw
  rintro H2 ⟨f0, fa, fm, fw⟩
  obtain ⟨g, hg1⟩ : ∃ g, p1 + 1 = g := ⟨_, rfl⟩
  rw [hg1] at fw ⊢
  repeat (first | refine wG_pure (o_ldt_pt rfl fm.fp rfl rfl rfl) ?_ | refine wG_call cI (ag_any (dr_dt r xs fm.fm) (ag_int rfl (ag_int rfl ag_nil))) rfl ?_ | refine wG_upd (o_st_agg rfl hg_here rfl rfl rfl rfl rfl) ?_ | (first
    | refine wC_a rfl ?_
    | refine q_s rfl ?_
    | refine q_b rfl ?_
    | refine wG_nil ?_
    | refine wG_g rfl ?_
    | refine wG_pure (o_len_vwm rfl) ?_
    | refine wG_pure (o_not_d rfl) ?_
    | refine wG_p rfl (by first | exact rfl | omega) ?_
    | refine wG_pure (o_str2 rfl rfl rfl) ?_
    | refine wG_pure (e_istr rfl rfl (by omega)) ?_
    | refine wG_pure (e_istr0 rfl rfl (by omega)) ?_
    | refine wG_pure (o_not rfl) ?_
    | refine wG_pure (e_ia_vw0 rfl rfl (by omega) rfl) ?_
    | refine wG_pure (e_ia_vwp rfl rfl (by omega) rfl) ?_
    | refine wG_pure (e_ia_vwm rfl rfl (by omega) (by omega) rfl) ?_
    | refine wG_pure (e_ia_vwi rfl rfl (by omega) rfl) ?_
    | refine wG_pure (e_ia_vwn rfl rfl (by omega) (by omega) rfl) ?_
    | refine wG_n rfl rfl ?_
    | refine wG_u rfl rfl ?_
    | refine wG_new (o_mks rfl rfl (by omega) (by decide)) ?_))
  refine hpG (fun H => hg H 0 = some [dtR a b c r xs] ∧ hg H z1 = some [[.nilS, .nilS, .nilS]] ∧ FM r xs (z1 + 1) p1 H ∧ hg H g = some [[.nilS, .nilS, .nilS]] ∧ wfH H (g + 1)) ⟨hg_skip (by omega) (hg_skip (by omega) f0), hg_skip (by omega) (hg_skip (by omega) fa), fm.mv (· < g) (fun i o hi ho => hg_skip (by omega) (hg_skip (by omega) ho)) (fun i hi => by omega) (by omega), hg_here, wfH_cons (by omega) (by simp [put, AV.ltr]) (wfH_cons (by omega) (by simp [AV.ltr]) (wfH_le fw (by omega)))⟩ ?_
  clear f0 fa fm fw
  rintro H3 ⟨f0, fa, fm, fg, fw⟩
  repeat (first | refine wC_dregE ?_ | refine wG_pure (o_ldt_pt rfl fg rfl rfl rfl) ?_ | refine wG_pure (o_ldt_pt rfl fa rfl rfl rfl) ?_ | refine wG_call c5 rfl rfl ?_ | (first
    | refine wC_a rfl ?_
    | refine q_s rfl ?_
    | refine q_b rfl ?_
    | refine wG_nil ?_
    | refine wG_g rfl ?_
    | refine wG_pure (o_len_vwm rfl) ?_
    | refine wG_pure (o_not_d rfl) ?_
    | refine wG_p rfl (by first | exact rfl | omega) ?_
    | refine wG_pure (o_str2 rfl rfl rfl) ?_
    | refine wG_pure (e_istr rfl rfl (by omega)) ?_
    | refine wG_pure (e_istr0 rfl rfl (by omega)) ?_
    | refine wG_pure (o_not rfl) ?_
    | refine wG_pure (e_ia_vw0 rfl rfl (by omega) rfl) ?_
    | refine wG_pure (e_ia_vwp rfl rfl (by omega) rfl) ?_
    | refine wG_pure (e_ia_vwm rfl rfl (by omega) (by omega) rfl) ?_
    | refine wG_pure (e_ia_vwi rfl rfl (by omega) rfl) ?_
    | refine wG_pure (e_ia_vwn rfl rfl (by omega) (by omega) rfl) ?_
    | refine wG_n rfl rfl ?_
    | refine wG_u rfl rfl ?_
    | refine wG_new (o_mks rfl rfl (by omega) (by decide)) ?_))
  refine wE_v (o_ldt_pt rfl fm.fp rfl rfl rfl) rfl ?_
  refine wE_v (o_ldt_pt rfl f0 rfl rfl rfl) rfl ?_
  refine wE_callG (v' := dtV (g + 1) r xs) cT rfl rfl rfl rfl ?_
  change wpE _ _ _ ⟨_, dtH (g + 1) r xs _, _⟩ _ _
  obtain ⟨k1, hk1⟩ : ∃ k1, g + 1 + (dtO r xs).length = k1 := ⟨_, rfl⟩
  rw [hk1]
  refine wE_call cE (ag_any (dr_dt r xs (fun i rows hi => dtH_out (by have := dtO_lt hi; omega) (fm.fm i rows hi))) (ag_any (dr_dt r xs (fun i rows hi => dtH_in hi)) ag_nil)) rfl rfl ?_
  repeat (first | refine wE_nilF (fun H => hg H 0 = some [dtR a b c r xs] ∧ hg H z1 = some [[.nilS, .nilS, .nilS]] ∧ FM r xs (z1 + 1) p1 H ∧ hg H g = some [[.nilS, .nilS, .nilS]] ∧ wfH H k1) (hok5 (djB_mkh (by omega))) ⟨dtH_out (by omega) f0, dtH_out (by omega) fa, fm.mv (· < g + 1) (fun i o hi ho => dtH_out (by omega) ho) (fun i hi => by omega) (by omega), dtH_out (by omega) fg, dtH_wf (by omega) (wfH_le fw (by omega))⟩ ?_ | (first
    | refine wE_nil (by kernel_rfl) ?_
    | refine wE_gy rfl ?_
    | refine wE_gn rfl rfl rfl ?_
    | refine wE_gu rfl rfl ?_
    | refine wE_gnn rfl rfl rfl ?_
    | refine wE_v (o_len_vwm rfl) rfl ?_
    | refine wE_v (o_not_d rfl) rfl ?_
    | refine wE_p rfl (by first | exact rfl | omega) rfl ?_
    | refine wE_v (o_str2 rfl rfl rfl) rfl ?_
    | refine wE_v (e_istr rfl rfl (by omega)) rfl ?_
    | refine wE_v (e_istr0 rfl rfl (by omega)) rfl ?_
    | refine wE_v (o_not rfl) rfl ?_
    | refine wE_v (e_ia_vw0 rfl rfl (by omega) rfl) rfl ?_
    | refine wE_v (e_ia_vwp rfl rfl (by omega) rfl) rfl ?_
    | refine wE_v (e_ia_vwm rfl rfl (by omega) (by omega) rfl) rfl ?_
    | refine wE_v (e_ia_vwi rfl rfl (by omega) rfl) rfl ?_
    | refine wE_v (e_ia_vwn rfl rfl (by omega) (by omega) rfl) rfl ?_
    | refine wE_n rfl rfl rfl ?_
    | refine wE_u rfl rfl rfl ?_
    | refine wE_new (o_mks rfl rfl (by omega) (by decide)) rfl ?_))
  clear f0 fa fm fg fw
  rintro H5 ⟨f0, fa, fm, fg, fw⟩
  have sM := @sh_mdr r xs h1' h2' h3' hS H5 (rmv (z1 + 1) (xs.length + 3) H5) k1 (z1 + 1) fm.fm (by omega) (rmv_wf fw) (fun i rows hi => rmv_sub hi)
  obtain ⟨K, hK0, hK⟩ : ∃ K : Int, 0 ≤ K ∧ 1 + 2 * (r.cs.length : Int) + 2 * (r.xs.length : Int) + (xs.length : Int) + (sL xs xs.length : Int) = K := ⟨_, by omega, rfl⟩
  rw [hK] at sM
  repeat (first | refine wG_pure (o_ldt_pt rfl fm.fp rfl rfl rfl) ?_ | refine wG_callS sM rfl ?_ | (first
    | refine wC_a rfl ?_
    | refine q_s rfl ?_
    | refine q_b rfl ?_
    | refine wG_nil ?_
    | refine wG_g rfl ?_
    | refine wG_pure (o_len_vwm rfl) ?_
    | refine wG_pure (o_not_d rfl) ?_
    | refine wG_p rfl (by first | exact rfl | omega) ?_
    | refine wG_pure (o_str2 rfl rfl rfl) ?_
    | refine wG_pure (e_istr rfl rfl (by omega)) ?_
    | refine wG_pure (e_istr0 rfl rfl (by omega)) ?_
    | refine wG_pure (o_not rfl) ?_
    | refine wG_pure (e_ia_vw0 rfl rfl (by omega) rfl) ?_
    | refine wG_pure (e_ia_vwp rfl rfl (by omega) rfl) ?_
    | refine wG_pure (e_ia_vwm rfl rfl (by omega) (by omega) rfl) ?_
    | refine wG_pure (e_ia_vwi rfl rfl (by omega) rfl) ?_
    | refine wG_pure (e_ia_vwn rfl rfl (by omega) (by omega) rfl) ?_
    | refine wG_n rfl rfl ?_
    | refine wG_u rfl rfl ?_
    | refine wG_new (o_mks rfl rfl (by omega) (by decide)) ?_))
  have dK : decide (K < 0) = false := decide_eq_false (by omega)
  simp only [dK]
  refine hpG (fun H => hg H 0 = some [dtR a b c r xs] ∧ hg H z1 = some [[.nilS, .nilS, .nilS]] ∧ hg H g = some [[.nilS, .nilS, .nilS]] ∧ wfH H (k1 + 2)) ⟨rmv_out (.inl (by omega)) f0, rmv_out (.inl (by omega)) fa, rmv_out (.inr (by omega)) fg, wfH_le (rmv_wf fw) (by omega)⟩ ?_
  clear f0 fa fm fg fw sM
  rintro H6 ⟨f0, fa, fg, fw⟩
  obtain ⟨n2, hn2⟩ : ∃ n2, k1 + 2 = n2 := ⟨_, rfl⟩
  rw [hn2] at fw ⊢
  repeat (first | refine wG_pure (o_ldt_pt rfl fg rfl rfl rfl) ?_ | refine wG_pure (o_ldt_pt rfl fa rfl rfl rfl) ?_ | refine wG_pure (o_ldt_pt rfl f0 rfl rfl rfl) ?_ | refine wG_call c5 rfl rfl ?_ | refine wG_call c7 rfl rfl ?_ | refine wG_call c6 rfl rfl ?_ | (first
    | refine wC_a rfl ?_
    | refine q_s rfl ?_
    | refine q_b rfl ?_
    | refine wG_nil ?_
    | refine wG_g rfl ?_
    | refine wG_pure (o_len_vwm rfl) ?_
    | refine wG_pure (o_not_d rfl) ?_
    | refine wG_p rfl (by first | exact rfl | omega) ?_
    | refine wG_pure (o_str2 rfl rfl rfl) ?_
    | refine wG_pure (e_istr rfl rfl (by omega)) ?_
    | refine wG_pure (e_istr0 rfl rfl (by omega)) ?_
    | refine wG_pure (o_not rfl) ?_
    | refine wG_pure (e_ia_vw0 rfl rfl (by omega) rfl) ?_
    | refine wG_pure (e_ia_vwp rfl rfl (by omega) rfl) ?_
    | refine wG_pure (e_ia_vwm rfl rfl (by omega) (by omega) rfl) ?_
    | refine wG_pure (e_ia_vwi rfl rfl (by omega) rfl) ?_
    | refine wG_pure (e_ia_vwn rfl rfl (by omega) (by omega) rfl) ?_
    | refine wG_n rfl rfl ?_
    | refine wG_u rfl rfl ?_
    | refine wG_new (o_mks rfl rfl (by omega) (by decide)) ?_))
  refine wG_callG (v' := dtV n2 r xs) cT rfl rfl rfl ?_
  change wpG _ _ _ ⟨_, dtH n2 r xs _, _⟩ _
  obtain ⟨z2, hz2⟩ : ∃ z2, n2 + (dtO r xs).length = z2 := ⟨_, rfl⟩
  rw [hz2]
  repeat (first | refine wG_call cI (ag_any (dr_dt r xs (fun i rows hi => dtH_in hi)) (ag_int rfl (ag_int rfl ag_nil))) rfl ?_ | refine wG_upd (o_st_agg rfl hg_here rfl rfl rfl rfl rfl) ?_ | (first
    | refine wC_a rfl ?_
    | refine q_s rfl ?_
    | refine q_b rfl ?_
    | refine wG_nil ?_
    | refine wG_g rfl ?_
    | refine wG_pure (o_len_vwm rfl) ?_
    | refine wG_pure (o_not_d rfl) ?_
    | refine wG_p rfl (by first | exact rfl | omega) ?_
    | refine wG_pure (o_str2 rfl rfl rfl) ?_
    | refine wG_pure (e_istr rfl rfl (by omega)) ?_
    | refine wG_pure (e_istr0 rfl rfl (by omega)) ?_
    | refine wG_pure (o_not rfl) ?_
    | refine wG_pure (e_ia_vw0 rfl rfl (by omega) rfl) ?_
    | refine wG_pure (e_ia_vwp rfl rfl (by omega) rfl) ?_
    | refine wG_pure (e_ia_vwm rfl rfl (by omega) (by omega) rfl) ?_
    | refine wG_pure (e_ia_vwi rfl rfl (by omega) rfl) ?_
    | refine wG_pure (e_ia_vwn rfl rfl (by omega) (by omega) rfl) ?_
    | refine wG_n rfl rfl ?_
    | refine wG_u rfl rfl ?_
    | refine wG_new (o_mks rfl rfl (by omega) (by decide)) ?_))
  refine hpG (fun H => hg H z1 = some [[.nilS, .nilS, .nilS]] ∧ hg H g = some [[.nilS, .nilS, .nilS]] ∧ hg H z2 = some [[.nilS, .nilS, .nilS]]) ⟨hg_skip (by omega) (hg_skip (by omega) (dtH_out (by omega) fa)), hg_skip (by omega) (hg_skip (by omega) (dtH_out (by omega) fg)), hg_here⟩ ?_
  clear f0 fa fg fw
  rintro H8 ⟨fa, fg, fz⟩
  repeat (first | refine wG_pure (o_ldt_pt rfl fz rfl rfl rfl) ?_ | refine wG_pure (o_ldt_pt rfl fa rfl rfl rfl) ?_ | refine wG_call c5 rfl rfl ?_ | refine wG_pure (o_ldt_pt rfl fg rfl rfl rfl) ?_ | refine wG_call c6 rfl rfl ?_ | (first
    | refine wC_a rfl ?_
    | refine q_s rfl ?_
    | refine q_b rfl ?_
    | refine wG_nil ?_
    | refine wG_g rfl ?_
    | refine wG_pure (o_len_vwm rfl) ?_
    | refine wG_pure (o_not_d rfl) ?_
    | refine wG_p rfl (by first | exact rfl | omega) ?_
    | refine wG_pure (o_str2 rfl rfl rfl) ?_
    | refine wG_pure (e_istr rfl rfl (by omega)) ?_
    | refine wG_pure (e_istr0 rfl rfl (by omega)) ?_
    | refine wG_pure (o_not rfl) ?_
    | refine wG_pure (e_ia_vw0 rfl rfl (by omega) rfl) ?_
    | refine wG_pure (e_ia_vwp rfl rfl (by omega) rfl) ?_
    | refine wG_pure (e_ia_vwm rfl rfl (by omega) (by omega) rfl) ?_
    | refine wG_pure (e_ia_vwi rfl rfl (by omega) rfl) ?_
    | refine wG_pure (e_ia_vwn rfl rfl (by omega) (by omega) rfl) ?_
    | refine wG_n rfl rfl ?_
    | refine wG_u rfl rfl ?_
    | refine wG_new (o_mks rfl rfl (by omega) (by decide)) ?_))
  exact ret_boolE (.inr rfl) ⟨_, retV_mv rfl, rfl⟩
theorem con9 (a b c : Bool) (r : Rc) (xs : List Dn) (x y : Int) (h1 : r.cs.length ≤ 9223372036854775807) (h2 : r.xs.length ≤ 9223372036854775807) (h3 : xs.length ≤ 9223372036854775807) (hL : LenN xs 9223372036854775807) : Con Try.prog 9 true [.agg (dtR a b c r xs), .int .i64 x, .int .i64 y] (.bool true) [] := by
  classical
  have c1 := con12 a b c r xs h1 h2 h3 hL 1048576 (by decide) (by decide)
  have small : ∀ l : Int, l < 0 → Con Try.prog 12 true [.agg (dtR a b c r xs), .int .i64 1048576] (.int .i64 l) [] → Con Try.prog 9 true [.agg (dtR a b c r xs), .int .i64 x, .int .i64 y] (.bool true) [] := by
    intro l hl c1
    refine con_of_wp mixed fun9 (by simp) [] plain_nil ?_
    unfold ac9 ro9
    simp only [zipT]
    have d1 : decide (l < 0) = true := decide_eq_true hl
    repeat (first | refine wG_call c1 rfl rfl ?_ | (first
    | refine wC_a rfl ?_
    | refine q_s rfl ?_
    | refine q_b rfl ?_
    | refine wG_nil ?_
    | refine wG_g rfl ?_
    | refine wG_pure (o_len_vwm rfl) ?_
    | refine wG_pure (o_not_d rfl) ?_
    | refine wG_p rfl (by first | exact rfl | omega) ?_
    | refine wG_pure (o_str2 rfl rfl rfl) ?_
    | refine wG_pure (e_istr rfl rfl (by omega)) ?_
    | refine wG_pure (e_istr0 rfl rfl (by omega)) ?_
    | refine wG_pure (o_not rfl) ?_
    | refine wG_pure (e_ia_vw0 rfl rfl (by omega) rfl) ?_
    | refine wG_pure (e_ia_vwp rfl rfl (by omega) rfl) ?_
    | refine wG_pure (e_ia_vwm rfl rfl (by omega) (by omega) rfl) ?_
    | refine wG_pure (e_ia_vwi rfl rfl (by omega) rfl) ?_
    | refine wG_pure (e_ia_vwn rfl rfl (by omega) (by omega) rfl) ?_
    | refine wG_n rfl rfl ?_
    | refine wG_u rfl rfl ?_
    | refine wG_new (o_mks rfl rfl (by omega) (by decide)) ?_))
    simp only [d1]
    repeat (first
    | refine wC_a rfl ?_
    | refine q_s rfl ?_
    | refine q_b rfl ?_
    | refine wG_nil ?_
    | refine wG_g rfl ?_
    | refine wG_pure (o_len_vwm rfl) ?_
    | refine wG_pure (o_not_d rfl) ?_
    | refine wG_p rfl (by first | exact rfl | omega) ?_
    | refine wG_pure (o_str2 rfl rfl rfl) ?_
    | refine wG_pure (e_istr rfl rfl (by omega)) ?_
    | refine wG_pure (e_istr0 rfl rfl (by omega)) ?_
    | refine wG_pure (o_not rfl) ?_
    | refine wG_pure (e_ia_vw0 rfl rfl (by omega) rfl) ?_
    | refine wG_pure (e_ia_vwp rfl rfl (by omega) rfl) ?_
    | refine wG_pure (e_ia_vwm rfl rfl (by omega) (by omega) rfl) ?_
    | refine wG_pure (e_ia_vwi rfl rfl (by omega) rfl) ?_
    | refine wG_pure (e_ia_vwn rfl rfl (by omega) (by omega) rfl) ?_
    | refine wG_n rfl rfl ?_
    | refine wG_u rfl rfl ?_
    | refine wG_new (o_mks rfl rfl (by omega) (by decide)) ?_)
    exact ret_boolE (.inr rfl) ⟨_, retV_mv rfl, rfl⟩
  by_cases hR : szR 1048576 r < 0
  · rw [if_pos hR] at c1
    exact small _ (by decide) c1
  rw [if_neg hR] at c1
  obtain ⟨s1, s2, s3⟩ := szR_ok (Int.not_lt.1 hR)
  by_cases hD2 : szD (szR 1048576 r) xs < 0
  · rw [if_pos hD2] at c1
    exact small _ (by decide) c1
  rw [if_neg hD2] at c1
  obtain ⟨s4, s5, s6⟩ := szD_ok (Int.not_lt.1 hD2)
  have hss := szD_sum (Int.not_lt.1 hD2)
  have hL' : LenN xs 1048576 := fun i hi => by have := s5 i hi; omega
  rcases diF r (tD xs) x y (by omega) (by omega) (by rw [tD_len]; omega) hL'.t (fun i hi => by
    rw [tD_len] at hi
    simp [tD, List.getD_eq_getElem?_getD, List.getElem?_map, List.getElem?_eq_getElem hi]) with ⟨Y, y1, y4, cS, cI⟩ | ⟨cS, cI⟩
  · exact lawF_yes a b c r xs x y Y (by omega) (by omega) (by omega) hL' y1 y4 (by omega) cS cI _ (Int.not_lt.1 hD2) c1
  · exact lawF_no a b c r xs x y (by omega) (by omega) (by omega) hL' (by omega) cS cI _ (Int.not_lt.1 hD2) c1
end Go.Proofs.Ytkeobnaehgcloaa.Dst
