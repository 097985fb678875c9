/- The order of a record: the implementation's walk. -/
import Derived.Test.YteoonedddgiacaaRecE
namespace Go.Proofs.Yteoonedddgiacaa.Rec
open Go Go.Proofs.Yteoonedddgiacaa.Ab Go.Proofs.Yteoonedddgiacaa.Il
attribute [local irreducible] wpO wpC wpDr wpQ wpG wpE stepA seqQ blkQ Ret RetG ev hO
set_option maxRecDepth 10000
set_option maxHeartbeats 8000000
set_option linter.unusedSimpArgs false
set_option linter.unusedVariables false

theorem con62 (a b : Bool) (r : Rc) (hG : GoodR r) : ConG Try.prog 62 true [.agg (rRow a b r)] (.pt 0 0 0) (ordO ((nums r r.cs.length).map iRow) (later r) (lk0 r r.xs.length) r.cs.length) := by
  have h10 := hG.1
  have h24 := hG.2.1
  refine con_of_wpG mixed fun62 (by simp) ((List.range (ordO ((nums r r.cs.length).map iRow) (later r) (lk0 r r.xs.length) r.cs.length).length).map (· + 1)) (ordO_nest (rowsP _) _ _ _) ?_
  unfold ac62 ro62
  simp only [zipT]
  have e0 : ∀ n : Nat, 0 + ((n : Int)).toNat = n := fun n => by simp
  obtain ⟨n, hn⟩ : ∃ n, r.cs.length = n := ⟨_, rfl⟩
  have cS := con73 n (by omega)
  repeat (first
    | refine wC_a rfl ?_
    | refine q_s rfl ?_
    | refine q_b rfl ?_
    | refine wG_nil ?_
    | refine wG_g rfl ?_
    | refine wG_pure (o_len_vwm rfl) ?_
    | refine wG_pure (o_not_d rfl) ?_
    | refine wG_p rfl (by first | exact rfl | omega) ?_
    | refine wG_pure (o_str2 rfl rfl rfl) ?_
    | refine wG_pure (e_istr rfl rfl (by omega)) ?_
    | refine wG_pure (e_istr0 rfl rfl (by omega)) ?_
    | refine wG_pure (o_not rfl) ?_
    | refine wG_pure (e_ia_vw0 rfl rfl (by omega) rfl) ?_
    | refine wG_pure (e_ia_vwp rfl rfl (by omega) rfl) ?_
    | refine wG_pure (e_ia_vwm rfl rfl (by omega) (by omega) rfl) ?_
    | refine wG_pure (e_ia_vwi rfl rfl (by omega) rfl) ?_
    | refine wG_pure (e_ia_vwn rfl rfl (by omega) (by omega) rfl) ?_
    | refine wG_n rfl rfl ?_
    | refine wG_u rfl rfl ?_
    | refine wG_new (o_mks rfl rfl (by omega) (by decide)) ?_)
  rw [hn]
  repeat (first
    | refine wC_a rfl ?_
    | refine q_s rfl ?_
    | refine q_b rfl ?_
    | refine wG_nil ?_
    | refine wG_g rfl ?_
    | refine wG_pure (o_len_vwm rfl) ?_
    | refine wG_pure (o_not_d rfl) ?_
    | refine wG_p rfl (by first | exact rfl | omega) ?_
    | refine wG_pure (o_str2 rfl rfl rfl) ?_
    | refine wG_pure (e_istr rfl rfl (by omega)) ?_
    | refine wG_pure (e_istr0 rfl rfl (by omega)) ?_
    | refine wG_pure (o_not rfl) ?_
    | refine wG_pure (e_ia_vw0 rfl rfl (by omega) rfl) ?_
    | refine wG_pure (e_ia_vwp rfl rfl (by omega) rfl) ?_
    | refine wG_pure (e_ia_vwm rfl rfl (by omega) (by omega) rfl) ?_
    | refine wG_pure (e_ia_vwi rfl rfl (by omega) rfl) ?_
    | refine wG_pure (e_ia_vwn rfl rfl (by omega) (by omega) rfl) ?_
    | refine wG_n rfl rfl ?_
    | refine wG_u rfl rfl ?_
    | refine wG_new (o_mks rfl rfl (by omega) (by decide)) ?_)
  refine wG_callG (v' := .sl 1 1 0 n) cS rfl rfl (sqO_sh n 1) ?_
  rw [show 0 + 1 + (sqO n).length = n + 2 by rw [sqO_len]; omega]
  repeat (first
    | refine wC_a rfl ?_
    | refine q_s rfl ?_
    | refine q_b rfl ?_
    | refine wG_nil ?_
    | refine wG_g rfl ?_
    | refine wG_pure (o_len_vwm rfl) ?_
    | refine wG_pure (o_not_d rfl) ?_
    | refine wG_p rfl (by first | exact rfl | omega) ?_
    | refine wG_pure (o_str2 rfl rfl rfl) ?_
    | refine wG_pure (e_istr rfl rfl (by omega)) ?_
    | refine wG_pure (e_istr0 rfl rfl (by omega)) ?_
    | refine wG_pure (o_not rfl) ?_
    | refine wG_pure (e_ia_vw0 rfl rfl (by omega) rfl) ?_
    | refine wG_pure (e_ia_vwp rfl rfl (by omega) rfl) ?_
    | refine wG_pure (e_ia_vwm rfl rfl (by omega) (by omega) rfl) ?_
    | refine wG_pure (e_ia_vwi rfl rfl (by omega) rfl) ?_
    | refine wG_pure (e_ia_vwn rfl rfl (by omega) (by omega) rfl) ?_
    | refine wG_n rfl rfl ?_
    | refine wG_u rfl rfl ?_
    | refine wG_new (o_mks rfl rfl (by omega) (by decide)) ?_)
  refine wG_callG (v' := .sl (n + 2) 1 0 n) cS rfl rfl (sqO_sh n (n + 2)) ?_
  rw [show n + 2 + (sqO n).length = 2 * n + 3 by rw [sqO_len]; omega]
  repeat (first | refine wG_pure (o_ldf_pt rfl (hg_skip (by omega) (hg_out (fun h => by have := h.1; omega) (hg_out (fun h => by have := h.1; omega) rfl))) rfl rfl) ?_ | (first
    | refine wC_a rfl ?_
    | refine q_s rfl ?_
    | refine q_b rfl ?_
    | refine wG_nil ?_
    | refine wG_g rfl ?_
    | refine wG_pure (o_len_vwm rfl) ?_
    | refine wG_pure (o_not_d rfl) ?_
    | refine wG_p rfl (by first | exact rfl | omega) ?_
    | refine wG_pure (o_str2 rfl rfl rfl) ?_
    | refine wG_pure (e_istr rfl rfl (by omega)) ?_
    | refine wG_pure (e_istr0 rfl rfl (by omega)) ?_
    | refine wG_pure (o_not rfl) ?_
    | refine wG_pure (e_ia_vw0 rfl rfl (by omega) rfl) ?_
    | refine wG_pure (e_ia_vwp rfl rfl (by omega) rfl) ?_
    | refine wG_pure (e_ia_vwm rfl rfl (by omega) (by omega) rfl) ?_
    | refine wG_pure (e_ia_vwi rfl rfl (by omega) rfl) ?_
    | refine wG_pure (e_ia_vwn rfl rfl (by omega) (by omega) rfl) ?_
    | refine wG_n rfl rfl ?_
    | refine wG_u rfl rfl ?_
    | refine wG_new (o_mks rfl rfl (by omega) (by decide)) ?_))
  rw [hn]
  repeat (first
    | refine wC_a rfl ?_
    | refine q_s rfl ?_
    | refine q_b rfl ?_
    | refine wG_nil ?_
    | refine wG_g rfl ?_
    | refine wG_pure (o_len_vwm rfl) ?_
    | refine wG_pure (o_not_d rfl) ?_
    | refine wG_p rfl (by first | exact rfl | omega) ?_
    | refine wG_pure (o_str2 rfl rfl rfl) ?_
    | refine wG_pure (e_istr rfl rfl (by omega)) ?_
    | refine wG_pure (e_istr0 rfl rfl (by omega)) ?_
    | refine wG_pure (o_not rfl) ?_
    | refine wG_pure (e_ia_vw0 rfl rfl (by omega) rfl) ?_
    | refine wG_pure (e_ia_vwp rfl rfl (by omega) rfl) ?_
    | refine wG_pure (e_ia_vwm rfl rfl (by omega) (by omega) rfl) ?_
    | refine wG_pure (e_ia_vwi rfl rfl (by omega) rfl) ?_
    | refine wG_pure (e_ia_vwn rfl rfl (by omega) (by omega) rfl) ?_
    | refine wG_n rfl rfl ?_
    | refine wG_u rfl rfl ?_
    | refine wG_new (o_mks rfl rfl (by omega) (by decide)) ?_)
  refine wC_loopX Nat (fun c => ⟨[(1, .pt 0 0 0), (3, .int .i64 (n : Int)), (4, .pt 1 0 0), (24, .vw a (r.cs.map cRow)), (25, .int .i64 (n : Int)), (26, .int .i64 (c : Int))], hO (rRow a b r) (numV c) (numO r c) (fun _ _ => false) (fun _ _ => false) n, 2 * n + 5⟩) (fun c => c ≤ n) (fun c => n - c) 0 (Nat.zero_le _) ?_ ?_
  · refine .inr ⟨πO n, LeR_of ?_ (fun q rows hq => ?_) (hO_wf (Nat.le_refl _) (by simp [rRow, AV.ltr]) (by simp [numV, AV.ltr]) (fun rows h => by simp [numO] at h)) (fun q q' h1 h2 h3 => πO_inj h1 h2 h3)⟩
    · exact ⟨⟨rfl, by simp [AV.ltr]⟩, ⟨rfl, rfl⟩, ⟨rfl, by simp [AV.ltr]⟩, ⟨rfl, rfl⟩, ⟨rfl, rfl⟩, ⟨rfl, rfl⟩, trivial⟩
    · rcases hO_cases hq with ⟨rfl, rfl⟩ | ⟨rfl, rfl⟩ | ⟨rfl, rfl⟩ | ⟨rfl, rfl⟩ | ⟨rfl, e⟩ | ⟨q1, q2, rfl⟩ | ⟨q1, q2, rfl⟩
      · exact Eq.trans (hg_here (r := 2 * n + 3)) rfl
      · rw [rn_outB (b' := n + 2 + 1) (fun q hq => by unfold πO; (repeat' split) <;> omega)]
        exact hg_skip (r := n + 2) (by omega) (hg_in (Nat.le_refl _) (by rw [Nat.sub_self]; rfl))
      · rw [rn_outB (b' := 1 + 1) (fun q hq => by unfold πO; (repeat' split) <;> omega)]
        exact hg_skip (r := 1) (by omega) (hg_out (fun h => by have := h.1; omega) (hg_in (by omega) rfl))
      · exact hg_skip (r := 0) (by omega) (hg_out (fun h => by have := h.1; omega) (hg_out (fun h => by have := h.1; omega) rfl))
      · simp [numO] at e
      · rw [show πO n q = q - 5 + (n + 3) by unfold πO; (repeat' split) <;> omega, ← rn_rows (boolR_plain _ _), ← fR_eq]
        refine hg_skip (by omega) (hg_in (by omega) ?_)
        rw [show q - 5 + (n + 3) - (n + 2) = q - 5 + 1 by omega, List.getElem?_cons_succ, List.getElem?_replicate, if_pos (by omega)]
      · rw [show πO n q = q - (n + 5) + 2 by unfold πO; (repeat' split) <;> omega, ← rn_rows (boolR_plain _ _), ← fR_eq]
        refine hg_skip (by omega) (hg_out (fun h => by have := h.1; omega) (hg_in (by omega) ?_))
        rw [show q - (n + 5) + 2 - (0 + 1) = q - (n + 5) + 1 by omega, List.getElem?_cons_succ, List.getElem?_replicate, if_pos (by omega)]
  intro c hc
  repeat (first
    | refine wC_a rfl ?_
    | refine q_s rfl ?_
    | refine q_b rfl ?_
    | refine wG_nil ?_
    | refine wG_g rfl ?_
    | refine wG_pure (o_len_vwm rfl) ?_
    | refine wG_pure (o_not_d rfl) ?_
    | refine wG_p rfl (by first | exact rfl | omega) ?_
    | refine wG_pure (o_str2 rfl rfl rfl) ?_
    | refine wG_pure (e_istr rfl rfl (by omega)) ?_
    | refine wG_pure (e_istr0 rfl rfl (by omega)) ?_
    | refine wG_pure (o_not rfl) ?_
    | refine wG_pure (e_ia_vw0 rfl rfl (by omega) rfl) ?_
    | refine wG_pure (e_ia_vwp rfl rfl (by omega) rfl) ?_
    | refine wG_pure (e_ia_vwm rfl rfl (by omega) (by omega) rfl) ?_
    | refine wG_pure (e_ia_vwi rfl rfl (by omega) rfl) ?_
    | refine wG_pure (e_ia_vwn rfl rfl (by omega) (by omega) rfl) ?_
    | refine wG_n rfl rfl ?_
    | refine wG_u rfl rfl ?_
    | refine wG_new (o_mks rfl rfl (by omega) (by decide)) ?_)
  refine wC_cond_d rfl (fun h2 => ?_) (fun h2 => ?_)
  · have hc2 : c < r.cs.length := by omega
    have hw1 : (1 : Nat) ≠ 2 * n + 5 := by omega
    have hw2 : (4 : Nat) ≠ 2 * n + 5 := by omega
    cases c with
    | zero =>
      repeat (first | refine wG_upd (o_st_agg rfl hg_here rfl rfl rfl rfl rfl) ?_ | refine wE_v (o_ldf_pt rfl (hg_skip hw1 (hg_skip hw1 hO_1)) rfl rfl) rfl ?_ | refine wE_v (o_ldf_pt rfl hg_here rfl rfl) rfl ?_ | refine wE_appn rfl (rows_sl rfl hg_here rfl) (by simp) (by simp) (by decide) rfl ?_ | refine wE_upd (o_st1 rfl (hg_skip (by omega) (hg_skip (by omega) (hg_skip hw1 (hg_skip hw1 hO_1)))) rfl rfl rfl rfl) rfl ?_ | (first
    | refine wC_a rfl ?_
    | refine q_s rfl ?_
    | refine q_b rfl ?_
    | refine wG_nil ?_
    | refine wG_g rfl ?_
    | refine wG_pure (o_len_vwm rfl) ?_
    | refine wG_pure (o_not_d rfl) ?_
    | refine wG_p rfl (by first | exact rfl | omega) ?_
    | refine wG_pure (o_str2 rfl rfl rfl) ?_
    | refine wG_pure (e_istr rfl rfl (by omega)) ?_
    | refine wG_pure (e_istr0 rfl rfl (by omega)) ?_
    | refine wG_pure (o_not rfl) ?_
    | refine wG_pure (e_ia_vw0 rfl rfl (by omega) rfl) ?_
    | refine wG_pure (e_ia_vwp rfl rfl (by omega) rfl) ?_
    | refine wG_pure (e_ia_vwm rfl rfl (by omega) (by omega) rfl) ?_
    | refine wG_pure (e_ia_vwi rfl rfl (by omega) rfl) ?_
    | refine wG_pure (e_ia_vwn rfl rfl (by omega) (by omega) rfl) ?_
    | refine wG_n rfl rfl ?_
    | refine wG_u rfl rfl ?_
    | refine wG_new (o_mks rfl rfl (by omega) (by decide)) ?_) | (first
    | refine wE_nil (by kernel_rfl) ?_
    | refine wE_gy rfl ?_
    | refine wE_gn rfl rfl rfl ?_
    | refine wE_gu rfl rfl ?_
    | refine wE_gnn rfl rfl rfl ?_
    | refine wE_v (o_len_vwm rfl) rfl ?_
    | refine wE_v (o_not_d rfl) rfl ?_
    | refine wE_p rfl (by first | exact rfl | omega) rfl ?_
    | refine wE_v (o_str2 rfl rfl rfl) rfl ?_
    | refine wE_v (e_istr rfl rfl (by omega)) rfl ?_
    | refine wE_v (e_istr0 rfl rfl (by omega)) rfl ?_
    | refine wE_v (o_not rfl) rfl ?_
    | refine wE_v (e_ia_vw0 rfl rfl (by omega) rfl) rfl ?_
    | refine wE_v (e_ia_vwp rfl rfl (by omega) rfl) rfl ?_
    | refine wE_v (e_ia_vwm rfl rfl (by omega) (by omega) rfl) rfl ?_
    | refine wE_v (e_ia_vwi rfl rfl (by omega) rfl) rfl ?_
    | refine wE_v (e_ia_vwn rfl rfl (by omega) (by omega) rfl) rfl ?_
    | refine wE_n rfl rfl rfl ?_
    | refine wE_u rfl rfl rfl ?_
    | refine wE_new (o_mks rfl rfl (by omega) (by decide)) rfl ?_))
      refine ⟨1, by omega, by omega, .inr ⟨π4 (2 * n + 7), LeR_of ?_ (fun q rows hq => ?_) (hO_wf (Nat.le_refl _) (by simp [rRow, AV.ltr]) (by simp [numV, AV.ltr]) (fun rows h => by cases h; exact ltrI _ _)) (fun q q' h1 h2 h3 => π4_inj (by simp only; omega) h1 h2 h3)⟩⟩
      · exact ⟨⟨rfl, by simp [AV.ltr]⟩, ⟨rfl, rfl⟩, ⟨rfl, by simp [AV.ltr]⟩, ⟨rfl, rfl⟩, ⟨rfl, rfl⟩, ⟨rfl, rfl⟩, trivial⟩
      · refine hO_ren (nv := numV 0) (no := numO r 0) (fun w => rfl) (rowsP _) rfl ?_ (fun q rows h1 h4 h5 => ?_) hq
        · refine hg_skip (by omega) (Eq.trans hg_here ?_)
          rw [nums_succ hc2]; rfl
        · rcases hO_wf (nr := 2 * n + 5) (Nat.le_refl _) (by simp [rRow, AV.ltr]) (by simp [numV, AV.ltr]) (fun rows h => by simp [numO] at h) q rows h5 with ⟨hlt, _⟩
          exact hg_skip h1 (hg_skip (by omega) (hg_skip (by omega) (hg_skip (by omega) (hg_skip (by omega) h5))))
    | succ c =>
      have hnl := nums_len (r := r) (c := c + 1) (by omega)
      have hl4 : hg (hO (rRow a b r) (numV (c + 1)) (numO r (c + 1)) (fun _ _ => false) (fun _ _ => false) n) 4 = some ((nums r (c + 1)).map iRow) := hO_4
      repeat (first | refine wG_upd (o_st_agg rfl hg_here rfl rfl rfl rfl rfl) ?_ | refine wE_v (o_ldf_pt rfl (hg_skip hw1 (hg_skip hw1 hO_1)) rfl rfl) rfl ?_ | refine wE_v (o_ldf_pt rfl hg_here rfl rfl) rfl ?_ | refine wE_app (n := c + 1) rfl (hg_skip (by omega) (hg_skip hw2 (hg_skip hw2 hl4))) (by simp [hnl]) (rows_sl rfl hg_here rfl) (by simp) (by simp; omega) (by decide) rfl ?_ | refine wE_upd (o_st1 rfl (hg_skip (by omega) (hg_skip (by omega) (hg_skip (by omega) (hg_skip hw1 (hg_skip hw1 hO_1))))) rfl rfl rfl rfl) rfl ?_ | (first
    | refine wC_a rfl ?_
    | refine q_s rfl ?_
    | refine q_b rfl ?_
    | refine wG_nil ?_
    | refine wG_g rfl ?_
    | refine wG_pure (o_len_vwm rfl) ?_
    | refine wG_pure (o_not_d rfl) ?_
    | refine wG_p rfl (by first | exact rfl | omega) ?_
    | refine wG_pure (o_str2 rfl rfl rfl) ?_
    | refine wG_pure (e_istr rfl rfl (by omega)) ?_
    | refine wG_pure (e_istr0 rfl rfl (by omega)) ?_
    | refine wG_pure (o_not rfl) ?_
    | refine wG_pure (e_ia_vw0 rfl rfl (by omega) rfl) ?_
    | refine wG_pure (e_ia_vwp rfl rfl (by omega) rfl) ?_
    | refine wG_pure (e_ia_vwm rfl rfl (by omega) (by omega) rfl) ?_
    | refine wG_pure (e_ia_vwi rfl rfl (by omega) rfl) ?_
    | refine wG_pure (e_ia_vwn rfl rfl (by omega) (by omega) rfl) ?_
    | refine wG_n rfl rfl ?_
    | refine wG_u rfl rfl ?_
    | refine wG_new (o_mks rfl rfl (by omega) (by decide)) ?_) | (first
    | refine wE_nil (by kernel_rfl) ?_
    | refine wE_gy rfl ?_
    | refine wE_gn rfl rfl rfl ?_
    | refine wE_gu rfl rfl ?_
    | refine wE_gnn rfl rfl rfl ?_
    | refine wE_v (o_len_vwm rfl) rfl ?_
    | refine wE_v (o_not_d rfl) rfl ?_
    | refine wE_p rfl (by first | exact rfl | omega) rfl ?_
    | refine wE_v (o_str2 rfl rfl rfl) rfl ?_
    | refine wE_v (e_istr rfl rfl (by omega)) rfl ?_
    | refine wE_v (e_istr0 rfl rfl (by omega)) rfl ?_
    | refine wE_v (o_not rfl) rfl ?_
    | refine wE_v (e_ia_vw0 rfl rfl (by omega) rfl) rfl ?_
    | refine wE_v (e_ia_vwp rfl rfl (by omega) rfl) rfl ?_
    | refine wE_v (e_ia_vwm rfl rfl (by omega) (by omega) rfl) rfl ?_
    | refine wE_v (e_ia_vwi rfl rfl (by omega) rfl) rfl ?_
    | refine wE_v (e_ia_vwn rfl rfl (by omega) (by omega) rfl) rfl ?_
    | refine wE_n rfl rfl rfl ?_
    | refine wE_u rfl rfl rfl ?_
    | refine wE_new (o_mks rfl rfl (by omega) (by decide)) rfl ?_))
      refine ⟨c + 1 + 1, by omega, by omega, .inr ⟨π4 (2 * n + 7), LeR_of ?_ (fun q rows hq => ?_) (hO_wf (Nat.le_refl _) (by simp [rRow, AV.ltr]) (by simp [numV, AV.ltr]) (fun rows h => by cases h; exact ltrI _ _)) (fun q q' h1 h2 h3 => π4_inj (by simp only; omega) h1 h2 h3)⟩⟩
      · exact ⟨⟨rfl, by simp [AV.ltr]⟩, ⟨rfl, rfl⟩, ⟨rfl, by simp [AV.ltr]⟩, ⟨rfl, rfl⟩, ⟨rfl, rfl⟩, ⟨rfl, rfl⟩, trivial⟩
      · refine hO_ren (nv := numV (c + 1)) (no := numO r (c + 1)) (fun w => rfl) (rowsP _) rfl ?_ (fun q rows h1 h4 h5 => ?_) hq
        · refine hg_skip (by omega) (hg_skip (by omega) (Eq.trans hg_here ?_))
          rw [nums_succ hc2, List.map_append]; rfl
        · rcases hO_wf (nr := 2 * n + 5) (Nat.le_refl _) (by simp [rRow, AV.ltr]) (by simp [numV, AV.ltr]) (fun rows h => by cases h; exact ltrI _ _) q rows h5 with ⟨hlt, _⟩
          exact hg_skip h1 (hg_skip h4 (hg_skip (by omega) (hg_skip (by omega) (hg_skip (by omega) (hg_skip (by omega) h5)))))
  have hc3 : c = n := by omega
  subst hc3
  have cf := fun m => con27 a b r m (by omega)
  have hno : ∀ rows, numO r c = some rows → ∀ row ∈ rows, ∀ x ∈ row, AV.ltr (2 * c + 5) x = true := by
    intro rows h
    cases c with
    | zero => simp [numO] at h
    | succ c => cases h; exact ltrI _ _
  have hnv : AV.ltr (2 * c + 5) (numV c) = true := by cases c <;> simp [numV, AV.ltr]
  have hwf : ∀ W A, wfH (hO (rRow a b r) (numV c) (numO r c) W A c) (2 * c + 5) := fun W A => hO_wf (Nat.le_refl _) (by simp [rRow, AV.ltr]) hnv hno
  repeat (first | refine wG_pure (o_ldf_pt rfl hO_0 rfl rfl) ?_ | (first
    | refine wC_a rfl ?_
    | refine q_s rfl ?_
    | refine q_b rfl ?_
    | refine wG_nil ?_
    | refine wG_g rfl ?_
    | refine wG_pure (o_len_vwm rfl) ?_
    | refine wG_pure (o_not_d rfl) ?_
    | refine wG_p rfl (by first | exact rfl | omega) ?_
    | refine wG_pure (o_str2 rfl rfl rfl) ?_
    | refine wG_pure (e_istr rfl rfl (by omega)) ?_
    | refine wG_pure (e_istr0 rfl rfl (by omega)) ?_
    | refine wG_pure (o_not rfl) ?_
    | refine wG_pure (e_ia_vw0 rfl rfl (by omega) rfl) ?_
    | refine wG_pure (e_ia_vwp rfl rfl (by omega) rfl) ?_
    | refine wG_pure (e_ia_vwm rfl rfl (by omega) (by omega) rfl) ?_
    | refine wG_pure (e_ia_vwi rfl rfl (by omega) rfl) ?_
    | refine wG_pure (e_ia_vwn rfl rfl (by omega) (by omega) rfl) ?_
    | refine wG_n rfl rfl ?_
    | refine wG_u rfl rfl ?_
    | refine wG_new (o_mks rfl rfl (by omega) (by decide)) ?_))
  refine wC_loopX Nat (fun q => ⟨[(1, .pt 0 0 0), (3, .int .i64 (c : Int)), (4, .pt 1 0 0), (43, .vw b (r.xs.map xRow)), (44, .int .i64 (r.xs.length : Int)), (45, .int .i64 (q : Int))], hO (rRow a b r) (numV c) (numO r c) (lk0 r q) (lk0 r q) c, 2 * c + 5⟩) (fun q => q ≤ r.xs.length) (fun q => r.xs.length - q) 0 (Nat.zero_le _) ?_ ?_
  · exact .inl (Le_of ⟨⟨rfl, by simp [AV.ltr]⟩, ⟨rfl, rfl⟩, ⟨rfl, by simp [AV.ltr]⟩, ⟨rfl, rfl⟩, ⟨rfl, rfl⟩, ⟨rfl, rfl⟩, trivial⟩ (fun q rows hq => hq) (hwf _ _))
  intro q hq
  repeat (first
    | refine wC_a rfl ?_
    | refine q_s rfl ?_
    | refine q_b rfl ?_
    | refine wG_nil ?_
    | refine wG_g rfl ?_
    | refine wG_pure (o_len_vwm rfl) ?_
    | refine wG_pure (o_not_d rfl) ?_
    | refine wG_p rfl (by first | exact rfl | omega) ?_
    | refine wG_pure (o_str2 rfl rfl rfl) ?_
    | refine wG_pure (e_istr rfl rfl (by omega)) ?_
    | refine wG_pure (e_istr0 rfl rfl (by omega)) ?_
    | refine wG_pure (o_not rfl) ?_
    | refine wG_pure (e_ia_vw0 rfl rfl (by omega) rfl) ?_
    | refine wG_pure (e_ia_vwp rfl rfl (by omega) rfl) ?_
    | refine wG_pure (e_ia_vwm rfl rfl (by omega) (by omega) rfl) ?_
    | refine wG_pure (e_ia_vwi rfl rfl (by omega) rfl) ?_
    | refine wG_pure (e_ia_vwn rfl rfl (by omega) (by omega) rfl) ?_
    | refine wG_n rfl rfl ?_
    | refine wG_u rfl rfl ?_
    | refine wG_new (o_mks rfl rfl (by omega) (by decide)) ?_)
  refine wC_cond_d rfl (fun h3 => ?_) (fun h3 => ?_)
  · have hq2 : q < r.xs.length := by omega
    obtain ⟨g1, g2, g3, g4⟩ := hG.2.2.2 q hq2
    have b1 := idx_b r (r.xs.getD q default).u
    have b2 := idx_b r (r.xs.getD q default).l
    have c1 := cf (r.xs.getD q default).u
    have c2 := cf (r.xs.getD q default).l
    obtain ⟨A, hA⟩ : ∃ A : Nat, idx r (r.xs.getD q default).u = A := ⟨_, (Int.toNat_of_nonneg g2).symm⟩
    obtain ⟨B, hB⟩ : ∃ B : Nat, idx r (r.xs.getD q default).l = B := ⟨_, (Int.toNat_of_nonneg g3).symm⟩
    rw [hA] at c1 b1
    rw [hB] at c2 b2
    have hAn : A < c := by omega
    have hBn : B < c := by omega
    have hw0 : (0 : Nat) ≠ 2 * c + 5 := by omega
    have hw1 : (1 : Nat) ≠ 2 * c + 5 := by omega
    have hw2 : (2 : Nat) ≠ 2 * c + 5 := by omega
    have hw3 : (3 : Nat) ≠ 2 * c + 5 := by omega
    have hwA : A + (c + 5) ≠ 2 * c + 5 := by omega
    have hwB : A + 5 ≠ 2 * c + 5 := by omega
    have hv1 : (1 : Nat) ≠ A + (c + 5) := by omega
    have hv2 : (2 : Nat) ≠ A + (c + 5) := by omega
    have hvB : A + 5 ≠ A + (c + 5) := by omega
    repeat (first | refine wG_upd (o_st_agg rfl hg_here rfl rfl rfl rfl rfl) ?_ | refine wG_pure (o_ldt_pt rfl (hg_skip hw0 (hg_skip hw0 hO_0)) rfl rfl rfl) ?_ | refine wG_pure (o_ldf_pt rfl hg_here rfl rfl) ?_ | refine wG_call c1 rfl rfl ?_ | refine wG_call c2 rfl rfl ?_ | refine wG_pure (o_ldf_pt rfl (hg_skip hw1 (hg_skip hw1 hO_1)) rfl rfl) ?_ | refine wG_pure (o_ldf_pt rfl (hg_skip hw3 (hg_skip hw3 hO_3)) (outB_get hAn) rfl) ?_ | refine wG_upd (o_st1 rfl (hg_skip hwA (hg_skip hwA (hO_A hAn))) (boolR_get hBn) rfl rfl rfl) ?_ | refine wG_pure (o_ldf_pt rfl (hg_skip hv1 (hg_skip hw1 (hg_skip hw1 hO_1))) rfl rfl) ?_ | refine wG_pure (o_ldf_pt rfl (hg_skip hv2 (hg_skip hw2 (hg_skip hw2 hO_2))) (outB_get hAn) rfl) ?_ | refine wG_upd (o_st1 rfl (hg_skip hvB (hg_skip hwB (hg_skip hwB (hO_W hAn)))) (boolR_get hBn) rfl rfl rfl) ?_ | (refine wG_pure (e_ia_sl rfl rfl (by omega) (by omega)) ?_; simp only [e0]) | (first
    | refine wC_a rfl ?_
    | refine q_s rfl ?_
    | refine q_b rfl ?_
    | refine wG_nil ?_
    | refine wG_g rfl ?_
    | refine wG_pure (o_len_vwm rfl) ?_
    | refine wG_pure (o_not_d rfl) ?_
    | refine wG_p rfl (by first | exact rfl | omega) ?_
    | refine wG_pure (o_str2 rfl rfl rfl) ?_
    | refine wG_pure (e_istr rfl rfl (by omega)) ?_
    | refine wG_pure (e_istr0 rfl rfl (by omega)) ?_
    | refine wG_pure (o_not rfl) ?_
    | refine wG_pure (e_ia_vw0 rfl rfl (by omega) rfl) ?_
    | refine wG_pure (e_ia_vwp rfl rfl (by omega) rfl) ?_
    | refine wG_pure (e_ia_vwm rfl rfl (by omega) (by omega) rfl) ?_
    | refine wG_pure (e_ia_vwi rfl rfl (by omega) rfl) ?_
    | refine wG_pure (e_ia_vwn rfl rfl (by omega) (by omega) rfl) ?_
    | refine wG_n rfl rfl ?_
    | refine wG_u rfl rfl ?_
    | refine wG_new (o_mks rfl rfl (by omega) (by decide)) ?_))
    have k1 : lk0 r (q + 1) A B = true := by simp [lk0, hA, hB, -List.getD_eq_getElem?_getD]
    have k2 : ∀ x, x ≠ B → lk0 r (q + 1) A x = lk0 r q A x := fun x hx => by simp [lk0, hB, hx, -List.getD_eq_getElem?_getD]
    have k3 : ∀ x, x ≠ A → lk0 r (q + 1) x = lk0 r q x := fun x hx => by funext y; simp [lk0, hA, hx, -List.getD_eq_getElem?_getD]
    refine ⟨q + 1, by omega, by omega, .inl (Le_of ⟨⟨rfl, by simp [AV.ltr]⟩, ⟨rfl, rfl⟩, ⟨rfl, by simp [AV.ltr]⟩, ⟨rfl, rfl⟩, ⟨rfl, rfl⟩, ⟨rfl, rfl⟩, trivial⟩ (fun p rows hp => ?_) (hwf _ _))⟩
    refine hO_setW hAn k1 k2 k3 (fun p rows hp hne => ?_) hp
    refine hO_setA hAn k1 k2 k3 (fun p rows hp hne => ?_) hp
    have hlt := (hwf _ _ p rows hp).1
    exact hg_skip (by omega) (hg_skip (by omega) hp)
  have hq3 : q = r.xs.length := by omega
  subst hq3
  repeat (first
    | refine wC_a rfl ?_
    | refine q_s rfl ?_
    | refine q_b rfl ?_
    | refine wG_nil ?_
    | refine wG_g rfl ?_
    | refine wG_pure (o_len_vwm rfl) ?_
    | refine wG_pure (o_not_d rfl) ?_
    | refine wG_p rfl (by first | exact rfl | omega) ?_
    | refine wG_pure (o_str2 rfl rfl rfl) ?_
    | refine wG_pure (e_istr rfl rfl (by omega)) ?_
    | refine wG_pure (e_istr0 rfl rfl (by omega)) ?_
    | refine wG_pure (o_not rfl) ?_
    | refine wG_pure (e_ia_vw0 rfl rfl (by omega) rfl) ?_
    | refine wG_pure (e_ia_vwp rfl rfl (by omega) rfl) ?_
    | refine wG_pure (e_ia_vwm rfl rfl (by omega) (by omega) rfl) ?_
    | refine wG_pure (e_ia_vwi rfl rfl (by omega) rfl) ?_
    | refine wG_pure (e_ia_vwn rfl rfl (by omega) (by omega) rfl) ?_
    | refine wG_n rfl rfl ?_
    | refine wG_u rfl rfl ?_
    | refine wG_new (o_mks rfl rfl (by omega) (by decide)) ?_)
  obtain ⟨L0, hL0⟩ : ∃ L0, L0 = lk0 r r.xs.length := ⟨_, rfl⟩
  rw [← hL0]
  refine wC_loopX Nat (fun j => ⟨[(3, .int .i64 (c : Int)), (4, .pt 1 0 0), (76, .int .i64 (c : Int)), (77, .int .i64 (j : Int))], hO (rRow a b r) (numV c) (numO r c) (wsA L0 c j) L0 c, 2 * c + 5⟩) (fun j => j ≤ c) (fun j => c - j) 0 (Nat.zero_le _) ?_ ?_
  · exact .inl (Le_of ⟨⟨rfl, rfl⟩, ⟨rfl, by simp [AV.ltr]⟩, ⟨rfl, rfl⟩, ⟨rfl, rfl⟩, trivial⟩ (fun q rows hq => hq) (hwf _ _))
  intro j hj
  repeat (first
    | refine wC_a rfl ?_
    | refine q_s rfl ?_
    | refine q_b rfl ?_
    | refine wG_nil ?_
    | refine wG_g rfl ?_
    | refine wG_pure (o_len_vwm rfl) ?_
    | refine wG_pure (o_not_d rfl) ?_
    | refine wG_p rfl (by first | exact rfl | omega) ?_
    | refine wG_pure (o_str2 rfl rfl rfl) ?_
    | refine wG_pure (e_istr rfl rfl (by omega)) ?_
    | refine wG_pure (e_istr0 rfl rfl (by omega)) ?_
    | refine wG_pure (o_not rfl) ?_
    | refine wG_pure (e_ia_vw0 rfl rfl (by omega) rfl) ?_
    | refine wG_pure (e_ia_vwp rfl rfl (by omega) rfl) ?_
    | refine wG_pure (e_ia_vwm rfl rfl (by omega) (by omega) rfl) ?_
    | refine wG_pure (e_ia_vwi rfl rfl (by omega) rfl) ?_
    | refine wG_pure (e_ia_vwn rfl rfl (by omega) (by omega) rfl) ?_
    | refine wG_n rfl rfl ?_
    | refine wG_u rfl rfl ?_
    | refine wG_new (o_mks rfl rfl (by omega) (by decide)) ?_)
  refine wC_cond_d rfl (fun h4 => ?_) (fun h4 => ?_)
  · have hj2 : j < c := by omega
    repeat (first
    | refine wC_a rfl ?_
    | refine q_s rfl ?_
    | refine q_b rfl ?_
    | refine wG_nil ?_
    | refine wG_g rfl ?_
    | refine wG_pure (o_len_vwm rfl) ?_
    | refine wG_pure (o_not_d rfl) ?_
    | refine wG_p rfl (by first | exact rfl | omega) ?_
    | refine wG_pure (o_str2 rfl rfl rfl) ?_
    | refine wG_pure (e_istr rfl rfl (by omega)) ?_
    | refine wG_pure (e_istr0 rfl rfl (by omega)) ?_
    | refine wG_pure (o_not rfl) ?_
    | refine wG_pure (e_ia_vw0 rfl rfl (by omega) rfl) ?_
    | refine wG_pure (e_ia_vwp rfl rfl (by omega) rfl) ?_
    | refine wG_pure (e_ia_vwm rfl rfl (by omega) (by omega) rfl) ?_
    | refine wG_pure (e_ia_vwi rfl rfl (by omega) rfl) ?_
    | refine wG_pure (e_ia_vwn rfl rfl (by omega) (by omega) rfl) ?_
    | refine wG_n rfl rfl ?_
    | refine wG_u rfl rfl ?_
    | refine wG_new (o_mks rfl rfl (by omega) (by decide)) ?_)
    refine wC_loopX Nat (fun i => ⟨[(3, .int .i64 (c : Int)), (4, .pt 1 0 0), (76, .int .i64 (c : Int)), (77, .int .i64 (j : Int)), (11, .int .i64 (j : Int)), (80, .int .i64 (c : Int)), (81, .int .i64 (i : Int))], hO (rRow a b r) (numV c) (numO r c) (wsR (wsA L0 c j) j i) L0 c, 2 * c + 5⟩) (fun i => i ≤ c) (fun i => c - i) 0 (Nat.zero_le _) ?_ ?_
    · exact .inl (Le_of ⟨⟨rfl, rfl⟩, ⟨rfl, by simp [AV.ltr]⟩, ⟨rfl, rfl⟩, ⟨rfl, rfl⟩, ⟨rfl, rfl⟩, ⟨rfl, rfl⟩, ⟨rfl, rfl⟩, trivial⟩ (fun q rows hq => hq) (hwf _ _))
    intro i hi
    repeat (first
    | refine wC_a rfl ?_
    | refine q_s rfl ?_
    | refine q_b rfl ?_
    | refine wG_nil ?_
    | refine wG_g rfl ?_
    | refine wG_pure (o_len_vwm rfl) ?_
    | refine wG_pure (o_not_d rfl) ?_
    | refine wG_p rfl (by first | exact rfl | omega) ?_
    | refine wG_pure (o_str2 rfl rfl rfl) ?_
    | refine wG_pure (e_istr rfl rfl (by omega)) ?_
    | refine wG_pure (e_istr0 rfl rfl (by omega)) ?_
    | refine wG_pure (o_not rfl) ?_
    | refine wG_pure (e_ia_vw0 rfl rfl (by omega) rfl) ?_
    | refine wG_pure (e_ia_vwp rfl rfl (by omega) rfl) ?_
    | refine wG_pure (e_ia_vwm rfl rfl (by omega) (by omega) rfl) ?_
    | refine wG_pure (e_ia_vwi rfl rfl (by omega) rfl) ?_
    | refine wG_pure (e_ia_vwn rfl rfl (by omega) (by omega) rfl) ?_
    | refine wG_n rfl rfl ?_
    | refine wG_u rfl rfl ?_
    | refine wG_new (o_mks rfl rfl (by omega) (by decide)) ?_)
    refine wC_cond_d rfl (fun h5 => ?_) (fun h5 => ?_)
    · have hi2 : i < c := by omega
      obtain ⟨V, hV⟩ : ∃ V, V = wsR (wsA L0 c j) j i := ⟨_, rfl⟩
      rw [← hV]
      repeat (first
    | refine wC_a rfl ?_
    | refine q_s rfl ?_
    | refine q_b rfl ?_
    | refine wG_nil ?_
    | refine wG_g rfl ?_
    | refine wG_pure (o_len_vwm rfl) ?_
    | refine wG_pure (o_not_d rfl) ?_
    | refine wG_p rfl (by first | exact rfl | omega) ?_
    | refine wG_pure (o_str2 rfl rfl rfl) ?_
    | refine wG_pure (e_istr rfl rfl (by omega)) ?_
    | refine wG_pure (e_istr0 rfl rfl (by omega)) ?_
    | refine wG_pure (o_not rfl) ?_
    | refine wG_pure (e_ia_vw0 rfl rfl (by omega) rfl) ?_
    | refine wG_pure (e_ia_vwp rfl rfl (by omega) rfl) ?_
    | refine wG_pure (e_ia_vwm rfl rfl (by omega) (by omega) rfl) ?_
    | refine wG_pure (e_ia_vwi rfl rfl (by omega) rfl) ?_
    | refine wG_pure (e_ia_vwn rfl rfl (by omega) (by omega) rfl) ?_
    | refine wG_n rfl rfl ?_
    | refine wG_u rfl rfl ?_
    | refine wG_new (o_mks rfl rfl (by omega) (by decide)) ?_)
      refine wC_loopX Nat (fun k => ⟨[(3, .int .i64 (c : Int)), (4, .pt 1 0 0), (76, .int .i64 (c : Int)), (77, .int .i64 (j : Int)), (11, .int .i64 (j : Int)), (80, .int .i64 (c : Int)), (81, .int .i64 (i : Int)), (12, .int .i64 (i : Int)), (84, .int .i64 (c : Int)), (85, .int .i64 (k : Int))], hO (rRow a b r) (numV c) (numO r c) (wsK V j i k) L0 c, 2 * c + 5⟩) (fun k => k ≤ c) (fun k => c - k) 0 (Nat.zero_le _) ?_ ?_
      · refine .inl (Le_of ⟨⟨rfl, rfl⟩, ⟨rfl, by simp [AV.ltr]⟩, ⟨rfl, rfl⟩, ⟨rfl, rfl⟩, ⟨rfl, rfl⟩, ⟨rfl, rfl⟩, ⟨rfl, rfl⟩, ⟨rfl, rfl⟩, ⟨rfl, rfl⟩, ⟨rfl, rfl⟩, trivial⟩ (fun q rows hq => ?_) (hwf _ _))
        simp only at hq
        rw [wsK_0] at hq
        exact hq
      intro k hk
      repeat (first
    | refine wC_a rfl ?_
    | refine q_s rfl ?_
    | refine q_b rfl ?_
    | refine wG_nil ?_
    | refine wG_g rfl ?_
    | refine wG_pure (o_len_vwm rfl) ?_
    | refine wG_pure (o_not_d rfl) ?_
    | refine wG_p rfl (by first | exact rfl | omega) ?_
    | refine wG_pure (o_str2 rfl rfl rfl) ?_
    | refine wG_pure (e_istr rfl rfl (by omega)) ?_
    | refine wG_pure (e_istr0 rfl rfl (by omega)) ?_
    | refine wG_pure (o_not rfl) ?_
    | refine wG_pure (e_ia_vw0 rfl rfl (by omega) rfl) ?_
    | refine wG_pure (e_ia_vwp rfl rfl (by omega) rfl) ?_
    | refine wG_pure (e_ia_vwm rfl rfl (by omega) (by omega) rfl) ?_
    | refine wG_pure (e_ia_vwi rfl rfl (by omega) rfl) ?_
    | refine wG_pure (e_ia_vwn rfl rfl (by omega) (by omega) rfl) ?_
    | refine wG_n rfl rfl ?_
    | refine wG_u rfl rfl ?_
    | refine wG_new (o_mks rfl rfl (by omega) (by decide)) ?_)
      refine wC_cond_d rfl (fun h6 => ?_) (fun h6 => ?_)
      · have hk2 : k < c := by omega
        have u1 := wsK_ik V j i k
        have u2 := wsK_ij V j i k
        have u3 := wsK_jk V j i k
        have hr1 := boolR_get (f := wsK V j i k i) hk2
        have hr2 := boolR_get (f := wsK V j i k i) hj2
        have hr3 := boolR_get (f := wsK V j i k j) hk2
        rw [u1] at hr1
        rw [u2] at hr2
        rw [u3] at hr3
        have up := wsK_up V j i k
        have fin : ∀ (v : Bool) (t : List (Nat × AV)) , wsK V j i (k + 1) i k = v → leT t (2 * c + 5) [(3, .int .i64 (c : Int)), (4, .pt 1 0 0), (76, .int .i64 (c : Int)), (77, .int .i64 (j : Int)), (11, .int .i64 (j : Int)), (80, .int .i64 (c : Int)), (81, .int .i64 (i : Int)), (12, .int .i64 (i : Int)), (84, .int .i64 (c : Int)), (85, .int .i64 ((k + 1 : Nat) : Int))] →
            LeX 0 ⟨t, (i + 5, some ((boolR (wsK V j i k i) c).set k [.bool v])) :: hO (rRow a b r) (numV c) (numO r c) (wsK V j i k) L0 c, 2 * c + 5⟩ ⟨[(3, .int .i64 (c : Int)), (4, .pt 1 0 0), (76, .int .i64 (c : Int)), (77, .int .i64 (j : Int)), (11, .int .i64 (j : Int)), (80, .int .i64 (c : Int)), (81, .int .i64 (i : Int)), (12, .int .i64 (i : Int)), (84, .int .i64 (c : Int)), (85, .int .i64 ((k + 1 : Nat) : Int))], hO (rRow a b r) (numV c) (numO r c) (wsK V j i (k + 1)) L0 c, 2 * c + 5⟩ :=
          fun v t hv ht => .inl (Le_of ht (fun p rows hp => hO_setW hi2 hv (fun x hx => wsK_x hx) (fun x hx => wsK_a hx) (fun p rows hp hne => hp) hp) (hwf _ _))
        cases hb1 : V i k with
        | true =>
          rw [hb1] at hr1 up
          repeat (first | refine wE_v (o_ldf_pt rfl hO_1 rfl rfl) rfl ?_ | refine wE_v (o_ldf_pt rfl hO_2 (outB_get hi2) rfl) rfl ?_ | refine wE_v (o_ldf_pt rfl (hO_W hi2) hr1 rfl) rfl ?_ | refine wE_upd (o_st1 rfl (hO_W hi2) hr1 rfl rfl rfl) rfl ?_ | (refine wE_v (e_ia_sl rfl rfl (by omega) (by omega)) rfl ?_; simp only [e0]) | (first
    | refine wC_a rfl ?_
    | refine q_s rfl ?_
    | refine q_b rfl ?_
    | refine wG_nil ?_
    | refine wG_g rfl ?_
    | refine wG_pure (o_len_vwm rfl) ?_
    | refine wG_pure (o_not_d rfl) ?_
    | refine wG_p rfl (by first | exact rfl | omega) ?_
    | refine wG_pure (o_str2 rfl rfl rfl) ?_
    | refine wG_pure (e_istr rfl rfl (by omega)) ?_
    | refine wG_pure (e_istr0 rfl rfl (by omega)) ?_
    | refine wG_pure (o_not rfl) ?_
    | refine wG_pure (e_ia_vw0 rfl rfl (by omega) rfl) ?_
    | refine wG_pure (e_ia_vwp rfl rfl (by omega) rfl) ?_
    | refine wG_pure (e_ia_vwm rfl rfl (by omega) (by omega) rfl) ?_
    | refine wG_pure (e_ia_vwi rfl rfl (by omega) rfl) ?_
    | refine wG_pure (e_ia_vwn rfl rfl (by omega) (by omega) rfl) ?_
    | refine wG_n rfl rfl ?_
    | refine wG_u rfl rfl ?_
    | refine wG_new (o_mks rfl rfl (by omega) (by decide)) ?_) | (first
    | refine wE_nil (by kernel_rfl) ?_
    | refine wE_gy rfl ?_
    | refine wE_gn rfl rfl rfl ?_
    | refine wE_gu rfl rfl ?_
    | refine wE_gnn rfl rfl rfl ?_
    | refine wE_v (o_len_vwm rfl) rfl ?_
    | refine wE_v (o_not_d rfl) rfl ?_
    | refine wE_p rfl (by first | exact rfl | omega) rfl ?_
    | refine wE_v (o_str2 rfl rfl rfl) rfl ?_
    | refine wE_v (e_istr rfl rfl (by omega)) rfl ?_
    | refine wE_v (e_istr0 rfl rfl (by omega)) rfl ?_
    | refine wE_v (o_not rfl) rfl ?_
    | refine wE_v (e_ia_vw0 rfl rfl (by omega) rfl) rfl ?_
    | refine wE_v (e_ia_vwp rfl rfl (by omega) rfl) rfl ?_
    | refine wE_v (e_ia_vwm rfl rfl (by omega) (by omega) rfl) rfl ?_
    | refine wE_v (e_ia_vwi rfl rfl (by omega) rfl) rfl ?_
    | refine wE_v (e_ia_vwn rfl rfl (by omega) (by omega) rfl) rfl ?_
    | refine wE_n rfl rfl rfl ?_
    | refine wE_u rfl rfl rfl ?_
    | refine wE_new (o_mks rfl rfl (by omega) (by decide)) rfl ?_))
          exact ⟨k + 1, by omega, by omega, fin true _ (by rw [up]; rfl) ⟨⟨rfl, rfl⟩, ⟨rfl, by simp [AV.ltr]⟩, ⟨rfl, rfl⟩, ⟨rfl, rfl⟩, ⟨rfl, rfl⟩, ⟨rfl, rfl⟩, ⟨rfl, rfl⟩, ⟨rfl, rfl⟩, ⟨rfl, rfl⟩, ⟨rfl, rfl⟩, trivial⟩⟩
        | false =>
          rw [hb1] at hr1 up
          cases hb2 : V i j with
          | true =>
            rw [hb2] at hr2 up
            cases hb3 : V j k with
            | true =>
              rw [hb3] at hr3 up
              repeat (first | refine wE_v (o_ldf_pt rfl hO_1 rfl rfl) rfl ?_ | refine wE_v (o_ldf_pt rfl hO_2 (outB_get hi2) rfl) rfl ?_ | refine wE_v (o_ldf_pt rfl hO_2 (outB_get hj2) rfl) rfl ?_ | refine wE_v (o_ldf_pt rfl (hO_W hi2) hr1 rfl) rfl ?_ | refine wE_v (o_ldf_pt rfl (hO_W hi2) hr2 rfl) rfl ?_ | refine wE_v (o_ldf_pt rfl (hO_W hj2) hr3 rfl) rfl ?_ | refine wE_upd (o_st1 rfl (hO_W hi2) hr1 rfl rfl rfl) rfl ?_ | (refine wE_v (e_ia_sl rfl rfl (by omega) (by omega)) rfl ?_; simp only [e0]) | (first
    | refine wC_a rfl ?_
    | refine q_s rfl ?_
    | refine q_b rfl ?_
    | refine wG_nil ?_
    | refine wG_g rfl ?_
    | refine wG_pure (o_len_vwm rfl) ?_
    | refine wG_pure (o_not_d rfl) ?_
    | refine wG_p rfl (by first | exact rfl | omega) ?_
    | refine wG_pure (o_str2 rfl rfl rfl) ?_
    | refine wG_pure (e_istr rfl rfl (by omega)) ?_
    | refine wG_pure (e_istr0 rfl rfl (by omega)) ?_
    | refine wG_pure (o_not rfl) ?_
    | refine wG_pure (e_ia_vw0 rfl rfl (by omega) rfl) ?_
    | refine wG_pure (e_ia_vwp rfl rfl (by omega) rfl) ?_
    | refine wG_pure (e_ia_vwm rfl rfl (by omega) (by omega) rfl) ?_
    | refine wG_pure (e_ia_vwi rfl rfl (by omega) rfl) ?_
    | refine wG_pure (e_ia_vwn rfl rfl (by omega) (by omega) rfl) ?_
    | refine wG_n rfl rfl ?_
    | refine wG_u rfl rfl ?_
    | refine wG_new (o_mks rfl rfl (by omega) (by decide)) ?_) | (first
    | refine wE_nil (by kernel_rfl) ?_
    | refine wE_gy rfl ?_
    | refine wE_gn rfl rfl rfl ?_
    | refine wE_gu rfl rfl ?_
    | refine wE_gnn rfl rfl rfl ?_
    | refine wE_v (o_len_vwm rfl) rfl ?_
    | refine wE_v (o_not_d rfl) rfl ?_
    | refine wE_p rfl (by first | exact rfl | omega) rfl ?_
    | refine wE_v (o_str2 rfl rfl rfl) rfl ?_
    | refine wE_v (e_istr rfl rfl (by omega)) rfl ?_
    | refine wE_v (e_istr0 rfl rfl (by omega)) rfl ?_
    | refine wE_v (o_not rfl) rfl ?_
    | refine wE_v (e_ia_vw0 rfl rfl (by omega) rfl) rfl ?_
    | refine wE_v (e_ia_vwp rfl rfl (by omega) rfl) rfl ?_
    | refine wE_v (e_ia_vwm rfl rfl (by omega) (by omega) rfl) rfl ?_
    | refine wE_v (e_ia_vwi rfl rfl (by omega) rfl) rfl ?_
    | refine wE_v (e_ia_vwn rfl rfl (by omega) (by omega) rfl) rfl ?_
    | refine wE_n rfl rfl rfl ?_
    | refine wE_u rfl rfl rfl ?_
    | refine wE_new (o_mks rfl rfl (by omega) (by decide)) rfl ?_))
              exact ⟨k + 1, by omega, by omega, fin true _ (by rw [up]; rfl) ⟨⟨rfl, rfl⟩, ⟨rfl, by simp [AV.ltr]⟩, ⟨rfl, rfl⟩, ⟨rfl, rfl⟩, ⟨rfl, rfl⟩, ⟨rfl, rfl⟩, ⟨rfl, rfl⟩, ⟨rfl, rfl⟩, ⟨rfl, rfl⟩, ⟨rfl, rfl⟩, trivial⟩⟩
            | false =>
              rw [hb3] at hr3 up
              repeat (first | refine wE_v (o_ldf_pt rfl hO_1 rfl rfl) rfl ?_ | refine wE_v (o_ldf_pt rfl hO_2 (outB_get hi2) rfl) rfl ?_ | refine wE_v (o_ldf_pt rfl hO_2 (outB_get hj2) rfl) rfl ?_ | refine wE_v (o_ldf_pt rfl (hO_W hi2) hr1 rfl) rfl ?_ | refine wE_v (o_ldf_pt rfl (hO_W hi2) hr2 rfl) rfl ?_ | refine wE_v (o_ldf_pt rfl (hO_W hj2) hr3 rfl) rfl ?_ | refine wE_upd (o_st1 rfl (hO_W hi2) hr1 rfl rfl rfl) rfl ?_ | (refine wE_v (e_ia_sl rfl rfl (by omega) (by omega)) rfl ?_; simp only [e0]) | (first
    | refine wC_a rfl ?_
    | refine q_s rfl ?_
    | refine q_b rfl ?_
    | refine wG_nil ?_
    | refine wG_g rfl ?_
    | refine wG_pure (o_len_vwm rfl) ?_
    | refine wG_pure (o_not_d rfl) ?_
    | refine wG_p rfl (by first | exact rfl | omega) ?_
    | refine wG_pure (o_str2 rfl rfl rfl) ?_
    | refine wG_pure (e_istr rfl rfl (by omega)) ?_
    | refine wG_pure (e_istr0 rfl rfl (by omega)) ?_
    | refine wG_pure (o_not rfl) ?_
    | refine wG_pure (e_ia_vw0 rfl rfl (by omega) rfl) ?_
    | refine wG_pure (e_ia_vwp rfl rfl (by omega) rfl) ?_
    | refine wG_pure (e_ia_vwm rfl rfl (by omega) (by omega) rfl) ?_
    | refine wG_pure (e_ia_vwi rfl rfl (by omega) rfl) ?_
    | refine wG_pure (e_ia_vwn rfl rfl (by omega) (by omega) rfl) ?_
    | refine wG_n rfl rfl ?_
    | refine wG_u rfl rfl ?_
    | refine wG_new (o_mks rfl rfl (by omega) (by decide)) ?_) | (first
    | refine wE_nil (by kernel_rfl) ?_
    | refine wE_gy rfl ?_
    | refine wE_gn rfl rfl rfl ?_
    | refine wE_gu rfl rfl ?_
    | refine wE_gnn rfl rfl rfl ?_
    | refine wE_v (o_len_vwm rfl) rfl ?_
    | refine wE_v (o_not_d rfl) rfl ?_
    | refine wE_p rfl (by first | exact rfl | omega) rfl ?_
    | refine wE_v (o_str2 rfl rfl rfl) rfl ?_
    | refine wE_v (e_istr rfl rfl (by omega)) rfl ?_
    | refine wE_v (e_istr0 rfl rfl (by omega)) rfl ?_
    | refine wE_v (o_not rfl) rfl ?_
    | refine wE_v (e_ia_vw0 rfl rfl (by omega) rfl) rfl ?_
    | refine wE_v (e_ia_vwp rfl rfl (by omega) rfl) rfl ?_
    | refine wE_v (e_ia_vwm rfl rfl (by omega) (by omega) rfl) rfl ?_
    | refine wE_v (e_ia_vwi rfl rfl (by omega) rfl) rfl ?_
    | refine wE_v (e_ia_vwn rfl rfl (by omega) (by omega) rfl) rfl ?_
    | refine wE_n rfl rfl rfl ?_
    | refine wE_u rfl rfl rfl ?_
    | refine wE_new (o_mks rfl rfl (by omega) (by decide)) rfl ?_))
              exact ⟨k + 1, by omega, by omega, fin false _ (by rw [up]; rfl) ⟨⟨rfl, rfl⟩, ⟨rfl, by simp [AV.ltr]⟩, ⟨rfl, rfl⟩, ⟨rfl, rfl⟩, ⟨rfl, rfl⟩, ⟨rfl, rfl⟩, ⟨rfl, rfl⟩, ⟨rfl, rfl⟩, ⟨rfl, rfl⟩, ⟨rfl, rfl⟩, trivial⟩⟩
          | false =>
            rw [hb2] at hr2 up
            repeat (first | refine wE_v (o_ldf_pt rfl hO_1 rfl rfl) rfl ?_ | refine wE_v (o_ldf_pt rfl hO_2 (outB_get hi2) rfl) rfl ?_ | refine wE_v (o_ldf_pt rfl (hO_W hi2) hr1 rfl) rfl ?_ | refine wE_v (o_ldf_pt rfl (hO_W hi2) hr2 rfl) rfl ?_ | refine wE_upd (o_st1 rfl (hO_W hi2) hr1 rfl rfl rfl) rfl ?_ | (refine wE_v (e_ia_sl rfl rfl (by omega) (by omega)) rfl ?_; simp only [e0]) | (first
    | refine wC_a rfl ?_
    | refine q_s rfl ?_
    | refine q_b rfl ?_
    | refine wG_nil ?_
    | refine wG_g rfl ?_
    | refine wG_pure (o_len_vwm rfl) ?_
    | refine wG_pure (o_not_d rfl) ?_
    | refine wG_p rfl (by first | exact rfl | omega) ?_
    | refine wG_pure (o_str2 rfl rfl rfl) ?_
    | refine wG_pure (e_istr rfl rfl (by omega)) ?_
    | refine wG_pure (e_istr0 rfl rfl (by omega)) ?_
    | refine wG_pure (o_not rfl) ?_
    | refine wG_pure (e_ia_vw0 rfl rfl (by omega) rfl) ?_
    | refine wG_pure (e_ia_vwp rfl rfl (by omega) rfl) ?_
    | refine wG_pure (e_ia_vwm rfl rfl (by omega) (by omega) rfl) ?_
    | refine wG_pure (e_ia_vwi rfl rfl (by omega) rfl) ?_
    | refine wG_pure (e_ia_vwn rfl rfl (by omega) (by omega) rfl) ?_
    | refine wG_n rfl rfl ?_
    | refine wG_u rfl rfl ?_
    | refine wG_new (o_mks rfl rfl (by omega) (by decide)) ?_) | (first
    | refine wE_nil (by kernel_rfl) ?_
    | refine wE_gy rfl ?_
    | refine wE_gn rfl rfl rfl ?_
    | refine wE_gu rfl rfl ?_
    | refine wE_gnn rfl rfl rfl ?_
    | refine wE_v (o_len_vwm rfl) rfl ?_
    | refine wE_v (o_not_d rfl) rfl ?_
    | refine wE_p rfl (by first | exact rfl | omega) rfl ?_
    | refine wE_v (o_str2 rfl rfl rfl) rfl ?_
    | refine wE_v (e_istr rfl rfl (by omega)) rfl ?_
    | refine wE_v (e_istr0 rfl rfl (by omega)) rfl ?_
    | refine wE_v (o_not rfl) rfl ?_
    | refine wE_v (e_ia_vw0 rfl rfl (by omega) rfl) rfl ?_
    | refine wE_v (e_ia_vwp rfl rfl (by omega) rfl) rfl ?_
    | refine wE_v (e_ia_vwm rfl rfl (by omega) (by omega) rfl) rfl ?_
    | refine wE_v (e_ia_vwi rfl rfl (by omega) rfl) rfl ?_
    | refine wE_v (e_ia_vwn rfl rfl (by omega) (by omega) rfl) rfl ?_
    | refine wE_n rfl rfl rfl ?_
    | refine wE_u rfl rfl rfl ?_
    | refine wE_new (o_mks rfl rfl (by omega) (by decide)) rfl ?_))
            exact ⟨k + 1, by omega, by omega, fin false _ (by rw [up]; rfl) ⟨⟨rfl, rfl⟩, ⟨rfl, by simp [AV.ltr]⟩, ⟨rfl, rfl⟩, ⟨rfl, rfl⟩, ⟨rfl, rfl⟩, ⟨rfl, rfl⟩, ⟨rfl, rfl⟩, ⟨rfl, rfl⟩, ⟨rfl, rfl⟩, ⟨rfl, rfl⟩, trivial⟩⟩
      · have hk3 : k = c := by omega
        subst hk3
        repeat (first
    | refine wC_a rfl ?_
    | refine q_s rfl ?_
    | refine q_b rfl ?_
    | refine wG_nil ?_
    | refine wG_g rfl ?_
    | refine wG_pure (o_len_vwm rfl) ?_
    | refine wG_pure (o_not_d rfl) ?_
    | refine wG_p rfl (by first | exact rfl | omega) ?_
    | refine wG_pure (o_str2 rfl rfl rfl) ?_
    | refine wG_pure (e_istr rfl rfl (by omega)) ?_
    | refine wG_pure (e_istr0 rfl rfl (by omega)) ?_
    | refine wG_pure (o_not rfl) ?_
    | refine wG_pure (e_ia_vw0 rfl rfl (by omega) rfl) ?_
    | refine wG_pure (e_ia_vwp rfl rfl (by omega) rfl) ?_
    | refine wG_pure (e_ia_vwm rfl rfl (by omega) (by omega) rfl) ?_
    | refine wG_pure (e_ia_vwi rfl rfl (by omega) rfl) ?_
    | refine wG_pure (e_ia_vwn rfl rfl (by omega) (by omega) rfl) ?_
    | refine wG_n rfl rfl ?_
    | refine wG_u rfl rfl ?_
    | refine wG_new (o_mks rfl rfl (by omega) (by decide)) ?_)
        refine ⟨i + 1, by omega, by omega, .inl (Le_of ⟨⟨rfl, rfl⟩, ⟨rfl, by simp [AV.ltr]⟩, ⟨rfl, rfl⟩, ⟨rfl, rfl⟩, ⟨rfl, rfl⟩, ⟨rfl, rfl⟩, ⟨rfl, rfl⟩, trivial⟩ (fun q rows hq => ?_) (hwf _ _))⟩
        have e1 : hO (rRow a b r) (numV k) (numO r k) (wsR (wsA L0 k j) j (i + 1)) L0 k = hO (rRow a b r) (numV k) (numO r k) (wsK V j i k) L0 k :=
          hO_congr (fun x y hx hy => by rw [wsK_n _ _ _ _ _ _ hy, hV]; rfl)
        simp only at hq
        rw [e1] at hq
        exact hq
    · have hi3 : i = c := by omega
      subst hi3
      repeat (first
    | refine wC_a rfl ?_
    | refine q_s rfl ?_
    | refine q_b rfl ?_
    | refine wG_nil ?_
    | refine wG_g rfl ?_
    | refine wG_pure (o_len_vwm rfl) ?_
    | refine wG_pure (o_not_d rfl) ?_
    | refine wG_p rfl (by first | exact rfl | omega) ?_
    | refine wG_pure (o_str2 rfl rfl rfl) ?_
    | refine wG_pure (e_istr rfl rfl (by omega)) ?_
    | refine wG_pure (e_istr0 rfl rfl (by omega)) ?_
    | refine wG_pure (o_not rfl) ?_
    | refine wG_pure (e_ia_vw0 rfl rfl (by omega) rfl) ?_
    | refine wG_pure (e_ia_vwp rfl rfl (by omega) rfl) ?_
    | refine wG_pure (e_ia_vwm rfl rfl (by omega) (by omega) rfl) ?_
    | refine wG_pure (e_ia_vwi rfl rfl (by omega) rfl) ?_
    | refine wG_pure (e_ia_vwn rfl rfl (by omega) (by omega) rfl) ?_
    | refine wG_n rfl rfl ?_
    | refine wG_u rfl rfl ?_
    | refine wG_new (o_mks rfl rfl (by omega) (by decide)) ?_)
      exact ⟨j + 1, by omega, by omega, .inl (Le_of ⟨⟨rfl, rfl⟩, ⟨rfl, by simp [AV.ltr]⟩, ⟨rfl, rfl⟩, ⟨rfl, rfl⟩, trivial⟩ (fun q rows hq => hq) (hwf _ _))⟩
  · have hj3 : j = c := by omega
    subst hj3
    repeat (first
    | refine wC_a rfl ?_
    | refine q_s rfl ?_
    | refine q_b rfl ?_
    | refine wG_nil ?_
    | refine wG_g rfl ?_
    | refine wG_pure (o_len_vwm rfl) ?_
    | refine wG_pure (o_not_d rfl) ?_
    | refine wG_p rfl (by first | exact rfl | omega) ?_
    | refine wG_pure (o_str2 rfl rfl rfl) ?_
    | refine wG_pure (e_istr rfl rfl (by omega)) ?_
    | refine wG_pure (e_istr0 rfl rfl (by omega)) ?_
    | refine wG_pure (o_not rfl) ?_
    | refine wG_pure (e_ia_vw0 rfl rfl (by omega) rfl) ?_
    | refine wG_pure (e_ia_vwp rfl rfl (by omega) rfl) ?_
    | refine wG_pure (e_ia_vwm rfl rfl (by omega) (by omega) rfl) ?_
    | refine wG_pure (e_ia_vwi rfl rfl (by omega) rfl) ?_
    | refine wG_pure (e_ia_vwn rfl rfl (by omega) (by omega) rfl) ?_
    | refine wG_n rfl rfl ?_
    | refine wG_u rfl rfl ?_
    | refine wG_new (o_mks rfl rfl (by omega) (by decide)) ?_)
    refine retG_gen (.inr rfl) (retVs_1 (retV_mv rfl)) ?_ trivial ?_ (by simp) ?_ (fun i rows h => ?_)
    · show [AV.pt 1 0 0] = [AV.pt (πof _ 0) 0 0]
      rw [πs (ordO_pos _ _ _ _)]
    · show decide (0 < _) = true
      rw [decide_eq_true_iff]
      exact ordO_pos _ _ _ _
    · exact nd_succ _
    · have := ordO_mem (rr := rRow a b r) h
      unfold later at this ⊢
      rw [hn, ← hL0] at this ⊢
      exact this
end Go.Proofs.Yteoonedddgiacaa.Rec
