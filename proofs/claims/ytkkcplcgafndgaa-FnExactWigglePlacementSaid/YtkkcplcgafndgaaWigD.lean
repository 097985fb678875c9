/- Placing a row of samples: the reference. -/
import Derived.Test.YtkkcplcgafndgaaWigC
namespace Go.Proofs.Ytkkcplcgafndgaa.Cal
open Go Go.Proofs.Ytkkcplcgafndgaa Go.Proofs.Ytkkcplcgafndgaa.Ab Go.Proofs.Ytkkcplcgafndgaa.Il Go.Proofs.Ytkkcplcgafndgaa.Msr Go.Proofs.Ytkkcplcgafndgaa.Dst
attribute [local irreducible] wpO wpC wpDr wpQ wpG wpE stepA seqQ blkQ Ret ev
set_option maxRecDepth 10000
set_option maxHeartbeats 8000000
set_option linter.unusedSimpArgs false
set_option linter.unusedVariables false

theorem con22_all (nn n2 n3 : Bool) (xs : List CP) (ms : List Ms) (gs : List Int) (hlen : xs.length ≤ 1048576) (hlm : ms.length ≤ 1048576) (hlg : gs.length ≤ 1048576) (v : AV) (rs : List Nat) (objs : List Ab.Rows) (hv : v.nvf = true) (hp : PlainObjs objs)
    (hend : (wOK xs ms gs → v = dYes (mkO (y0 xs) (wL xs ms gs)) ∧ rs = [2] ∧ objs = [(mkO (y0 xs) (wL xs ms gs)).ws.map iRow]) ∧ (¬ wOK xs ms gs → v = dNo ∧ rs = [] ∧ objs = [])) :
    Con Try.prog 22 true [.vw nn (xs.map cpRow), .vw n2 (ms.map msRow), .vw n3 (gs.map iRow)] v objs := by
  classical
  suffices key : Con Try.prog 22 v.nvf [.vw nn (xs.map cpRow), .vw n2 (ms.map msRow), .vw n3 (gs.map iRow)] v objs by rwa [hv] at key
  refine con_of_wp mixed fun22 (by simp) rs hp ?_
  unfold ac22 ro22
  simp only [zipT]
  have c1 := con35 nn xs hlen
  have c2 := con46 n2 ms hlm
  have hno : ¬ wOK xs ms gs → v = dNo ∧ rs = [] ∧ objs = [] := hend.2
  by_cases hA : Good xs
  · rw [decide_eq_true hA] at c1
    by_cases hB : AllM ms
    · rw [decide_eq_true hB] at c2
      by_cases h6 : ms.length ≤ 6
      · have hB6 : AllM6 ms := ⟨⟨hB.1.1, h6⟩, hB.2⟩
        have d6 : decide ((ms.length : Int) > 6) = false := decide_eq_false (by omega)
        by_cases hC : gs.length + 1 = ms.length
        · have dC : decide ((gs.length : Int) ≠ (ms.length : Int) - 1) = false := decide_eq_false (fun h => h (by omega))
          repeat (first | refine wG_call c1 rfl rfl ?_ | refine wG_call c2 rfl rfl ?_ | (first
    | refine wC_a rfl ?_
    | refine q_s rfl ?_
    | refine q_b rfl ?_
    | refine wG_nil ?_
    | refine wG_g rfl ?_
    | refine wG_pure (o_len_vwm rfl) ?_
    | refine wG_pure (o_not_d rfl) ?_
    | refine wG_p rfl (by first | exact rfl | omega) ?_
    | refine wG_pure (o_not rfl) ?_
    | refine wG_pure (e_ia_vw0 rfl rfl (by omega) rfl) ?_
    | refine wG_pure (e_ia_vwp rfl rfl (by omega) rfl) ?_
    | refine wG_pure (e_ia_vwm rfl rfl (by omega) (by omega) rfl) ?_
    | refine wG_pure (e_ia_vwi rfl rfl (by omega) rfl) ?_
    | refine wG_pure (e_ia_vwn rfl rfl (by omega) (by omega) rfl) ?_
    | refine wG_n rfl rfl ?_
    | refine wG_u rfl rfl ?_
    | refine wG_new (o_mks rfl rfl (by omega) (by decide)) ?_))
          simp only [d6]
          repeat (first
    | refine wC_a rfl ?_
    | refine q_s rfl ?_
    | refine q_b rfl ?_
    | refine wG_nil ?_
    | refine wG_g rfl ?_
    | refine wG_pure (o_len_vwm rfl) ?_
    | refine wG_pure (o_not_d rfl) ?_
    | refine wG_p rfl (by first | exact rfl | omega) ?_
    | refine wG_pure (o_not rfl) ?_
    | refine wG_pure (e_ia_vw0 rfl rfl (by omega) rfl) ?_
    | refine wG_pure (e_ia_vwp rfl rfl (by omega) rfl) ?_
    | refine wG_pure (e_ia_vwm rfl rfl (by omega) (by omega) rfl) ?_
    | refine wG_pure (e_ia_vwi rfl rfl (by omega) rfl) ?_
    | refine wG_pure (e_ia_vwn rfl rfl (by omega) (by omega) rfl) ?_
    | refine wG_n rfl rfl ?_
    | refine wG_u rfl rfl ?_
    | refine wG_new (o_mks rfl rfl (by omega) (by decide)) ?_)
          simp only [dC]
          repeat (first
    | refine wC_a rfl ?_
    | refine q_s rfl ?_
    | refine q_b rfl ?_
    | refine wG_nil ?_
    | refine wG_g rfl ?_
    | refine wG_pure (o_len_vwm rfl) ?_
    | refine wG_pure (o_not_d rfl) ?_
    | refine wG_p rfl (by first | exact rfl | omega) ?_
    | refine wG_pure (o_not rfl) ?_
    | refine wG_pure (e_ia_vw0 rfl rfl (by omega) rfl) ?_
    | refine wG_pure (e_ia_vwp rfl rfl (by omega) rfl) ?_
    | refine wG_pure (e_ia_vwm rfl rfl (by omega) (by omega) rfl) ?_
    | refine wG_pure (e_ia_vwi rfl rfl (by omega) rfl) ?_
    | refine wG_pure (e_ia_vwn rfl rfl (by omega) (by omega) rfl) ?_
    | refine wG_n rfl rfl ?_
    | refine wG_u rfl rfl ?_
    | refine wG_new (o_mks rfl rfl (by omega) (by decide)) ?_)
          refine wC_loop Nat (fun i => ⟨[(0, .vw nn (xs.map cpRow)), (1, .vw n2 (ms.map msRow)), (2, .vw n3 (gs.map iRow)), (6, .pt 0 0 0), (8, .int .i64 (i : Int))], [(0, some [[.int .i64 0, .nilS]])], 1⟩) (fun i => i ≤ gs.length ∧ ∀ j, j < i → 0 ≤ gs.getD j default ∧ gs.getD j default ≤ 100) (fun i => gs.length - i) 0 ⟨Nat.zero_le _, fun j hj => absurd hj (Nat.not_lt_zero _)⟩ ?_ (fun _ _ => Nat.zero_le _) ?_
          · exact ⟨⟨⟨rfl, rfl⟩, ⟨rfl, rfl⟩, ⟨rfl, rfl⟩, ⟨rfl, rfl⟩, ⟨rfl, rfl⟩, trivial⟩, ⟨rfl, by show 0 < 1; decide, by simp [AV.ltr]⟩, trivial⟩
          rintro i ⟨hi, hok⟩
          repeat (first
    | refine wC_a rfl ?_
    | refine q_s rfl ?_
    | refine q_b rfl ?_
    | refine wG_nil ?_
    | refine wG_g rfl ?_
    | refine wG_pure (o_len_vwm rfl) ?_
    | refine wG_pure (o_not_d rfl) ?_
    | refine wG_p rfl (by first | exact rfl | omega) ?_
    | refine wG_pure (o_not rfl) ?_
    | refine wG_pure (e_ia_vw0 rfl rfl (by omega) rfl) ?_
    | refine wG_pure (e_ia_vwp rfl rfl (by omega) rfl) ?_
    | refine wG_pure (e_ia_vwm rfl rfl (by omega) (by omega) rfl) ?_
    | refine wG_pure (e_ia_vwi rfl rfl (by omega) rfl) ?_
    | refine wG_pure (e_ia_vwn rfl rfl (by omega) (by omega) rfl) ?_
    | refine wG_n rfl rfl ?_
    | refine wG_u rfl rfl ?_
    | refine wG_new (o_mks rfl rfl (by omega) (by decide)) ?_)
          refine wC_cond_d rfl (fun h2 => ?_) (fun h2 => ?_)
          · have hi2 : i < gs.length := by omega
            have c3 := con27 (gs.getD i default) 0 100
            by_cases hg' : 0 ≤ gs.getD i default ∧ gs.getD i default ≤ 100
            · rw [decide_eq_true hg'] at c3
              repeat (first | refine wG_call c3 rfl rfl ?_ | (first
    | refine wC_a rfl ?_
    | refine q_s rfl ?_
    | refine q_b rfl ?_
    | refine wG_nil ?_
    | refine wG_g rfl ?_
    | refine wG_pure (o_len_vwm rfl) ?_
    | refine wG_pure (o_not_d rfl) ?_
    | refine wG_p rfl (by first | exact rfl | omega) ?_
    | refine wG_pure (o_not rfl) ?_
    | refine wG_pure (e_ia_vw0 rfl rfl (by omega) rfl) ?_
    | refine wG_pure (e_ia_vwp rfl rfl (by omega) rfl) ?_
    | refine wG_pure (e_ia_vwm rfl rfl (by omega) (by omega) rfl) ?_
    | refine wG_pure (e_ia_vwi rfl rfl (by omega) rfl) ?_
    | refine wG_pure (e_ia_vwn rfl rfl (by omega) (by omega) rfl) ?_
    | refine wG_n rfl rfl ?_
    | refine wG_u rfl rfl ?_
    | refine wG_new (o_mks rfl rfl (by omega) (by decide)) ?_))
              refine ⟨i + 1, ⟨hi2, fun j hj => ?_⟩, by omega, ⟨⟨rfl, rfl⟩, ⟨rfl, rfl⟩, ⟨rfl, rfl⟩, ⟨rfl, rfl⟩, ⟨rfl, rfl⟩, trivial⟩, ⟨rfl, by show 0 < 1; decide, by simp [AV.ltr]⟩, trivial⟩
              rcases Nat.lt_or_ge j i with h3 | h3
              · exact hok j h3
              · obtain rfl : j = i := by omega
                exact hg'
            · rw [decide_eq_false hg'] at c3
              obtain ⟨rfl, rfl, rfl⟩ := hno (fun h => hg' (h.1.2.2.2 i hi2))
              unfold dNo at *
              repeat (first | refine wG_call c3 rfl rfl ?_ | (first
    | refine wC_a rfl ?_
    | refine q_s rfl ?_
    | refine q_b rfl ?_
    | refine wG_nil ?_
    | refine wG_g rfl ?_
    | refine wG_pure (o_len_vwm rfl) ?_
    | refine wG_pure (o_not_d rfl) ?_
    | refine wG_p rfl (by first | exact rfl | omega) ?_
    | refine wG_pure (o_not rfl) ?_
    | refine wG_pure (e_ia_vw0 rfl rfl (by omega) rfl) ?_
    | refine wG_pure (e_ia_vwp rfl rfl (by omega) rfl) ?_
    | refine wG_pure (e_ia_vwm rfl rfl (by omega) (by omega) rfl) ?_
    | refine wG_pure (e_ia_vwi rfl rfl (by omega) rfl) ?_
    | refine wG_pure (e_ia_vwn rfl rfl (by omega) (by omega) rfl) ?_
    | refine wG_n rfl rfl ?_
    | refine wG_u rfl rfl ?_
    | refine wG_new (o_mks rfl rfl (by omega) (by decide)) ?_))
              exact ret_d0 (.inr rfl) rfl (retV_ldt rfl rfl rfl rfl rfl) (retV_mv rfl)
          · have hi3 : i = gs.length := by omega
            subst hi3
            have hD : okG gs := hok
            have h2 := hA.1
            have hy := y_b hA
            have hW : wOK xs ms gs ↔ wAll xs ms gs ∧ mkOK (y0 xs) (wL xs ms gs) := ⟨fun h => h.2, fun h => ⟨⟨hA, hB6, hC, hD⟩, h⟩⟩
            have hbd : bnd (wL xs ms gs) 1000000000000 := tab_bnd (fun i _ => wY_b hA hB.2 _)
            have hlc : (wL xs ms gs).length = nY (y0 xs) (y1 xs) := tab_len _ _ _
            have cy := fun h => con28_yes true (y0 xs) (wL xs ms gs) (by omega) hbd (by decide) (by omega) (by omega) h
            have cn := fun h => con28_no true (y0 xs) (wL xs ms gs) (by omega) hbd (by decide) (by omega) (by omega) h
            have hwl : wL xs ms gs = tab (y0 xs) (wY xs ms gs) (nY (y0 xs) (y1 xs)) := rfl
            have hwa : wAll xs ms gs ↔ ∀ k : Nat, k < nY (y0 xs) (y1 xs) → okY xs ms gs (y0 xs + (k : Int)) := Iff.rfl
            have hN : nY (y0 xs) (y1 xs) = (y1 xs - y0 xs + 1).toNat := rfl
            have e0 : (xs.getD 0 default).y = y0 xs := rfl
            have e1 : (xs.getD (xs.length - 1) default).y = y1 xs := rfl
            rw [hW, hwa] at hend hno
            rw [hwl] at hend hbd hlc cy cn hno
            generalize nY (y0 xs) (y1 xs) = N at *
            unfold dYes dNo at *
            repeat (first
    | refine wC_a rfl ?_
    | refine q_s rfl ?_
    | refine q_b rfl ?_
    | refine wG_nil ?_
    | refine wG_g rfl ?_
    | refine wG_pure (o_len_vwm rfl) ?_
    | refine wG_pure (o_not_d rfl) ?_
    | refine wG_p rfl (by first | exact rfl | omega) ?_
    | refine wG_pure (o_not rfl) ?_
    | refine wG_pure (e_ia_vw0 rfl rfl (by omega) rfl) ?_
    | refine wG_pure (e_ia_vwp rfl rfl (by omega) rfl) ?_
    | refine wG_pure (e_ia_vwm rfl rfl (by omega) (by omega) rfl) ?_
    | refine wG_pure (e_ia_vwi rfl rfl (by omega) rfl) ?_
    | refine wG_pure (e_ia_vwn rfl rfl (by omega) (by omega) rfl) ?_
    | refine wG_n rfl rfl ?_
    | refine wG_u rfl rfl ?_
    | refine wG_new (o_mks rfl rfl (by omega) (by decide)) ?_)
            refine wC_loopR Nat (fun k => ⟨[(0, .vw nn (xs.map cpRow)), (1, .vw n2 (ms.map msRow)), (2, .vw n3 (gs.map iRow)), (6, .pt 0 0 0), (9, .sl 1 1 0 (tab (y0 xs) (wY xs ms gs) k).length), (10, .int .i64 (y0 xs + (k : Int)))], [(1, some ((tab (y0 xs) (wY xs ms gs) k).map iRow)), (0, some [[.int .i64 0, .nilS]])], 2⟩) (fun k => k ≤ N ∧ ∀ j : Nat, j < k → okY xs ms gs (y0 xs + (j : Int))) (fun k => N - k) 0 ⟨Nat.zero_le _, fun j hj => absurd hj (Nat.not_lt_zero _)⟩ ⟨[0, 1], ?_⟩ ?_
            · exact ⟨⟨⟨rfl, rfl⟩, ⟨rfl, rfl⟩, ⟨rfl, rfl⟩, ⟨rfl, rfl⟩, ⟨rfl, rfl⟩, ⟨by simp [lk, rn, y0, yr], rfl⟩, trivial⟩, ⟨⟨⟨_, rfl, rfl⟩, (by show 1 < 2; decide), ltrI _ _⟩, ⟨⟨_, rfl, rfl⟩, (by show 0 < 2; decide), by simp [AV.ltr]⟩, trivial⟩, rfl, by decide⟩
            rintro k ⟨hk, hall⟩
            have hl := tab_len (y0 xs) (wY xs ms gs) k
            repeat (first
    | refine wC_a rfl ?_
    | refine q_s rfl ?_
    | refine q_b rfl ?_
    | refine wG_nil ?_
    | refine wG_g rfl ?_
    | refine wG_pure (o_len_vwm rfl) ?_
    | refine wG_pure (o_not_d rfl) ?_
    | refine wG_p rfl (by first | exact rfl | omega) ?_
    | refine wG_pure (o_not rfl) ?_
    | refine wG_pure (e_ia_vw0 rfl rfl (by omega) rfl) ?_
    | refine wG_pure (e_ia_vwp rfl rfl (by omega) rfl) ?_
    | refine wG_pure (e_ia_vwm rfl rfl (by omega) (by omega) rfl) ?_
    | refine wG_pure (e_ia_vwi rfl rfl (by omega) rfl) ?_
    | refine wG_pure (e_ia_vwn rfl rfl (by omega) (by omega) rfl) ?_
    | refine wG_n rfl rfl ?_
    | refine wG_u rfl rfl ?_
    | refine wG_new (o_mks rfl rfl (by omega) (by decide)) ?_)
            rw [e1]
            refine wC_cond_d rfl (fun h3 => ?_) (fun h3 => ?_)
            · have hk3 : k + 1 ≤ N := by omega
              obtain ⟨y, hyk⟩ : ∃ y, y0 xs + (k : Int) = y := ⟨_, rfl⟩
              simp only [hyk] at h3 ⊢
              have hy1 : -20000 ≤ y := by omega
              have hy2 : y ≤ 2100 := by omega
              repeat (first
    | refine wC_a rfl ?_
    | refine q_s rfl ?_
    | refine q_b rfl ?_
    | refine wG_nil ?_
    | refine wG_g rfl ?_
    | refine wG_pure (o_len_vwm rfl) ?_
    | refine wG_pure (o_not_d rfl) ?_
    | refine wG_p rfl (by first | exact rfl | omega) ?_
    | refine wG_pure (o_not rfl) ?_
    | refine wG_pure (e_ia_vw0 rfl rfl (by omega) rfl) ?_
    | refine wG_pure (e_ia_vwp rfl rfl (by omega) rfl) ?_
    | refine wG_pure (e_ia_vwm rfl rfl (by omega) (by omega) rfl) ?_
    | refine wG_pure (e_ia_vwi rfl rfl (by omega) rfl) ?_
    | refine wG_pure (e_ia_vwn rfl rfl (by omega) (by omega) rfl) ?_
    | refine wG_n rfl rfl ?_
    | refine wG_u rfl rfl ?_
    | refine wG_new (o_mks rfl rfl (by omega) (by decide)) ?_)
              refine wC_loop Nat (fun i => ⟨[(0, .vw nn (xs.map cpRow)), (1, .vw n2 (ms.map msRow)), (2, .vw n3 (gs.map iRow)), (6, .pt 0 0 0), (9, .sl 1 1 0 (tab (y0 xs) (wY xs ms gs) k).length), (10, .int .i64 y), (11, .int .i64 (pw xs ms gs y i)), (12, .int .i64 (y + sm gs (i - 1))), (13, .int .i64 (i : Int))], [(1, some ((tab (y0 xs) (wY xs ms gs) k).map iRow)), (0, some [[.int .i64 0, .nilS]])], 2⟩) (fun i => i ≤ ms.length ∧ ∀ j, j ≤ i → pw xs ms gs y j ≤ 1000000000000) (fun i => ms.length - i) 0 ⟨Nat.zero_le _, fun j hj => by
                obtain rfl : j = 0 := by omega
                show (1 : Int) ≤ 1000000000000
                decide⟩ ?_ (fun _ _ => Nat.zero_le _) ?_
              · refine ⟨⟨⟨rfl, rfl⟩, ⟨rfl, rfl⟩, ⟨rfl, rfl⟩, ⟨rfl, rfl⟩, ⟨rfl, rfl⟩, ⟨rfl, rfl⟩, ⟨rfl, rfl⟩, ⟨?_, rfl⟩, ⟨rfl, rfl⟩, trivial⟩, ⟨rfl, by show 1 < 2; decide, ltrI _ _⟩, ⟨rfl, by show 0 < 2; decide, by simp [AV.ltr]⟩, trivial⟩
                show AV.int _ _ = AV.int _ _
                congr 1; simp [sm]
              rintro i ⟨hi, hok2⟩
              repeat (first
    | refine wC_a rfl ?_
    | refine q_s rfl ?_
    | refine q_b rfl ?_
    | refine wG_nil ?_
    | refine wG_g rfl ?_
    | refine wG_pure (o_len_vwm rfl) ?_
    | refine wG_pure (o_not_d rfl) ?_
    | refine wG_p rfl (by first | exact rfl | omega) ?_
    | refine wG_pure (o_not rfl) ?_
    | refine wG_pure (e_ia_vw0 rfl rfl (by omega) rfl) ?_
    | refine wG_pure (e_ia_vwp rfl rfl (by omega) rfl) ?_
    | refine wG_pure (e_ia_vwm rfl rfl (by omega) (by omega) rfl) ?_
    | refine wG_pure (e_ia_vwi rfl rfl (by omega) rfl) ?_
    | refine wG_pure (e_ia_vwn rfl rfl (by omega) (by omega) rfl) ?_
    | refine wG_n rfl rfl ?_
    | refine wG_u rfl rfl ?_
    | refine wG_new (o_mks rfl rfl (by omega) (by decide)) ?_)
              refine wC_cond_d rfl (fun h4 => ?_) (fun h4 => ?_)
              · have hi2 : i < ms.length := by omega
                have hsg := sm_g hD i (by omega)
                have hsg1 := sm_g hD (i - 1) (by omega)
                have cw := con37 nn xs hA (ms.getD i default) (hB.2 i hi2) (y + sm gs i)
                have hp2 := pw_b hA hB.2 hi2 (hok2 i (Nat.le_refl _)) (gs := gs) (y := y)
                have hup : pw xs ms gs y (i + 1) = pw xs ms gs y i * wgt xs (ms.getD i default) (y + sm gs i) := rfl
                have hbad : ¬ pw xs ms gs y (i + 1) ≤ 1000000000000 → ¬ ∀ k : Nat, k < N → okY xs ms gs (y0 xs + (k : Int)) := fun h h9 => h (by
                  have := h9 k (by omega)
                  rw [hyk] at this
                  exact this (i + 1) hi2)
                have hokn : pw xs ms gs y (i + 1) ≤ 1000000000000 → ∀ j, j ≤ i + 1 → pw xs ms gs y j ≤ 1000000000000 := fun h j hj => by
                  rcases Nat.lt_or_ge j (i + 1) with h9 | h9
                  · exact hok2 j (by omega)
                  · obtain rfl : j = i + 1 := by omega
                    exact h
                rw [hup] at hbad hokn
                generalize wgt xs (ms.getD i default) (y + sm gs i) = w at *
                generalize pw xs ms gs y i = p at *
                unfold msRow at *
                by_cases hi0 : 0 < i
                · have di : decide ((i : Int) > 0) = true := decide_eq_true (by omega)
                  have hsum : y + sm gs i = y + sm gs (i - 1) + gs.getD (i - 1) default := by
                    obtain ⟨i', rfl⟩ : ∃ i', i = i' + 1 := ⟨i - 1, by omega⟩
                    rw [Nat.add_sub_cancel, sm]; omega
                  have hgi := hD (i - 1) (by omega)
                  have hnx : y + sm gs (i + 1 - 1) = y + sm gs (i - 1) + gs.getD (i - 1) default := hsum
                  rw [hsum] at cw
                  repeat (first
    | refine wC_a rfl ?_
    | refine q_s rfl ?_
    | refine q_b rfl ?_
    | refine wG_nil ?_
    | refine wG_g rfl ?_
    | refine wG_pure (o_len_vwm rfl) ?_
    | refine wG_pure (o_not_d rfl) ?_
    | refine wG_p rfl (by first | exact rfl | omega) ?_
    | refine wG_pure (o_not rfl) ?_
    | refine wG_pure (e_ia_vw0 rfl rfl (by omega) rfl) ?_
    | refine wG_pure (e_ia_vwp rfl rfl (by omega) rfl) ?_
    | refine wG_pure (e_ia_vwm rfl rfl (by omega) (by omega) rfl) ?_
    | refine wG_pure (e_ia_vwi rfl rfl (by omega) rfl) ?_
    | refine wG_pure (e_ia_vwn rfl rfl (by omega) (by omega) rfl) ?_
    | refine wG_n rfl rfl ?_
    | refine wG_u rfl rfl ?_
    | refine wG_new (o_mks rfl rfl (by omega) (by decide)) ?_)
                  simp only [di]
                  repeat (first | refine wG_pure (e_ia_vwm rfl rfl hi0 (by omega) rfl) ?_ | refine wG_call cw rfl rfl ?_ | (first
    | refine wC_a rfl ?_
    | refine q_s rfl ?_
    | refine q_b rfl ?_
    | refine wG_nil ?_
    | refine wG_g rfl ?_
    | refine wG_pure (o_len_vwm rfl) ?_
    | refine wG_pure (o_not_d rfl) ?_
    | refine wG_p rfl (by first | exact rfl | omega) ?_
    | refine wG_pure (o_not rfl) ?_
    | refine wG_pure (e_ia_vw0 rfl rfl (by omega) rfl) ?_
    | refine wG_pure (e_ia_vwp rfl rfl (by omega) rfl) ?_
    | refine wG_pure (e_ia_vwm rfl rfl (by omega) (by omega) rfl) ?_
    | refine wG_pure (e_ia_vwi rfl rfl (by omega) rfl) ?_
    | refine wG_pure (e_ia_vwn rfl rfl (by omega) (by omega) rfl) ?_
    | refine wG_n rfl rfl ?_
    | refine wG_u rfl rfl ?_
    | refine wG_new (o_mks rfl rfl (by omega) (by decide)) ?_))
                  refine wC_cond_d rfl (fun h5 => ?_) (fun h5 => ?_)
                  · obtain ⟨rfl, rfl, rfl⟩ := hno (fun h => hbad (by omega) h.1)
                    repeat (first
    | refine wC_a rfl ?_
    | refine q_s rfl ?_
    | refine q_b rfl ?_
    | refine wG_nil ?_
    | refine wG_g rfl ?_
    | refine wG_pure (o_len_vwm rfl) ?_
    | refine wG_pure (o_not_d rfl) ?_
    | refine wG_p rfl (by first | exact rfl | omega) ?_
    | refine wG_pure (o_not rfl) ?_
    | refine wG_pure (e_ia_vw0 rfl rfl (by omega) rfl) ?_
    | refine wG_pure (e_ia_vwp rfl rfl (by omega) rfl) ?_
    | refine wG_pure (e_ia_vwm rfl rfl (by omega) (by omega) rfl) ?_
    | refine wG_pure (e_ia_vwi rfl rfl (by omega) rfl) ?_
    | refine wG_pure (e_ia_vwn rfl rfl (by omega) (by omega) rfl) ?_
    | refine wG_n rfl rfl ?_
    | refine wG_u rfl rfl ?_
    | refine wG_new (o_mks rfl rfl (by omega) (by decide)) ?_)
                    exact ret_d0 (.inr rfl) rfl (retV_ldt rfl rfl rfl rfl rfl) (retV_mv rfl)
                  · repeat (first
    | refine wC_a rfl ?_
    | refine q_s rfl ?_
    | refine q_b rfl ?_
    | refine wG_nil ?_
    | refine wG_g rfl ?_
    | refine wG_pure (o_len_vwm rfl) ?_
    | refine wG_pure (o_not_d rfl) ?_
    | refine wG_p rfl (by first | exact rfl | omega) ?_
    | refine wG_pure (o_not rfl) ?_
    | refine wG_pure (e_ia_vw0 rfl rfl (by omega) rfl) ?_
    | refine wG_pure (e_ia_vwp rfl rfl (by omega) rfl) ?_
    | refine wG_pure (e_ia_vwm rfl rfl (by omega) (by omega) rfl) ?_
    | refine wG_pure (e_ia_vwi rfl rfl (by omega) rfl) ?_
    | refine wG_pure (e_ia_vwn rfl rfl (by omega) (by omega) rfl) ?_
    | refine wG_n rfl rfl ?_
    | refine wG_u rfl rfl ?_
    | refine wG_new (o_mks rfl rfl (by omega) (by decide)) ?_)
                    refine ⟨i + 1, ⟨hi2, hokn (by omega)⟩, by omega, ⟨⟨rfl, rfl⟩, ⟨rfl, rfl⟩, ⟨rfl, rfl⟩, ⟨rfl, rfl⟩, ⟨rfl, rfl⟩, ⟨rfl, rfl⟩, ⟨?_, rfl⟩, ⟨?_, rfl⟩, ⟨rfl, rfl⟩, trivial⟩, ⟨rfl, by show 1 < 2; decide, ltrI _ _⟩, ⟨rfl, by show 0 < 2; decide, by simp [AV.ltr]⟩, trivial⟩
                    · rw [hup]; rfl
                    · rw [hnx]; rfl
                · obtain rfl : i = 0 := by omega
                  have di : decide (((0 : Nat) : Int) > 0) = false := decide_eq_false (by omega)
                  repeat (first
    | refine wC_a rfl ?_
    | refine q_s rfl ?_
    | refine q_b rfl ?_
    | refine wG_nil ?_
    | refine wG_g rfl ?_
    | refine wG_pure (o_len_vwm rfl) ?_
    | refine wG_pure (o_not_d rfl) ?_
    | refine wG_p rfl (by first | exact rfl | omega) ?_
    | refine wG_pure (o_not rfl) ?_
    | refine wG_pure (e_ia_vw0 rfl rfl (by omega) rfl) ?_
    | refine wG_pure (e_ia_vwp rfl rfl (by omega) rfl) ?_
    | refine wG_pure (e_ia_vwm rfl rfl (by omega) (by omega) rfl) ?_
    | refine wG_pure (e_ia_vwi rfl rfl (by omega) rfl) ?_
    | refine wG_pure (e_ia_vwn rfl rfl (by omega) (by omega) rfl) ?_
    | refine wG_n rfl rfl ?_
    | refine wG_u rfl rfl ?_
    | refine wG_new (o_mks rfl rfl (by omega) (by decide)) ?_)
                  simp only [di]
                  repeat (first | refine wG_call cw rfl rfl ?_ | (first
    | refine wC_a rfl ?_
    | refine q_s rfl ?_
    | refine q_b rfl ?_
    | refine wG_nil ?_
    | refine wG_g rfl ?_
    | refine wG_pure (o_len_vwm rfl) ?_
    | refine wG_pure (o_not_d rfl) ?_
    | refine wG_p rfl (by first | exact rfl | omega) ?_
    | refine wG_pure (o_not rfl) ?_
    | refine wG_pure (e_ia_vw0 rfl rfl (by omega) rfl) ?_
    | refine wG_pure (e_ia_vwp rfl rfl (by omega) rfl) ?_
    | refine wG_pure (e_ia_vwm rfl rfl (by omega) (by omega) rfl) ?_
    | refine wG_pure (e_ia_vwi rfl rfl (by omega) rfl) ?_
    | refine wG_pure (e_ia_vwn rfl rfl (by omega) (by omega) rfl) ?_
    | refine wG_n rfl rfl ?_
    | refine wG_u rfl rfl ?_
    | refine wG_new (o_mks rfl rfl (by omega) (by decide)) ?_))
                  refine wC_cond_d rfl (fun h5 => ?_) (fun h5 => ?_)
                  · obtain ⟨rfl, rfl, rfl⟩ := hno (fun h => hbad (by omega) h.1)
                    repeat (first
    | refine wC_a rfl ?_
    | refine q_s rfl ?_
    | refine q_b rfl ?_
    | refine wG_nil ?_
    | refine wG_g rfl ?_
    | refine wG_pure (o_len_vwm rfl) ?_
    | refine wG_pure (o_not_d rfl) ?_
    | refine wG_p rfl (by first | exact rfl | omega) ?_
    | refine wG_pure (o_not rfl) ?_
    | refine wG_pure (e_ia_vw0 rfl rfl (by omega) rfl) ?_
    | refine wG_pure (e_ia_vwp rfl rfl (by omega) rfl) ?_
    | refine wG_pure (e_ia_vwm rfl rfl (by omega) (by omega) rfl) ?_
    | refine wG_pure (e_ia_vwi rfl rfl (by omega) rfl) ?_
    | refine wG_pure (e_ia_vwn rfl rfl (by omega) (by omega) rfl) ?_
    | refine wG_n rfl rfl ?_
    | refine wG_u rfl rfl ?_
    | refine wG_new (o_mks rfl rfl (by omega) (by decide)) ?_)
                    exact ret_d0 (.inr rfl) rfl (retV_ldt rfl rfl rfl rfl rfl) (retV_mv rfl)
                  · repeat (first
    | refine wC_a rfl ?_
    | refine q_s rfl ?_
    | refine q_b rfl ?_
    | refine wG_nil ?_
    | refine wG_g rfl ?_
    | refine wG_pure (o_len_vwm rfl) ?_
    | refine wG_pure (o_not_d rfl) ?_
    | refine wG_p rfl (by first | exact rfl | omega) ?_
    | refine wG_pure (o_not rfl) ?_
    | refine wG_pure (e_ia_vw0 rfl rfl (by omega) rfl) ?_
    | refine wG_pure (e_ia_vwp rfl rfl (by omega) rfl) ?_
    | refine wG_pure (e_ia_vwm rfl rfl (by omega) (by omega) rfl) ?_
    | refine wG_pure (e_ia_vwi rfl rfl (by omega) rfl) ?_
    | refine wG_pure (e_ia_vwn rfl rfl (by omega) (by omega) rfl) ?_
    | refine wG_n rfl rfl ?_
    | refine wG_u rfl rfl ?_
    | refine wG_new (o_mks rfl rfl (by omega) (by decide)) ?_)
                    refine ⟨0 + 1, ⟨hi2, hokn (by omega)⟩, by omega, ⟨⟨rfl, rfl⟩, ⟨rfl, rfl⟩, ⟨rfl, rfl⟩, ⟨rfl, rfl⟩, ⟨rfl, rfl⟩, ⟨rfl, rfl⟩, ⟨?_, rfl⟩, ⟨rfl, rfl⟩, ⟨rfl, rfl⟩, trivial⟩, ⟨rfl, by show 1 < 2; decide, ltrI _ _⟩, ⟨rfl, by show 0 < 2; decide, by simp [AV.ltr]⟩, trivial⟩
                    rw [hup]; rfl
              · have hi3 : i = ms.length := by omega
                subst hi3
                have hY : okY xs ms gs y := hok2
                have ew : wY xs ms gs (y0 xs + (k : Int)) = pw xs ms gs y ms.length := by rw [hyk]; unfold wY; rw [if_pos hY]
                have hup : tab (y0 xs) (wY xs ms gs) (k + 1) = tab (y0 xs) (wY xs ms gs) k ++ [pw xs ms gs y ms.length] := by rw [tab, ew]
                repeat (first | refine wG_app rfl rfl (by simp) (rows_sl rfl rfl rfl) (by simp) (by simp; omega) (by decide) ?_ | (first
    | refine wC_a rfl ?_
    | refine q_s rfl ?_
    | refine q_b rfl ?_
    | refine wG_nil ?_
    | refine wG_g rfl ?_
    | refine wG_pure (o_len_vwm rfl) ?_
    | refine wG_pure (o_not_d rfl) ?_
    | refine wG_p rfl (by first | exact rfl | omega) ?_
    | refine wG_pure (o_not rfl) ?_
    | refine wG_pure (e_ia_vw0 rfl rfl (by omega) rfl) ?_
    | refine wG_pure (e_ia_vwp rfl rfl (by omega) rfl) ?_
    | refine wG_pure (e_ia_vwm rfl rfl (by omega) (by omega) rfl) ?_
    | refine wG_pure (e_ia_vwi rfl rfl (by omega) rfl) ?_
    | refine wG_pure (e_ia_vwn rfl rfl (by omega) (by omega) rfl) ?_
    | refine wG_n rfl rfl ?_
    | refine wG_u rfl rfl ?_
    | refine wG_new (o_mks rfl rfl (by omega) (by decide)) ?_))
                refine ⟨k + 1, ⟨hk3, fun j hj => ?_⟩, by omega, [0, 3], ?_⟩
                · rcases Nat.lt_or_ge j k with h9 | h9
                  · exact hall j h9
                  · obtain rfl : j = k := by omega
                    rw [hyk]; exact hY
                · rw [hup]
                  refine ⟨⟨⟨rfl, rfl⟩, ⟨rfl, rfl⟩, ⟨rfl, rfl⟩, ⟨rfl, rfl⟩, ⟨by simp [lk, rn, πof], rfl⟩, ⟨by simp [lk, rn]; omega, rfl⟩, trivial⟩, ⟨⟨⟨_, rfl, ?_⟩, (by show 1 < 2; decide), ltrI _ _⟩, ⟨⟨_, rfl, rfl⟩, (by show 0 < 2; decide), by simp [AV.ltr]⟩, trivial⟩, rfl, by decide⟩
                  rw [← rn_rows (rowsP _), List.map_append]; rfl
            · have hk3 : k = N := by omega
              subst hk3
              by_cases hm : mkOK (y0 xs) (tab (y0 xs) (wY xs ms gs) k)
              · obtain ⟨rfl, rfl, rfl⟩ := hend.1 ⟨hall, hm⟩
                have c := cy hm
                repeat (first | refine wG_call1 c (ag_int rfl (ag_sl rfl rfl rfl iRow_plain ag_nil)) rfl ?_ | (first
    | refine wC_a rfl ?_
    | refine q_s rfl ?_
    | refine q_b rfl ?_
    | refine wG_nil ?_
    | refine wG_g rfl ?_
    | refine wG_pure (o_len_vwm rfl) ?_
    | refine wG_pure (o_not_d rfl) ?_
    | refine wG_p rfl (by first | exact rfl | omega) ?_
    | refine wG_pure (o_not rfl) ?_
    | refine wG_pure (e_ia_vw0 rfl rfl (by omega) rfl) ?_
    | refine wG_pure (e_ia_vwp rfl rfl (by omega) rfl) ?_
    | refine wG_pure (e_ia_vwm rfl rfl (by omega) (by omega) rfl) ?_
    | refine wG_pure (e_ia_vwi rfl rfl (by omega) rfl) ?_
    | refine wG_pure (e_ia_vwn rfl rfl (by omega) (by omega) rfl) ?_
    | refine wG_n rfl rfl ?_
    | refine wG_u rfl rfl ?_
    | refine wG_new (o_mks rfl rfl (by omega) (by decide)) ?_))
                exact ret_db (.inr rfl) rfl (retV_ldt rfl rfl rfl rfl rfl) (retV_mv rfl) rfl
              · obtain ⟨rfl, rfl, rfl⟩ := hend.2 (fun h => hm h.2)
                have c := cn hm
                repeat (first | refine wG_call c (ag_int rfl (ag_sl rfl rfl rfl iRow_plain ag_nil)) rfl ?_ | (first
    | refine wC_a rfl ?_
    | refine q_s rfl ?_
    | refine q_b rfl ?_
    | refine wG_nil ?_
    | refine wG_g rfl ?_
    | refine wG_pure (o_len_vwm rfl) ?_
    | refine wG_pure (o_not_d rfl) ?_
    | refine wG_p rfl (by first | exact rfl | omega) ?_
    | refine wG_pure (o_not rfl) ?_
    | refine wG_pure (e_ia_vw0 rfl rfl (by omega) rfl) ?_
    | refine wG_pure (e_ia_vwp rfl rfl (by omega) rfl) ?_
    | refine wG_pure (e_ia_vwm rfl rfl (by omega) (by omega) rfl) ?_
    | refine wG_pure (e_ia_vwi rfl rfl (by omega) rfl) ?_
    | refine wG_pure (e_ia_vwn rfl rfl (by omega) (by omega) rfl) ?_
    | refine wG_n rfl rfl ?_
    | refine wG_u rfl rfl ?_
    | refine wG_new (o_mks rfl rfl (by omega) (by decide)) ?_))
                exact ret_d0 (.inr rfl) rfl (retV_ldt rfl rfl rfl rfl rfl) (retV_mv rfl)
        · have dC : decide ((gs.length : Int) ≠ (ms.length : Int) - 1) = true := decide_eq_true (by omega)
          obtain ⟨rfl, rfl, rfl⟩ := hno (fun h => hC h.1.2.2.1)
          unfold dNo at *
          repeat (first | refine wG_call c1 rfl rfl ?_ | refine wG_call c2 rfl rfl ?_ | (first
    | refine wC_a rfl ?_
    | refine q_s rfl ?_
    | refine q_b rfl ?_
    | refine wG_nil ?_
    | refine wG_g rfl ?_
    | refine wG_pure (o_len_vwm rfl) ?_
    | refine wG_pure (o_not_d rfl) ?_
    | refine wG_p rfl (by first | exact rfl | omega) ?_
    | refine wG_pure (o_not rfl) ?_
    | refine wG_pure (e_ia_vw0 rfl rfl (by omega) rfl) ?_
    | refine wG_pure (e_ia_vwp rfl rfl (by omega) rfl) ?_
    | refine wG_pure (e_ia_vwm rfl rfl (by omega) (by omega) rfl) ?_
    | refine wG_pure (e_ia_vwi rfl rfl (by omega) rfl) ?_
    | refine wG_pure (e_ia_vwn rfl rfl (by omega) (by omega) rfl) ?_
    | refine wG_n rfl rfl ?_
    | refine wG_u rfl rfl ?_
    | refine wG_new (o_mks rfl rfl (by omega) (by decide)) ?_))
          simp only [d6]
          repeat (first
    | refine wC_a rfl ?_
    | refine q_s rfl ?_
    | refine q_b rfl ?_
    | refine wG_nil ?_
    | refine wG_g rfl ?_
    | refine wG_pure (o_len_vwm rfl) ?_
    | refine wG_pure (o_not_d rfl) ?_
    | refine wG_p rfl (by first | exact rfl | omega) ?_
    | refine wG_pure (o_not rfl) ?_
    | refine wG_pure (e_ia_vw0 rfl rfl (by omega) rfl) ?_
    | refine wG_pure (e_ia_vwp rfl rfl (by omega) rfl) ?_
    | refine wG_pure (e_ia_vwm rfl rfl (by omega) (by omega) rfl) ?_
    | refine wG_pure (e_ia_vwi rfl rfl (by omega) rfl) ?_
    | refine wG_pure (e_ia_vwn rfl rfl (by omega) (by omega) rfl) ?_
    | refine wG_n rfl rfl ?_
    | refine wG_u rfl rfl ?_
    | refine wG_new (o_mks rfl rfl (by omega) (by decide)) ?_)
          simp only [dC]
          repeat (first
    | refine wC_a rfl ?_
    | refine q_s rfl ?_
    | refine q_b rfl ?_
    | refine wG_nil ?_
    | refine wG_g rfl ?_
    | refine wG_pure (o_len_vwm rfl) ?_
    | refine wG_pure (o_not_d rfl) ?_
    | refine wG_p rfl (by first | exact rfl | omega) ?_
    | refine wG_pure (o_not rfl) ?_
    | refine wG_pure (e_ia_vw0 rfl rfl (by omega) rfl) ?_
    | refine wG_pure (e_ia_vwp rfl rfl (by omega) rfl) ?_
    | refine wG_pure (e_ia_vwm rfl rfl (by omega) (by omega) rfl) ?_
    | refine wG_pure (e_ia_vwi rfl rfl (by omega) rfl) ?_
    | refine wG_pure (e_ia_vwn rfl rfl (by omega) (by omega) rfl) ?_
    | refine wG_n rfl rfl ?_
    | refine wG_u rfl rfl ?_
    | refine wG_new (o_mks rfl rfl (by omega) (by decide)) ?_)
          exact ret_d0 (.inr rfl) rfl (retV_ldt rfl rfl rfl rfl rfl) (retV_mv rfl)
      · have d6 : decide ((ms.length : Int) > 6) = true := decide_eq_true (by omega)
        obtain ⟨rfl, rfl, rfl⟩ := hno (fun h => h6 h.1.2.1.1.2)
        unfold dNo at *
        repeat (first | refine wG_call c1 rfl rfl ?_ | refine wG_call c2 rfl rfl ?_ | (first
    | refine wC_a rfl ?_
    | refine q_s rfl ?_
    | refine q_b rfl ?_
    | refine wG_nil ?_
    | refine wG_g rfl ?_
    | refine wG_pure (o_len_vwm rfl) ?_
    | refine wG_pure (o_not_d rfl) ?_
    | refine wG_p rfl (by first | exact rfl | omega) ?_
    | refine wG_pure (o_not rfl) ?_
    | refine wG_pure (e_ia_vw0 rfl rfl (by omega) rfl) ?_
    | refine wG_pure (e_ia_vwp rfl rfl (by omega) rfl) ?_
    | refine wG_pure (e_ia_vwm rfl rfl (by omega) (by omega) rfl) ?_
    | refine wG_pure (e_ia_vwi rfl rfl (by omega) rfl) ?_
    | refine wG_pure (e_ia_vwn rfl rfl (by omega) (by omega) rfl) ?_
    | refine wG_n rfl rfl ?_
    | refine wG_u rfl rfl ?_
    | refine wG_new (o_mks rfl rfl (by omega) (by decide)) ?_))
        simp only [d6]
        repeat (first
    | refine wC_a rfl ?_
    | refine q_s rfl ?_
    | refine q_b rfl ?_
    | refine wG_nil ?_
    | refine wG_g rfl ?_
    | refine wG_pure (o_len_vwm rfl) ?_
    | refine wG_pure (o_not_d rfl) ?_
    | refine wG_p rfl (by first | exact rfl | omega) ?_
    | refine wG_pure (o_not rfl) ?_
    | refine wG_pure (e_ia_vw0 rfl rfl (by omega) rfl) ?_
    | refine wG_pure (e_ia_vwp rfl rfl (by omega) rfl) ?_
    | refine wG_pure (e_ia_vwm rfl rfl (by omega) (by omega) rfl) ?_
    | refine wG_pure (e_ia_vwi rfl rfl (by omega) rfl) ?_
    | refine wG_pure (e_ia_vwn rfl rfl (by omega) (by omega) rfl) ?_
    | refine wG_n rfl rfl ?_
    | refine wG_u rfl rfl ?_
    | refine wG_new (o_mks rfl rfl (by omega) (by decide)) ?_)
        exact ret_d0 (.inr rfl) rfl (retV_ldt rfl rfl rfl rfl rfl) (retV_mv rfl)
    · rw [decide_eq_false hB] at c2
      obtain ⟨rfl, rfl, rfl⟩ := hno (fun h => hB ⟨⟨h.1.2.1.1.1, by have := h.1.2.1.1.2; omega⟩, h.1.2.1.2⟩)
      unfold dNo at *
      repeat (first | refine wG_call c1 rfl rfl ?_ | refine wG_call c2 rfl rfl ?_ | (first
    | refine wC_a rfl ?_
    | refine q_s rfl ?_
    | refine q_b rfl ?_
    | refine wG_nil ?_
    | refine wG_g rfl ?_
    | refine wG_pure (o_len_vwm rfl) ?_
    | refine wG_pure (o_not_d rfl) ?_
    | refine wG_p rfl (by first | exact rfl | omega) ?_
    | refine wG_pure (o_not rfl) ?_
    | refine wG_pure (e_ia_vw0 rfl rfl (by omega) rfl) ?_
    | refine wG_pure (e_ia_vwp rfl rfl (by omega) rfl) ?_
    | refine wG_pure (e_ia_vwm rfl rfl (by omega) (by omega) rfl) ?_
    | refine wG_pure (e_ia_vwi rfl rfl (by omega) rfl) ?_
    | refine wG_pure (e_ia_vwn rfl rfl (by omega) (by omega) rfl) ?_
    | refine wG_n rfl rfl ?_
    | refine wG_u rfl rfl ?_
    | refine wG_new (o_mks rfl rfl (by omega) (by decide)) ?_))
      exact ret_d0 (.inr rfl) rfl (retV_ldt rfl rfl rfl rfl rfl) (retV_mv rfl)
  · rw [decide_eq_false hA] at c1
    obtain ⟨rfl, rfl, rfl⟩ := hno (fun h => hA h.1.1)
    unfold dNo at *
    repeat (first | refine wG_call c1 rfl rfl ?_ | (first
    | refine wC_a rfl ?_
    | refine q_s rfl ?_
    | refine q_b rfl ?_
    | refine wG_nil ?_
    | refine wG_g rfl ?_
    | refine wG_pure (o_len_vwm rfl) ?_
    | refine wG_pure (o_not_d rfl) ?_
    | refine wG_p rfl (by first | exact rfl | omega) ?_
    | refine wG_pure (o_not rfl) ?_
    | refine wG_pure (e_ia_vw0 rfl rfl (by omega) rfl) ?_
    | refine wG_pure (e_ia_vwp rfl rfl (by omega) rfl) ?_
    | refine wG_pure (e_ia_vwm rfl rfl (by omega) (by omega) rfl) ?_
    | refine wG_pure (e_ia_vwi rfl rfl (by omega) rfl) ?_
    | refine wG_pure (e_ia_vwn rfl rfl (by omega) (by omega) rfl) ?_
    | refine wG_n rfl rfl ?_
    | refine wG_u rfl rfl ?_
    | refine wG_new (o_mks rfl rfl (by omega) (by decide)) ?_))
    exact ret_d0 (.inr rfl) rfl (retV_ldt rfl rfl rfl rfl rfl) (retV_mv rfl)
theorem con22_yes (nn n2 n3 : Bool) (xs : List CP) (ms : List Ms) (gs : List Int) (hlen : xs.length ≤ 1048576) (hlm : ms.length ≤ 1048576) (hlg : gs.length ≤ 1048576) (h : wOK xs ms gs) : Con Try.prog 22 true [.vw nn (xs.map cpRow), .vw n2 (ms.map msRow), .vw n3 (gs.map iRow)] (dYes (mkO (y0 xs) (wL xs ms gs))) [(mkO (y0 xs) (wL xs ms gs)).ws.map iRow] :=
  con22_all nn n2 n3 xs ms gs hlen hlm hlg _ [2] _ rfl (plain_map iRow_plain _) ⟨fun _ => ⟨rfl, rfl, rfl⟩, fun hn => absurd h hn⟩
theorem con22_no (nn n2 n3 : Bool) (xs : List CP) (ms : List Ms) (gs : List Int) (hlen : xs.length ≤ 1048576) (hlm : ms.length ≤ 1048576) (hlg : gs.length ≤ 1048576) (h : ¬ wOK xs ms gs) : Con Try.prog 22 true [.vw nn (xs.map cpRow), .vw n2 (ms.map msRow), .vw n3 (gs.map iRow)] dNo [] :=
  con22_all nn n2 n3 xs ms gs hlen hlm hlg _ [] _ rfl plain_nil ⟨fun hy => absurd hy h, fun _ => ⟨rfl, rfl, rfl⟩⟩
theorem con24_yes (nn n2 n3 : Bool) (xs : List CP) (ms : List Ms) (gs : List Int) (hlen : xs.length ≤ 1048576) (hlm : ms.length ≤ 1048576) (hlg : gs.length ≤ 1048576) (h : wOK xs ms gs) : Con Try.prog 24 true [.vw nn (xs.map cpRow), .vw n2 (ms.map msRow), .vw n3 (gs.map iRow)] (dYes (mkO (y0 xs) (wL xs ms gs))) [(mkO (y0 xs) (wL xs ms gs)).ws.map iRow] :=
  con24_all nn n2 n3 xs ms gs hlen hlm hlg _ [(5 + 1 + 2 * nY (y0 xs) (y1 xs) + 1)] _ rfl (plain_map iRow_plain _) ⟨fun _ => ⟨rfl, rfl, rfl⟩, fun hn => absurd h hn⟩
theorem con24_no (nn n2 n3 : Bool) (xs : List CP) (ms : List Ms) (gs : List Int) (hlen : xs.length ≤ 1048576) (hlm : ms.length ≤ 1048576) (hlg : gs.length ≤ 1048576) (h : ¬ wOK xs ms gs) : Con Try.prog 24 true [.vw nn (xs.map cpRow), .vw n2 (ms.map msRow), .vw n3 (gs.map iRow)] dNo [] :=
  con24_all nn n2 n3 xs ms gs hlen hlm hlg _ [] _ rfl plain_nil ⟨fun hy => absurd hy h, fun _ => ⟨rfl, rfl, rfl⟩⟩
end Go.Proofs.Ytkkcplcgafndgaa.Cal
