/- The implementation of a valid curve gives exactly what Good says, for every curve of at most 1048576 points; the size check. -/
import Derived.Test.YtkkcplcgafndgaaIvcB
import Derived.Test.YtkkcplcgafndgaaAb1
namespace Go.Proofs.Ytkkcplcgafndgaa
open Go Go.Proofs.Ytkkcplcgafndgaa.Ab
attribute [local irreducible] wpO wpC wpDr wpQ wpG stepA seqQ blkQ Ret ev
set_option maxRecDepth 10000
set_option linter.unusedSimpArgs false
set_option linter.unusedVariables false

open Classical in
theorem con39 (nn : Bool) (xs : List CP) (hlen : xs.length ≤ 1048576) : Con Try.prog 39 true [.vw nn (xs.map cpRow)] (.bool (decide (Good xs))) [] := by
  refine con_of_wp mixed fun39 (by simp) [] plain_nil ?_
  unfold ac39 ro39
  simp only [zipT]
  have hl : ((xs.map cpRow).length : Int) = xs.length := by simp
  repeat (first | refine wG_call (con32 _ _ _) rfl rfl ?_ | refine wG_call (con29 _) rfl rfl ?_ | (first
    | refine wC_a rfl ?_
    | refine q_s rfl ?_
    | refine q_b rfl ?_
    | refine wG_nil ?_
    | refine wG_g rfl ?_
    | refine wG_pure (o_len_vwm rfl) ?_
    | refine wG_pure (o_not_d rfl) ?_
    | refine wG_p rfl (by first | exact rfl | omega) ?_
    | refine wG_pure (o_not rfl) ?_
    | refine wG_pure (e_ia_vwi rfl rfl (by omega) rfl) ?_
    | refine wG_pure (e_ia_vwn rfl rfl (by omega) (by omega) rfl) ?_
    | refine wG_n rfl rfl ?_
    | refine wG_u rfl rfl ?_
    | refine wG_new (o_mks rfl rfl (by omega) (by decide)) ?_))
  refine wC_cond_d rfl (fun h1 => ?_) (fun h1 => ?_)
  · repeat (first
    | refine wC_a rfl ?_
    | refine q_s rfl ?_
    | refine q_b rfl ?_
    | refine wG_nil ?_
    | refine wG_g rfl ?_
    | refine wG_pure (o_len_vwm rfl) ?_
    | refine wG_pure (o_not_d rfl) ?_
    | refine wG_p rfl (by first | exact rfl | omega) ?_
    | refine wG_pure (o_not rfl) ?_
    | refine wG_pure (e_ia_vwi rfl rfl (by omega) rfl) ?_
    | refine wG_pure (e_ia_vwn rfl rfl (by omega) (by omega) rfl) ?_
    | refine wG_n rfl rfl ?_
    | refine wG_u rfl rfl ?_
    | refine wG_new (o_mks rfl rfl (by omega) (by decide)) ?_)
    refine ret_boolE (.inr rfl) ?_; refine ⟨_, retV_mv rfl, ?_⟩; refine ?_
    have : ¬ Good xs := fun hg => h1 ⟨by have := hg.1.1; omega, by have := hg.1.2; omega⟩
    simp [this]
  repeat (first
    | refine wC_a rfl ?_
    | refine q_s rfl ?_
    | refine q_b rfl ?_
    | refine wG_nil ?_
    | refine wG_g rfl ?_
    | refine wG_pure (o_len_vwm rfl) ?_
    | refine wG_pure (o_not_d rfl) ?_
    | refine wG_p rfl (by first | exact rfl | omega) ?_
    | refine wG_pure (o_not rfl) ?_
    | refine wG_pure (e_ia_vwi rfl rfl (by omega) rfl) ?_
    | refine wG_pure (e_ia_vwn rfl rfl (by omega) (by omega) rfl) ?_
    | refine wG_n rfl rfl ?_
    | refine wG_u rfl rfl ?_
    | refine wG_new (o_mks rfl rfl (by omega) (by decide)) ?_)
  refine wC_loop Nat (fun i => ⟨[(0, .vw nn (xs.map cpRow)), (9, .vw nn (xs.map cpRow)), (10, .int .i64 (xs.length : Int)), (11, .int .i64 (i : Int))], [], 0⟩) (fun i => i ≤ xs.length ∧ ∀ j, j < i → okAt xs j) (fun i => xs.length - i) 0 ⟨Nat.zero_le _, fun j hj => absurd hj (Nat.not_lt_zero _)⟩ ?_ (fun _ _ => Nat.le_refl _) ?_
  · simp [LeP, leT, leH, lk, AV.ltr]
  rintro i ⟨hi, hok⟩
  repeat (first
    | refine wC_a rfl ?_
    | refine q_s rfl ?_
    | refine q_b rfl ?_
    | refine wG_nil ?_
    | refine wG_g rfl ?_
    | refine wG_pure (o_len_vwm rfl) ?_
    | refine wG_pure (o_not_d rfl) ?_
    | refine wG_p rfl (by first | exact rfl | omega) ?_
    | refine wG_pure (o_not rfl) ?_
    | refine wG_pure (e_ia_vwi rfl rfl (by omega) rfl) ?_
    | refine wG_pure (e_ia_vwn rfl rfl (by omega) (by omega) rfl) ?_
    | refine wG_n rfl rfl ?_
    | refine wG_u rfl rfl ?_
    | refine wG_new (o_mks rfl rfl (by omega) (by decide)) ?_)
  refine wC_cond_d rfl (fun h2 => ?_) (fun h2 => ?_)
  · have hi2 : i < xs.length := by omega
    have hprev : 0 < i → -20000 ≤ (xs.getD ((i : Int) - 1).toNat default).y ∧ (xs.getD ((i : Int) - 1).toNat default).y ≤ 2100 := by
      intro h
      have := (hok (i - 1) (by omega)).1
      rwa [show ((i : Int) - 1).toNat = i - 1 by omega]
    have hpe : ((i : Int) - 1).toNat = i - 1 := by omega
    repeat' (first | refine wG_call (con32 _ _ _) rfl rfl ?_ | refine wG_call (con29 _) rfl rfl ?_ | (first
    | refine wC_a rfl ?_
    | refine q_s rfl ?_
    | refine q_b rfl ?_
    | refine wG_nil ?_
    | refine wG_g rfl ?_
    | refine wG_pure (o_len_vwm rfl) ?_
    | refine wG_pure (o_not_d rfl) ?_
    | refine wG_p rfl (by first | exact rfl | omega) ?_
    | refine wG_pure (o_not rfl) ?_
    | refine wG_pure (e_ia_vwi rfl rfl (by omega) rfl) ?_
    | refine wG_pure (e_ia_vwn rfl rfl (by omega) (by omega) rfl) ?_
    | refine wG_n rfl rfl ?_
    | refine wG_u rfl rfl ?_
    | refine wG_new (o_mks rfl rfl (by omega) (by decide)) ?_) | (refine wG_gd rfl (fun hgt => ?_) (fun hgf => ?_) <;> (first | simp only [eq_true hgt, decide_true] | simp only [eq_false hgf, decide_false])) | refine wC_cond_d rfl (fun hg => ?_) (fun hg => ?_))
    all_goals (try simp only [hpe] at *)
    all_goals (first
      | (refine ret_boolE (.inr rfl) ?_; refine ⟨_, retV_mv rfl, ?_⟩; refine Eq.symm (decide_eq_false fun hG => ?_)
         have := hG.2.1 i hi2
         unfold okAt at this
         omega)
      | (refine ⟨i + 1, ⟨by omega, fun j hj => ?_⟩, by omega, by simp [LeP, leT, leH, lk, AV.ltr]⟩
         rcases Nat.lt_or_ge j i with hji | hji
         · exact hok j hji
         · obtain rfl : j = i := by omega
           unfold okAt
           omega))
  · have hi3 : i = xs.length := by omega
    subst hi3
    have hge : 2 ≤ xs.length := by omega
    have hf0 : ((0 : Int)).toNat = 0 := rfl
    have hpe : ((xs.length : Int) - 1).toNat = xs.length - 1 := by omega
    have hz := (hok 0 (by omega)).1
    have hlast := (hok (xs.length - 1) (by omega)).1
    rw [← hpe] at hlast
    rw [← hf0] at hz
    repeat' (first | refine wG_call (con32 _ _ _) rfl rfl ?_ | refine wG_call (con29 _) rfl rfl ?_ | (first
    | refine wC_a rfl ?_
    | refine q_s rfl ?_
    | refine q_b rfl ?_
    | refine wG_nil ?_
    | refine wG_g rfl ?_
    | refine wG_pure (o_len_vwm rfl) ?_
    | refine wG_pure (o_not_d rfl) ?_
    | refine wG_p rfl (by first | exact rfl | omega) ?_
    | refine wG_pure (o_not rfl) ?_
    | refine wG_pure (e_ia_vwi rfl rfl (by omega) rfl) ?_
    | refine wG_pure (e_ia_vwn rfl rfl (by omega) (by omega) rfl) ?_
    | refine wG_n rfl rfl ?_
    | refine wG_u rfl rfl ?_
    | refine wG_new (o_mks rfl rfl (by omega) (by decide)) ?_) | (refine wG_gd rfl (fun hgt => ?_) (fun hgf => ?_) <;> (first | simp only [eq_true hgt, decide_true] | simp only [eq_false hgf, decide_false])) | refine wC_cond_d rfl (fun hg => ?_) (fun hg => ?_))
    refine ret_boolE (.inr rfl) ?_
    refine ⟨_, retV_mv rfl, ?_⟩
    simp only [hpe, hf0]
    refine decide_eq_decide.2 ⟨fun h => ⟨by omega, hok, h⟩, fun h => h.2.2⟩

theorem con14 (nn : Bool) (xs : List CP) (hlen : xs.length ≤ 9223372036854775807) : Con Try.prog 14 true [.vw nn (xs.map cpRow), .int .i64 1048576] (.int .i64 (if xs.length ≤ 1048576 then 1048576 - (xs.length : Int) else -1)) [] := by
  refine con_of_wp mixed fun14 (by simp) [] plain_nil ?_
  unfold ac14 ro14
  simp only [zipT]
  have hl : ((xs.map cpRow).length : Int) = xs.length := by simp
  repeat' (first | (first
    | refine wC_a rfl ?_
    | refine q_s rfl ?_
    | refine q_b rfl ?_
    | refine wG_nil ?_
    | refine wG_g rfl ?_
    | refine wG_pure (o_len_vwm rfl) ?_
    | refine wG_pure (o_not_d rfl) ?_
    | refine wG_p rfl (by first | exact rfl | omega) ?_
    | refine wG_pure (o_not rfl) ?_
    | refine wG_pure (e_ia_vwi rfl rfl (by omega) rfl) ?_
    | refine wG_pure (e_ia_vwn rfl rfl (by omega) (by omega) rfl) ?_
    | refine wG_n rfl rfl ?_
    | refine wG_u rfl rfl ?_
    | refine wG_new (o_mks rfl rfl (by omega) (by decide)) ?_) | (refine wG_gd rfl (fun hgt => ?_) (fun hgf => ?_) <;> (first | simp only [eq_true hgt, decide_true] | simp only [eq_false hgf, decide_false])) | refine wC_cond_d rfl (fun hg => ?_) (fun hg => ?_))
  · refine ret_intE (.inr rfl) ?_
    refine ⟨_, retV_mv rfl, ?_⟩
    rw [if_neg (by omega)]
  · refine ret_intE (.inr rfl) ?_
    refine ⟨_, retV_mv rfl, ?_⟩
    rw [if_pos (by omega)]
end Go.Proofs.Ytkkcplcgafndgaa
