/- Whether measurements are such: what the small functions of both sides give. -/
import Derived.Test.YtkkcplcgafndgaaMsrA
import Derived.Test.YtkkcplcgafndgaaAb1
namespace Go.Proofs.Ytkkcplcgafndgaa.Msr
open Go Go.Proofs.Ytkkcplcgafndgaa.Ab
attribute [local irreducible] wpO wpC wpDr wpQ wpG stepA seqQ blkQ Ret ev
set_option maxRecDepth 10000
set_option linter.unusedSimpArgs false
set_option linter.unusedVariables false

theorem con27 (x a b : Int) : Con Try.prog 27 true [.int .i64 x, .int .i64 a, .int .i64 b] (.bool (decide (a ≤ x ∧ x ≤ b))) [] := by
  refine con_of_wp mixed fun27 (by simp) [] plain_nil ?_
  unfold ac27 ro27
  simp only [zipT]
  repeat' (first | (first
    | refine wC_a rfl ?_
    | refine q_s rfl ?_
    | refine q_b rfl ?_
    | refine wG_nil ?_
    | refine wG_g rfl ?_
    | refine wG_pure (o_len_vwm rfl) ?_
    | refine wG_pure (o_not_d rfl) ?_
    | refine wG_p rfl (by first | exact rfl | omega) ?_
    | refine wG_pure (o_not rfl) ?_
    | refine wG_pure (e_ia_vwi rfl rfl (by omega) rfl) ?_
    | refine wG_pure (e_ia_vwn rfl rfl (by omega) (by omega) rfl) ?_
    | refine wG_n rfl rfl ?_
    | refine wG_u rfl rfl ?_
    | refine wG_new (o_mks rfl rfl (by omega) (by decide)) ?_) | (refine wG_gd rfl (fun hgt => ?_) (fun hgf => ?_) <;> (first | simp only [eq_true hgt, decide_true] | simp only [eq_false hgf, decide_false])) | refine wC_cond_d rfl (fun hg => ?_) (fun hg => ?_))
  all_goals (refine ret_boolE (.inr rfl) ?_; refine ⟨_, retV_mv rfl, ?_⟩; simp [*])
theorem con32 (x a b : Int) : Con Try.prog 32 true [.int .i64 x, .int .i64 a, .int .i64 b] (.bool (decide (a ≤ x ∧ x ≤ b))) [] := by
  refine con_of_wp mixed fun32 (by simp) [] plain_nil ?_
  unfold ac32 ro32
  simp only [zipT]
  repeat' (first | (first
    | refine wC_a rfl ?_
    | refine q_s rfl ?_
    | refine q_b rfl ?_
    | refine wG_nil ?_
    | refine wG_g rfl ?_
    | refine wG_pure (o_len_vwm rfl) ?_
    | refine wG_pure (o_not_d rfl) ?_
    | refine wG_p rfl (by first | exact rfl | omega) ?_
    | refine wG_pure (o_not rfl) ?_
    | refine wG_pure (e_ia_vwi rfl rfl (by omega) rfl) ?_
    | refine wG_pure (e_ia_vwn rfl rfl (by omega) (by omega) rfl) ?_
    | refine wG_n rfl rfl ?_
    | refine wG_u rfl rfl ?_
    | refine wG_new (o_mks rfl rfl (by omega) (by decide)) ?_) | (refine wG_gd rfl (fun hgt => ?_) (fun hgf => ?_) <;> (first | simp only [eq_true hgt, decide_true] | simp only [eq_false hgf, decide_false])) | refine wC_cond_d rfl (fun hg => ?_) (fun hg => ?_))
  all_goals (refine ret_boolE (.inr rfl) ?_; refine ⟨_, retV_mv rfl, ?_⟩; simp [*])

def okM (p : Ms) : Prop := (0 ≤ p.a ∧ p.a ≤ 60000) ∧ (1 ≤ p.e ∧ p.e ≤ 1000)
instance (p : Ms) : Decidable (okM p) := by unfold okM; exact inferInstance
theorem con36 (p : Ms) : Con Try.prog 36 true [.agg (msRow p)] (.bool (decide (okM p))) [] := by
  refine con_of_wp mixed fun36 (by simp) [] plain_nil ?_
  unfold ac36 ro36
  simp only [zipT]
  repeat' (first | refine wG_call (con27 _ _ _) rfl rfl ?_ | (first
    | refine wC_a rfl ?_
    | refine q_s rfl ?_
    | refine q_b rfl ?_
    | refine wG_nil ?_
    | refine wG_g rfl ?_
    | refine wG_pure (o_len_vwm rfl) ?_
    | refine wG_pure (o_not_d rfl) ?_
    | refine wG_p rfl (by first | exact rfl | omega) ?_
    | refine wG_pure (o_not rfl) ?_
    | refine wG_pure (e_ia_vwi rfl rfl (by omega) rfl) ?_
    | refine wG_pure (e_ia_vwn rfl rfl (by omega) (by omega) rfl) ?_
    | refine wG_n rfl rfl ?_
    | refine wG_u rfl rfl ?_
    | refine wG_new (o_mks rfl rfl (by omega) (by decide)) ?_) | (refine wG_gd rfl (fun hgt => ?_) (fun hgf => ?_) <;> (first | simp only [eq_true hgt, decide_true] | simp only [eq_false hgf, decide_false])) | refine wC_cond_d rfl (fun hg => ?_) (fun hg => ?_))
  all_goals (refine ret_boolE (.inr rfl) ?_; refine ⟨_, retV_mv rfl, ?_⟩; simp [okM, *])
theorem con40 (p : Ms) : Con Try.prog 40 true [.agg (msRow p)] (.bool (decide (okM p))) [] := by
  refine con_of_wp mixed fun40 (by simp) [] plain_nil ?_
  unfold ac40 ro40
  simp only [zipT]
  repeat' (first | refine wG_call (con32 _ _ _) rfl rfl ?_ | (first
    | refine wC_a rfl ?_
    | refine q_s rfl ?_
    | refine q_b rfl ?_
    | refine wG_nil ?_
    | refine wG_g rfl ?_
    | refine wG_pure (o_len_vwm rfl) ?_
    | refine wG_pure (o_not_d rfl) ?_
    | refine wG_p rfl (by first | exact rfl | omega) ?_
    | refine wG_pure (o_not rfl) ?_
    | refine wG_pure (e_ia_vwi rfl rfl (by omega) rfl) ?_
    | refine wG_pure (e_ia_vwn rfl rfl (by omega) (by omega) rfl) ?_
    | refine wG_n rfl rfl ?_
    | refine wG_u rfl rfl ?_
    | refine wG_new (o_mks rfl rfl (by omega) (by decide)) ?_) | (refine wG_gd rfl (fun hgt => ?_) (fun hgf => ?_) <;> (first | simp only [eq_true hgt, decide_true] | simp only [eq_false hgf, decide_false])) | refine wC_cond_d rfl (fun hg => ?_) (fun hg => ?_))
  all_goals (refine ret_boolE (.inr rfl) ?_; refine ⟨_, retV_mv rfl, ?_⟩; simp [okM, *])

theorem con62 (p : Ms) : Con Try.prog 62 true [.agg (msRow p)] (.bool (decide (¬ okM p))) [] := by
  refine con_of_wp mixed fun62 (by simp) [] plain_nil ?_
  unfold ac62 ro62
  simp only [zipT]
  repeat' (first | refine wG_call (con40 _) rfl rfl ?_ | (first
    | refine wC_a rfl ?_
    | refine q_s rfl ?_
    | refine q_b rfl ?_
    | refine wG_nil ?_
    | refine wG_g rfl ?_
    | refine wG_pure (o_len_vwm rfl) ?_
    | refine wG_pure (o_not_d rfl) ?_
    | refine wG_p rfl (by first | exact rfl | omega) ?_
    | refine wG_pure (o_not rfl) ?_
    | refine wG_pure (e_ia_vwi rfl rfl (by omega) rfl) ?_
    | refine wG_pure (e_ia_vwn rfl rfl (by omega) (by omega) rfl) ?_
    | refine wG_n rfl rfl ?_
    | refine wG_u rfl rfl ?_
    | refine wG_new (o_mks rfl rfl (by omega) (by decide)) ?_) | (refine wG_gd rfl (fun hgt => ?_) (fun hgf => ?_) <;> (first | simp only [eq_true hgt, decide_true] | simp only [eq_false hgf, decide_false])) | refine wC_cond_d rfl (fun hg => ?_) (fun hg => ?_))
  all_goals (refine ret_boolE (.inr rfl) ?_; refine ⟨_, retV_mv rfl, ?_⟩; simp [*])
/-- The first that is none. -/
def bad (xs : List Ms) : Int := if (∀ j, j < xs.length → okM (xs.getD j default)) then -1 else (xs.findIdx fun p => decide (¬ okM p) : Nat)
theorem con68 (nn : Bool) (xs : List Ms) (hlen : xs.length ≤ 1048576) : Con Try.prog 68 true [.vw nn (xs.map msRow), .fn 62 []] (.int .i64 (bad xs)) [] := by
  refine con_of_wp mixed fun68 (by simp) [] plain_nil ?_
  unfold ac68 ro68
  simp only [zipT]
  repeat (first
    | refine wC_a rfl ?_
    | refine q_s rfl ?_
    | refine q_b rfl ?_
    | refine wG_nil ?_
    | refine wG_g rfl ?_
    | refine wG_pure (o_len_vwm rfl) ?_
    | refine wG_pure (o_not_d rfl) ?_
    | refine wG_p rfl (by first | exact rfl | omega) ?_
    | refine wG_pure (o_not rfl) ?_
    | refine wG_pure (e_ia_vwi rfl rfl (by omega) rfl) ?_
    | refine wG_pure (e_ia_vwn rfl rfl (by omega) (by omega) rfl) ?_
    | refine wG_n rfl rfl ?_
    | refine wG_u rfl rfl ?_
    | refine wG_new (o_mks rfl rfl (by omega) (by decide)) ?_)
  refine wC_loop Nat (fun i => ⟨[(0, .vw nn (xs.map msRow)), (1, .fn 62 []), (7, .int .i64 (xs.length : Int)), (8, .int .i64 (i : Int))], [], 0⟩) (fun i => i ≤ xs.length ∧ ∀ j, j < i → okM (xs.getD j default)) (fun i => xs.length - i) 0 ⟨Nat.zero_le _, fun j hj => absurd hj (Nat.not_lt_zero _)⟩ ?_ (fun _ _ => Nat.le_refl _) ?_
  · simp [LeP, leT, leH, lk, AV.ltr, ltrL]
  rintro i ⟨hi, hok⟩
  repeat (first
    | refine wC_a rfl ?_
    | refine q_s rfl ?_
    | refine q_b rfl ?_
    | refine wG_nil ?_
    | refine wG_g rfl ?_
    | refine wG_pure (o_len_vwm rfl) ?_
    | refine wG_pure (o_not_d rfl) ?_
    | refine wG_p rfl (by first | exact rfl | omega) ?_
    | refine wG_pure (o_not rfl) ?_
    | refine wG_pure (e_ia_vwi rfl rfl (by omega) rfl) ?_
    | refine wG_pure (e_ia_vwn rfl rfl (by omega) (by omega) rfl) ?_
    | refine wG_n rfl rfl ?_
    | refine wG_u rfl rfl ?_
    | refine wG_new (o_mks rfl rfl (by omega) (by decide)) ?_)
  refine wC_cond_d rfl (fun h2 => ?_) (fun h2 => ?_)
  · have hi2 : i < xs.length := by omega
    repeat' (first | refine wG_callv rfl (con62 _) rfl rfl ?_ | (first
    | refine wC_a rfl ?_
    | refine q_s rfl ?_
    | refine q_b rfl ?_
    | refine wG_nil ?_
    | refine wG_g rfl ?_
    | refine wG_pure (o_len_vwm rfl) ?_
    | refine wG_pure (o_not_d rfl) ?_
    | refine wG_p rfl (by first | exact rfl | omega) ?_
    | refine wG_pure (o_not rfl) ?_
    | refine wG_pure (e_ia_vwi rfl rfl (by omega) rfl) ?_
    | refine wG_pure (e_ia_vwn rfl rfl (by omega) (by omega) rfl) ?_
    | refine wG_n rfl rfl ?_
    | refine wG_u rfl rfl ?_
    | refine wG_new (o_mks rfl rfl (by omega) (by decide)) ?_) | (refine wG_gd rfl (fun hgt => ?_) (fun hgf => ?_) <;> (first | simp only [eq_true hgt, decide_true] | simp only [eq_false hgf, decide_false])) | refine wC_cond_d rfl (fun hg => ?_) (fun hg => ?_))
    · refine ret_intE (.inr rfl) ?_
      refine ⟨_, retV_mv rfl, ?_⟩
      have hb : ¬ okM (xs.getD i default) := ‹_›
      unfold bad
      rw [if_neg (fun hh => hb (hh i hi2))]
      congr 1
      refine ((List.findIdx_eq hi2).2 ⟨?_, fun j hj => ?_⟩).symm
      · simpa [List.getD_eq_getElem?_getD, List.getElem?_eq_getElem hi2] using hb
      · have := hok j hj
        simpa [List.getD_eq_getElem?_getD, List.getElem?_eq_getElem (show j < xs.length by omega)] using this
    · refine ⟨i + 1, ⟨by omega, fun j hj => ?_⟩, by omega, by simp [LeP, leT, leH, lk, AV.ltr, ltrL]⟩
      rcases Nat.lt_or_ge j i with hji | hji
      · exact hok j hji
      · obtain rfl : j = i := by omega
        exact Decidable.not_not.1 ‹_›
  · have hi3 : i = xs.length := by omega
    subst hi3
    repeat (first
    | refine wC_a rfl ?_
    | refine q_s rfl ?_
    | refine q_b rfl ?_
    | refine wG_nil ?_
    | refine wG_g rfl ?_
    | refine wG_pure (o_len_vwm rfl) ?_
    | refine wG_pure (o_not_d rfl) ?_
    | refine wG_p rfl (by first | exact rfl | omega) ?_
    | refine wG_pure (o_not rfl) ?_
    | refine wG_pure (e_ia_vwi rfl rfl (by omega) rfl) ?_
    | refine wG_pure (e_ia_vwn rfl rfl (by omega) (by omega) rfl) ?_
    | refine wG_n rfl rfl ?_
    | refine wG_u rfl rfl ?_
    | refine wG_new (o_mks rfl rfl (by omega) (by decide)) ?_)
    refine ret_intE (.inr rfl) ?_
    refine ⟨_, retV_mv rfl, ?_⟩
    unfold bad
    rw [if_pos hok]
end Go.Proofs.Ytkkcplcgafndgaa.Msr
