/- Lists of at most six measurements; placing a row of samples: the function that is handed on, and both sides. -/
import Derived.Test.YtkkcplcgafndgaaWigA
import Derived.Test.YtkkcplcgafndgaaWigB
namespace Go.Proofs.Ytkkcplcgafndgaa.Msr
open Go Go.Proofs.Ytkkcplcgafndgaa.Ab Go.Proofs.Ytkkcplcgafndgaa.Il
attribute [local irreducible] wpO wpC wpDr wpQ wpG wpE stepA seqQ blkQ Ret ev
set_option maxRecDepth 10000
set_option maxHeartbeats 8000000
set_option linter.unusedSimpArgs false
set_option linter.unusedVariables false

theorem bad_ge (xs : List Ms) : bad xs ≥ 0 ↔ ¬ ∀ j, j < xs.length → okM (xs.getD j default) := by
  unfold bad
  split
  · rename_i h; constructor
    · intro h2; omega
    · intro h2; exact absurd h h2
  · rename_i h; constructor
    · intro _; exact h
    · intro _; exact Int.natCast_nonneg _
theorem con61 (nn : Bool) (xs : List Ms) (hlen : xs.length ≤ 1048576) : Con Try.prog 61 true [.vw nn (xs.map msRow), .fn 62 []] (.bool (decide (¬ ∀ j, j < xs.length → okM (xs.getD j default)))) [] := by
  refine con_of_wp mixed fun61 (by simp) [] plain_nil ?_
  unfold ac61 ro61
  simp only [zipT]
  repeat' (first | refine wG_call (con68 nn xs hlen) rfl rfl ?_ | (first
    | refine wC_a rfl ?_
    | refine q_s rfl ?_
    | refine q_b rfl ?_
    | refine wG_nil ?_
    | refine wG_g rfl ?_
    | refine wG_pure (o_len_vwm rfl) ?_
    | refine wG_pure (o_not_d rfl) ?_
    | refine wG_p rfl (by first | exact rfl | omega) ?_
    | refine wG_pure (o_not rfl) ?_
    | refine wG_pure (e_ia_vw0 rfl rfl (by omega) rfl) ?_
    | refine wG_pure (e_ia_vwp rfl rfl (by omega) rfl) ?_
    | refine wG_pure (e_ia_vwm rfl rfl (by omega) (by omega) rfl) ?_
    | refine wG_pure (e_ia_vwi rfl rfl (by omega) rfl) ?_
    | refine wG_pure (e_ia_vwn rfl rfl (by omega) (by omega) rfl) ?_
    | refine wG_n rfl rfl ?_
    | refine wG_u rfl rfl ?_
    | refine wG_new (o_mks rfl rfl (by omega) (by decide)) ?_) | (refine wG_gd rfl (fun hgt => ?_) (fun hgf => ?_) <;> (first | simp only [eq_true hgt, decide_true] | simp only [eq_false hgf, decide_false])) | refine wC_cond_d rfl (fun hg => ?_) (fun hg => ?_))
  refine ret_boolE (.inr rfl) ?_
  refine ⟨_, retV_mv rfl, ?_⟩
  exact decide_eq_decide.2 (bad_ge xs)
def AllM (xs : List Ms) : Prop := (1 ≤ xs.length ∧ xs.length ≤ 10) ∧ ∀ j, j < xs.length → okM (xs.getD j default)
instance (xs : List Ms) : Decidable (AllM xs) := by unfold AllM; exact inferInstance
def AllM6 (xs : List Ms) : Prop := (1 ≤ xs.length ∧ xs.length ≤ 6) ∧ ∀ j, j < xs.length → okM (xs.getD j default)
instance (xs : List Ms) : Decidable (AllM6 xs) := by unfold AllM6; exact inferInstance
theorem con47_6 (nn : Bool) (xs : List Ms) (hlen : xs.length ≤ 1048576) : Con Try.prog 47 true [.vw nn (xs.map msRow), .int .i64 6] (.bool (decide (AllM6 xs))) [] := by
  refine con_of_wp mixed fun47 (by simp) [] plain_nil ?_
  unfold ac47 ro47
  simp only [zipT]
  repeat' (first | refine wG_call (con32 _ _ _) rfl rfl ?_ | refine wG_call (con61 nn xs hlen) rfl rfl ?_ | (first
    | refine wC_a rfl ?_
    | refine q_s rfl ?_
    | refine q_b rfl ?_
    | refine wG_nil ?_
    | refine wG_g rfl ?_
    | refine wG_pure (o_len_vwm rfl) ?_
    | refine wG_pure (o_not_d rfl) ?_
    | refine wG_p rfl (by first | exact rfl | omega) ?_
    | refine wG_pure (o_not rfl) ?_
    | refine wG_pure (e_ia_vw0 rfl rfl (by omega) rfl) ?_
    | refine wG_pure (e_ia_vwp rfl rfl (by omega) rfl) ?_
    | refine wG_pure (e_ia_vwm rfl rfl (by omega) (by omega) rfl) ?_
    | refine wG_pure (e_ia_vwi rfl rfl (by omega) rfl) ?_
    | refine wG_pure (e_ia_vwn rfl rfl (by omega) (by omega) rfl) ?_
    | refine wG_n rfl rfl ?_
    | refine wG_u rfl rfl ?_
    | refine wG_new (o_mks rfl rfl (by omega) (by decide)) ?_) | (refine wG_gd rfl (fun hgt => ?_) (fun hgf => ?_) <;> (first | simp only [eq_true hgt, decide_true] | simp only [eq_false hgf, decide_false])) | refine wC_cond_d rfl (fun hg => ?_) (fun hg => ?_))
  · refine ret_boolE (.inr rfl) ?_
    refine ⟨_, retV_mv rfl, ?_⟩
    refine decide_eq_decide.2 ⟨fun h => ⟨by omega, Decidable.not_not.1 h⟩, fun h h2 => h2 h.2⟩
  · refine ret_boolE (.inr rfl) ?_
    refine ⟨_, retV_mv rfl, ?_⟩
    refine Eq.symm (decide_eq_false fun h => ?_)
    have := h.1
    omega
theorem con46 (nn : Bool) (xs : List Ms) (hlen : xs.length ≤ 1048576) : Con Try.prog 46 true [.vw nn (xs.map msRow)] (.bool (decide (AllM xs))) [] := by
  refine con_of_wp mixed fun46 (by simp) [] plain_nil ?_
  unfold ac46 ro46
  simp only [zipT]
  repeat (first
    | refine wC_a rfl ?_
    | refine q_s rfl ?_
    | refine q_b rfl ?_
    | refine wG_nil ?_
    | refine wG_g rfl ?_
    | refine wG_pure (o_len_vwm rfl) ?_
    | refine wG_pure (o_not_d rfl) ?_
    | refine wG_p rfl (by first | exact rfl | omega) ?_
    | refine wG_pure (o_not rfl) ?_
    | refine wG_pure (e_ia_vw0 rfl rfl (by omega) rfl) ?_
    | refine wG_pure (e_ia_vwp rfl rfl (by omega) rfl) ?_
    | refine wG_pure (e_ia_vwm rfl rfl (by omega) (by omega) rfl) ?_
    | refine wG_pure (e_ia_vwi rfl rfl (by omega) rfl) ?_
    | refine wG_pure (e_ia_vwn rfl rfl (by omega) (by omega) rfl) ?_
    | refine wG_n rfl rfl ?_
    | refine wG_u rfl rfl ?_
    | refine wG_new (o_mks rfl rfl (by omega) (by decide)) ?_)
  refine wC_loop Nat (fun i => ⟨[(0, .vw nn (xs.map msRow)), (3, .int .i64 (i : Int))], [], 0⟩) (fun i => i ≤ xs.length ∧ i ≤ 11 ∧ ∀ j, j < i → okM (xs.getD j default)) (fun i => xs.length - i) 0 ⟨Nat.zero_le _, Nat.zero_le _, fun j hj => absurd hj (Nat.not_lt_zero _)⟩ ?_ (fun _ _ => Nat.le_refl _) ?_
  · simp [LeP, leT, leH, lk, AV.ltr]
  rintro i ⟨hi, hi11, hok⟩
  repeat (first
    | refine wC_a rfl ?_
    | refine q_s rfl ?_
    | refine q_b rfl ?_
    | refine wG_nil ?_
    | refine wG_g rfl ?_
    | refine wG_pure (o_len_vwm rfl) ?_
    | refine wG_pure (o_not_d rfl) ?_
    | refine wG_p rfl (by first | exact rfl | omega) ?_
    | refine wG_pure (o_not rfl) ?_
    | refine wG_pure (e_ia_vw0 rfl rfl (by omega) rfl) ?_
    | refine wG_pure (e_ia_vwp rfl rfl (by omega) rfl) ?_
    | refine wG_pure (e_ia_vwm rfl rfl (by omega) (by omega) rfl) ?_
    | refine wG_pure (e_ia_vwi rfl rfl (by omega) rfl) ?_
    | refine wG_pure (e_ia_vwn rfl rfl (by omega) (by omega) rfl) ?_
    | refine wG_n rfl rfl ?_
    | refine wG_u rfl rfl ?_
    | refine wG_new (o_mks rfl rfl (by omega) (by decide)) ?_)
  refine wG_gd rfl (fun hgt => ?_) (fun hgf => ?_)
  · simp only [eq_true hgt, decide_true]
    repeat (first
    | refine wC_a rfl ?_
    | refine q_s rfl ?_
    | refine q_b rfl ?_
    | refine wG_nil ?_
    | refine wG_g rfl ?_
    | refine wG_pure (o_len_vwm rfl) ?_
    | refine wG_pure (o_not_d rfl) ?_
    | refine wG_p rfl (by first | exact rfl | omega) ?_
    | refine wG_pure (o_not rfl) ?_
    | refine wG_pure (e_ia_vw0 rfl rfl (by omega) rfl) ?_
    | refine wG_pure (e_ia_vwp rfl rfl (by omega) rfl) ?_
    | refine wG_pure (e_ia_vwm rfl rfl (by omega) (by omega) rfl) ?_
    | refine wG_pure (e_ia_vwi rfl rfl (by omega) rfl) ?_
    | refine wG_pure (e_ia_vwn rfl rfl (by omega) (by omega) rfl) ?_
    | refine wG_n rfl rfl ?_
    | refine wG_u rfl rfl ?_
    | refine wG_new (o_mks rfl rfl (by omega) (by decide)) ?_)
    refine wC_cond_d rfl (fun h2 => ?_) (fun h2 => ?_)
    · have hi2 : i < xs.length := by omega
      repeat' (first | refine wG_call (con36 _) rfl rfl ?_ | (first
    | refine wC_a rfl ?_
    | refine q_s rfl ?_
    | refine q_b rfl ?_
    | refine wG_nil ?_
    | refine wG_g rfl ?_
    | refine wG_pure (o_len_vwm rfl) ?_
    | refine wG_pure (o_not_d rfl) ?_
    | refine wG_p rfl (by first | exact rfl | omega) ?_
    | refine wG_pure (o_not rfl) ?_
    | refine wG_pure (e_ia_vw0 rfl rfl (by omega) rfl) ?_
    | refine wG_pure (e_ia_vwp rfl rfl (by omega) rfl) ?_
    | refine wG_pure (e_ia_vwm rfl rfl (by omega) (by omega) rfl) ?_
    | refine wG_pure (e_ia_vwi rfl rfl (by omega) rfl) ?_
    | refine wG_pure (e_ia_vwn rfl rfl (by omega) (by omega) rfl) ?_
    | refine wG_n rfl rfl ?_
    | refine wG_u rfl rfl ?_
    | refine wG_new (o_mks rfl rfl (by omega) (by decide)) ?_) | (refine wG_gd rfl (fun hgt => ?_) (fun hgf => ?_) <;> (first | simp only [eq_true hgt, decide_true] | simp only [eq_false hgf, decide_false])) | refine wC_cond_d rfl (fun hg => ?_) (fun hg => ?_))
      · refine ret_boolE (.inr rfl) ?_
        refine ⟨_, retV_mv rfl, Eq.symm (decide_eq_false fun hh => ?_)⟩
        have := hh.2 i hi2
        contradiction
      · refine ⟨i + 1, ⟨by omega, by omega, fun j hj => ?_⟩, by omega, by simp [LeP, leT, leH, lk, AV.ltr]⟩
        rcases Nat.lt_or_ge j i with hji | hji
        · exact hok j hji
        · obtain rfl : j = i := by omega
          exact Decidable.not_not.1 ‹_›
    · repeat' (first | refine wG_call (con27 _ _ _) rfl rfl ?_ | (first
    | refine wC_a rfl ?_
    | refine q_s rfl ?_
    | refine q_b rfl ?_
    | refine wG_nil ?_
    | refine wG_g rfl ?_
    | refine wG_pure (o_len_vwm rfl) ?_
    | refine wG_pure (o_not_d rfl) ?_
    | refine wG_p rfl (by first | exact rfl | omega) ?_
    | refine wG_pure (o_not rfl) ?_
    | refine wG_pure (e_ia_vw0 rfl rfl (by omega) rfl) ?_
    | refine wG_pure (e_ia_vwp rfl rfl (by omega) rfl) ?_
    | refine wG_pure (e_ia_vwm rfl rfl (by omega) (by omega) rfl) ?_
    | refine wG_pure (e_ia_vwi rfl rfl (by omega) rfl) ?_
    | refine wG_pure (e_ia_vwn rfl rfl (by omega) (by omega) rfl) ?_
    | refine wG_n rfl rfl ?_
    | refine wG_u rfl rfl ?_
    | refine wG_new (o_mks rfl rfl (by omega) (by decide)) ?_) | (refine wG_gd rfl (fun hgt => ?_) (fun hgf => ?_) <;> (first | simp only [eq_true hgt, decide_true] | simp only [eq_false hgf, decide_false])) | refine wC_cond_d rfl (fun hg => ?_) (fun hg => ?_))
      refine ret_boolE (.inr rfl) ?_
      refine ⟨_, retV_mv rfl, ?_⟩
      refine decide_eq_decide.2 ⟨fun h => by omega, fun h => by have := h.1; omega⟩
  · simp only [eq_false hgf, decide_false]
    have hi3 : i = xs.length := by omega
    subst hi3
    repeat' (first | refine wG_call (con27 _ _ _) rfl rfl ?_ | (first
    | refine wC_a rfl ?_
    | refine q_s rfl ?_
    | refine q_b rfl ?_
    | refine wG_nil ?_
    | refine wG_g rfl ?_
    | refine wG_pure (o_len_vwm rfl) ?_
    | refine wG_pure (o_not_d rfl) ?_
    | refine wG_p rfl (by first | exact rfl | omega) ?_
    | refine wG_pure (o_not rfl) ?_
    | refine wG_pure (e_ia_vw0 rfl rfl (by omega) rfl) ?_
    | refine wG_pure (e_ia_vwp rfl rfl (by omega) rfl) ?_
    | refine wG_pure (e_ia_vwm rfl rfl (by omega) (by omega) rfl) ?_
    | refine wG_pure (e_ia_vwi rfl rfl (by omega) rfl) ?_
    | refine wG_pure (e_ia_vwn rfl rfl (by omega) (by omega) rfl) ?_
    | refine wG_n rfl rfl ?_
    | refine wG_u rfl rfl ?_
    | refine wG_new (o_mks rfl rfl (by omega) (by decide)) ?_) | (refine wG_gd rfl (fun hgt => ?_) (fun hgf => ?_) <;> (first | simp only [eq_true hgt, decide_true] | simp only [eq_false hgf, decide_false])) | refine wC_cond_d rfl (fun hg => ?_) (fun hg => ?_))
    refine ret_boolE (.inr rfl) ?_
    refine ⟨_, retV_mv rfl, ?_⟩
    refine decide_eq_decide.2 ⟨fun h => ⟨by omega, hok⟩, fun h => by have := h.1; omega⟩
end Go.Proofs.Ytkkcplcgafndgaa.Msr
namespace Go.Proofs.Ytkkcplcgafndgaa.Cal
open Go Go.Proofs.Ytkkcplcgafndgaa Go.Proofs.Ytkkcplcgafndgaa.Ab Go.Proofs.Ytkkcplcgafndgaa.Il Go.Proofs.Ytkkcplcgafndgaa.Msr Go.Proofs.Ytkkcplcgafndgaa.Dst
attribute [local irreducible] wpO wpC wpDr wpQ wpG wpE stepA seqQ blkQ Ret ev
set_option maxRecDepth 10000
set_option maxHeartbeats 8000000
set_option linter.unusedSimpArgs false
set_option linter.unusedVariables false
def ac22 : AC := (.seq (.reg [⟨(some 6), none, (.alloc [(.int .i64 0), .nilS])⟩, ⟨(some 7), none, (.mv (.c (.bool false)))⟩]) (.seq (.seq (.reg [⟨(some 14), none, (.mv (.t 0))⟩, ⟨(some 15), none, (.call 35 [(.t 14)])⟩, ⟨(some 16), none, (.un .not (.t 15))⟩, ⟨(some 17), none, (.mv (.t 16))⟩, ⟨(some 18), (some (17, false)), (.mv (.t 1))⟩, ⟨(some 19), (some (17, false)), (.call 46 [(.t 18)])⟩, ⟨(some 20), (some (17, false)), (.un .not (.t 19))⟩, ⟨(some 21), none, (.pick (.t 17) (.c (.bool true)) (.t 20))⟩, ⟨(some 22), none, (.mv (.t 21))⟩, ⟨(some 23), (some (22, false)), (.mv (.t 1))⟩, ⟨(some 24), (some (22, false)), (.len (.t 23))⟩, ⟨(some 25), (some (22, false)), (.bin .gtr (.t 24) (.c (.int .i64 6)))⟩, ⟨(some 26), none, (.pick (.t 22) (.c (.bool true)) (.t 25))⟩, ⟨(some 27), none, (.mv (.t 26))⟩, ⟨(some 28), (some (27, false)), (.mv (.t 2))⟩, ⟨(some 29), (some (27, false)), (.len (.t 28))⟩, ⟨(some 30), (some (27, false)), (.mv (.t 1))⟩, ⟨(some 31), (some (27, false)), (.len (.t 30))⟩, ⟨(some 32), (some (27, false)), (.bin .sub (.t 31) (.c (.int .i64 1)))⟩, ⟨(some 33), (some (27, false)), (.bin .neq (.t 29) (.t 32))⟩, ⟨(some 34), none, (.pick (.t 27) (.c (.bool true)) (.t 33))⟩]) (.cond (.t 34) (.seq (.reg [⟨(some 35), none, (.build [(.int .i64 0), .nilS] [])⟩, ⟨none, none, (.st 2 (.t 6) (.t 35))⟩, ⟨(some 7), none, (.mv (.c (.bool false)))⟩]) .ret) .skip)) (.seq (.seq (.reg [⟨(some 8), none, (.mv (.c (.int .i64 0)))⟩]) (.blk 0 (.loop (.seq (.seq (.reg [⟨(some 36), none, (.mv (.t 8))⟩, ⟨(some 37), none, (.mv (.t 2))⟩, ⟨(some 38), none, (.len (.t 37))⟩, ⟨(some 39), none, (.bin .lss (.t 36) (.t 38))⟩]) (.cond (.t 39) .skip (.exit 0))) (.seq (.blk 1 (.seq (.reg [⟨(some 42), none, (.mv (.t 2))⟩, ⟨(some 43), none, (.mv (.t 8))⟩, ⟨(some 44), none, (.ia 1 (.t 42) (.t 43))⟩, ⟨(some 45), none, (.ld false 1 (.t 44))⟩, ⟨(some 46), none, (.call 27 [(.t 45), (.c (.int .i64 0)), (.c (.int .i64 100))])⟩, ⟨(some 47), none, (.un .not (.t 46))⟩]) (.cond (.t 47) (.seq (.reg [⟨(some 48), none, (.build [(.int .i64 0), .nilS] [])⟩, ⟨none, none, (.st 2 (.t 6) (.t 48))⟩, ⟨(some 7), none, (.mv (.c (.bool false)))⟩]) .ret) .skip))) (.reg [⟨(some 40), none, (.mv (.t 8))⟩, ⟨(some 41), none, (.bin .add (.t 40) (.c (.int .i64 1)))⟩, ⟨(some 8), none, (.mv (.t 41))⟩])))))) (.seq (.reg [⟨(some 49), none, (.bsl 1 [(.int .i64 0)] 0 [])⟩, ⟨(some 9), none, (.mv (.t 49))⟩]) (.seq (.seq (.reg [⟨(some 50), none, (.mv (.t 0))⟩, ⟨(some 51), none, (.ia 3 (.t 50) (.c (.int .i64 0)))⟩, ⟨(some 52), none, (.fa 0 (.t 51))⟩, ⟨(some 53), none, (.ld false 1 (.t 52))⟩, ⟨(some 10), none, (.mv (.t 53))⟩]) (.blk 2 (.loop (.seq (.seq (.reg [⟨(some 54), none, (.mv (.t 10))⟩, ⟨(some 55), none, (.mv (.t 0))⟩, ⟨(some 56), none, (.mv (.t 0))⟩, ⟨(some 57), none, (.len (.t 56))⟩, ⟨(some 58), none, (.bin .sub (.t 57) (.c (.int .i64 1)))⟩, ⟨(some 59), none, (.ia 3 (.t 55) (.t 58))⟩, ⟨(some 60), none, (.fa 0 (.t 59))⟩, ⟨(some 61), none, (.ld false 1 (.t 60))⟩, ⟨(some 62), none, (.bin .leq (.t 54) (.t 61))⟩]) (.cond (.t 62) .skip (.exit 2))) (.seq (.blk 3 (.seq (.reg [⟨(some 11), none, (.mv (.c (.int .i64 1)))⟩]) (.seq (.reg [⟨(some 65), none, (.mv (.t 10))⟩, ⟨(some 12), none, (.mv (.t 65))⟩]) (.seq (.seq (.reg [⟨(some 13), none, (.mv (.c (.int .i64 0)))⟩]) (.blk 4 (.loop (.seq (.seq (.reg [⟨(some 66), none, (.mv (.t 13))⟩, ⟨(some 67), none, (.mv (.t 1))⟩, ⟨(some 68), none, (.len (.t 67))⟩, ⟨(some 69), none, (.bin .lss (.t 66) (.t 68))⟩]) (.cond (.t 69) .skip (.exit 4))) (.seq (.blk 5 (.seq (.seq (.reg [⟨(some 72), none, (.mv (.t 13))⟩, ⟨(some 73), none, (.bin .gtr (.t 72) (.c (.int .i64 0)))⟩]) (.cond (.t 73) (.reg [⟨(some 74), none, (.mv (.t 12))⟩, ⟨(some 75), none, (.mv (.t 2))⟩, ⟨(some 76), none, (.mv (.t 13))⟩, ⟨(some 77), none, (.bin .sub (.t 76) (.c (.int .i64 1)))⟩, ⟨(some 78), none, (.ia 1 (.t 75) (.t 77))⟩, ⟨(some 79), none, (.ld false 1 (.t 78))⟩, ⟨(some 80), none, (.bin .add (.t 74) (.t 79))⟩, ⟨(some 12), none, (.mv (.t 80))⟩]) .skip)) (.seq (.reg [⟨(some 81), none, (.mv (.t 11))⟩, ⟨(some 82), none, (.mv (.t 0))⟩, ⟨(some 83), none, (.mv (.t 1))⟩, ⟨(some 84), none, (.mv (.t 13))⟩, ⟨(some 85), none, (.ia 2 (.t 83) (.t 84))⟩, ⟨(some 86), none, (.ld true 2 (.t 85))⟩, ⟨(some 87), none, (.mv (.t 12))⟩, ⟨(some 88), none, (.call 37 [(.t 82), (.t 86), (.t 87)])⟩, ⟨(some 89), none, (.bin .mul (.t 81) (.t 88))⟩, ⟨(some 11), none, (.mv (.t 89))⟩]) (.seq (.reg [⟨(some 90), none, (.mv (.t 11))⟩, ⟨(some 91), none, (.bin .gtr (.t 90) (.c (.int .i64 1000000000000)))⟩]) (.cond (.t 91) (.seq (.reg [⟨(some 92), none, (.build [(.int .i64 0), .nilS] [])⟩, ⟨none, none, (.st 2 (.t 6) (.t 92))⟩, ⟨(some 7), none, (.mv (.c (.bool false)))⟩]) .ret) .skip))))) (.reg [⟨(some 70), none, (.mv (.t 13))⟩, ⟨(some 71), none, (.bin .add (.t 70) (.c (.int .i64 1)))⟩, ⟨(some 13), none, (.mv (.t 71))⟩])))))) (.reg [⟨(some 93), none, (.mv (.t 9))⟩, ⟨(some 94), none, (.mv (.t 11))⟩, ⟨(some 95), none, (.bsl 1 [(.int .i64 0)] 1 [(0, (.t 94))])⟩, ⟨(some 96), none, (.app 1 8 [(.int .i64 0)] (.t 93) (.t 95))⟩, ⟨(some 9), none, (.mv (.t 96))⟩]))))) (.reg [⟨(some 63), none, (.mv (.t 10))⟩, ⟨(some 64), none, (.bin .add (.t 63) (.c (.int .i64 1)))⟩, ⟨(some 10), none, (.mv (.t 64))⟩])))))) (.seq (.reg [⟨(some 97), none, (.mv (.t 0))⟩, ⟨(some 98), none, (.ia 3 (.t 97) (.c (.int .i64 0)))⟩, ⟨(some 99), none, (.fa 0 (.t 98))⟩, ⟨(some 100), none, (.ld false 1 (.t 99))⟩, ⟨(some 101), none, (.mv (.t 9))⟩, ⟨(some 102), none, (.call 28 [(.t 100), (.t 101)])⟩, ⟨(some 103), none, (.ext (.t 102) 0)⟩, ⟨(some 104), none, (.ext (.t 102) 1)⟩, ⟨none, none, (.st 2 (.t 6) (.t 103))⟩, ⟨(some 7), none, (.mv (.t 104))⟩]) .ret))))))
def ro22 : List AOp := [(.ld true 2 (.t 6)), (.mv (.t 7))]
theorem fun22 : Fun Try.prog 22 105 ac22 ro22 := ⟨Try.f22, _, Try.func22, by kernel_rfl, rfl, rfl, by kernel_rfl, by kernel_rfl, by decide⟩
def ac24 : AC := (.seq (.reg [⟨(some 3), none, (.box 1 false (.t 0))⟩, ⟨(some 4), none, (.box 1 false (.t 1))⟩, ⟨(some 5), none, (.box 1 false (.t 2))⟩, ⟨(some 6), none, (.alloc [(.int .i64 0), .nilS])⟩, ⟨(some 7), none, (.mv (.c (.bool false)))⟩]) (.seq (.seq (.reg [⟨(some 13), none, (.ld false 1 (.t 3))⟩, ⟨(some 14), none, (.call 39 [(.t 13)])⟩, ⟨(some 15), none, (.un .not (.t 14))⟩, ⟨(some 16), none, (.mv (.t 15))⟩, ⟨(some 17), (some (16, false)), (.ld false 1 (.t 4))⟩, ⟨(some 18), (some (16, false)), (.call 47 [(.t 17), (.c (.int .i64 6))])⟩, ⟨(some 19), (some (16, false)), (.un .not (.t 18))⟩, ⟨(some 20), none, (.pick (.t 16) (.c (.bool true)) (.t 19))⟩, ⟨(some 21), none, (.mv (.t 20))⟩, ⟨(some 22), (some (21, false)), (.ld false 1 (.t 5))⟩, ⟨(some 23), (some (21, false)), (.len (.t 22))⟩, ⟨(some 24), (some (21, false)), (.ld false 1 (.t 4))⟩, ⟨(some 25), (some (21, false)), (.len (.t 24))⟩, ⟨(some 26), (some (21, false)), (.bin .sub (.t 25) (.c (.int .i64 1)))⟩, ⟨(some 27), (some (21, false)), (.bin .neq (.t 23) (.t 26))⟩, ⟨(some 28), none, (.pick (.t 21) (.c (.bool true)) (.t 27))⟩, ⟨(some 29), none, (.mv (.t 28))⟩, ⟨(some 30), (some (29, false)), (.ld false 1 (.t 5))⟩, ⟨(some 31), (some (29, false)), (.call 30 [(.t 30), (.c (.fn 48 []))])⟩, ⟨(some 32), none, (.pick (.t 29) (.c (.bool true)) (.t 31))⟩]) (.cond (.t 32) (.seq (.reg [⟨(some 33), none, (.build [(.int .i64 0), .nilS] [])⟩, ⟨none, none, (.st 2 (.t 6) (.t 33))⟩, ⟨(some 7), none, (.mv (.c (.bool false)))⟩]) .ret) .skip)) (.seq (.reg [⟨(some 8), none, (.alloc [(.bool false)])⟩, ⟨none, none, (.st 1 (.t 8) (.c (.bool false)))⟩]) (.seq (.reg [⟨(some 35), none, (.ld false 1 (.t 3))⟩, ⟨(some 36), none, (.call 41 [(.t 35)])⟩, ⟨(some 34), none, (.mv (.t 36))⟩, ⟨(some 37), none, (.ext (.t 34) 0)⟩, ⟨(some 38), none, (.ext (.t 34) 1)⟩, ⟨(some 9), none, (.mv (.t 37))⟩, ⟨(some 10), none, (.mv (.t 38))⟩]) (.seq (.reg [⟨(some 40), none, (.mv (.t 9))⟩, ⟨(some 41), none, (.mv (.t 10))⟩, ⟨(some 42), none, (.mkf 49 [(.t 4), (.t 3), (.t 5), (.t 8)])⟩, ⟨(some 43), none, (.call 42 [(.t 40), (.t 41), (.t 42)])⟩, ⟨(some 39), none, (.mv (.t 43))⟩, ⟨(some 44), none, (.ext (.t 39) 0)⟩, ⟨(some 45), none, (.ext (.t 39) 1)⟩, ⟨(some 11), none, (.alloc [(.int .i64 0), .nilS])⟩, ⟨none, none, (.st 2 (.t 11) (.t 44))⟩, ⟨(some 12), none, (.mv (.t 45))⟩]) (.seq (.seq (.reg [⟨(some 46), none, (.ld false 1 (.t 8))⟩, ⟨(some 47), none, (.mv (.t 46))⟩, ⟨(some 48), (some (47, false)), (.mv (.t 12))⟩, ⟨(some 49), (some (47, false)), (.un .not (.t 48))⟩, ⟨(some 50), none, (.pick (.t 47) (.c (.bool true)) (.t 49))⟩]) (.cond (.t 50) (.seq (.reg [⟨(some 51), none, (.build [(.int .i64 0), .nilS] [])⟩, ⟨none, none, (.st 2 (.t 6) (.t 51))⟩, ⟨(some 7), none, (.mv (.c (.bool false)))⟩]) .ret) .skip)) (.seq (.reg [⟨(some 52), none, (.ld true 2 (.t 11))⟩, ⟨none, none, (.st 2 (.t 6) (.t 52))⟩, ⟨(some 7), none, (.mv (.c (.bool true)))⟩]) .ret)))))))
def ro24 : List AOp := [(.ld true 2 (.t 6)), (.mv (.t 7))]
theorem fun24 : Fun Try.prog 24 53 ac24 ro24 := ⟨Try.f24, _, Try.func24, by kernel_rfl, rfl, rfl, by kernel_rfl, by kernel_rfl, by decide⟩
def ac48 : AC := (.seq (.reg [⟨(some 2), none, (.mv (.c (.bool false)))⟩]) (.seq (.reg [⟨(some 3), none, (.mv (.t 0))⟩, ⟨(some 4), none, (.call 32 [(.t 3), (.c (.int .i64 0)), (.c (.int .i64 100))])⟩, ⟨(some 5), none, (.un .not (.t 4))⟩, ⟨(some 2), none, (.mv (.t 5))⟩]) .ret))
def ro48 : List AOp := [(.mv (.t 2))]
theorem fun48 : Fun Try.prog 48 6 ac48 ro48 := ⟨Try.f48, _, Try.func48, by kernel_rfl, rfl, rfl, by kernel_rfl, by kernel_rfl, by decide⟩
def ac49 : AC := (.seq (.reg [⟨(some 6), none, (.mv (.c (.int .i64 0)))⟩]) (.seq (.reg [⟨(some 7), none, (.mv (.c (.int .i64 1)))⟩]) (.seq (.seq (.reg [⟨(some 10), none, (.ld false 1 (.t 1))⟩, ⟨(some 11), none, (.len (.t 10))⟩, ⟨(some 12), none, (.mv (.c (.int .i64 0)))⟩]) (.blk 0 (.loop (.seq (.reg [⟨(some 13), none, (.bin .lss (.t 12) (.t 11))⟩]) (.seq (.cond (.t 13) .skip (.exit 0)) (.seq (.blk 1 (.seq (.reg [⟨(some 14), none, (.mv (.t 12))⟩, ⟨(some 15), none, (.ia 2 (.t 10) (.t 12))⟩, ⟨(some 16), none, (.ld true 2 (.t 15))⟩, ⟨(some 9), none, (.alloc [(.int .i64 0), (.int .i64 0)])⟩, ⟨(some 8), none, (.mv (.t 14))⟩, ⟨none, none, (.st 2 (.t 9) (.t 16))⟩]) (.seq (.dreg [⟨(some 17), none, (.mv (.t 7))⟩, ⟨(some 18), none, (.ld false 1 (.t 2))⟩, ⟨(some 19), none, (.ld true 2 (.t 9))⟩, ⟨(some 20), none, (.mv (.t 0))⟩, ⟨(some 21), none, (.ld false 1 (.t 3))⟩, ⟨(some 22), none, (.mv (.t 8))⟩, ⟨(some 23), none, (.slc 1 (.t 21) none (some (.t 22)))⟩, ⟨(some 24), none, (.call 50 [(.t 23)])⟩, ⟨(some 25), none, (.bin .add (.t 20) (.t 24))⟩, ⟨(some 26), none, (.call 44 [(.t 18), (.t 19), (.t 25)])⟩, ⟨(some 27), none, (.bin .mul (.t 17) (.t 26))⟩, ⟨(some 7), none, (.mv (.t 27))⟩] [[], [], [], [], [], [], [4, 5], [4, 5, 6], [3, 4, 5, 6, 7], [1, 2, 3, 4, 5, 6, 7, 8], [0, 1, 2, 3, 4, 5, 6, 7, 8, 9], [0, 1, 2, 3, 4, 5, 6, 7, 8, 9, 10]]) (.seq (.reg [⟨(some 28), none, (.mv (.t 7))⟩, ⟨(some 29), none, (.bin .gtr (.t 28) (.c (.int .i64 1000000000000)))⟩]) (.cond (.t 29) (.seq (.reg [⟨none, none, (.st 1 (.t 4) (.c (.bool true)))⟩]) (.seq (.reg [⟨(some 6), none, (.mv (.c (.int .i64 0)))⟩]) .ret)) .skip))))) (.reg [⟨(some 30), none, (.bin .add (.t 12) (.c (.int .i64 1)))⟩, ⟨(some 12), none, (.mv (.t 30))⟩]))))))) (.seq (.reg [⟨(some 31), none, (.mv (.t 7))⟩, ⟨(some 6), none, (.mv (.t 31))⟩]) .ret))))
def ro49 : List AOp := [(.mv (.t 6))]
theorem fun49 : Fun Try.prog 49 32 ac49 ro49 := ⟨Try.f49, _, Try.func49, by kernel_rfl, rfl, rfl, by kernel_rfl, by kernel_rfl, by decide⟩

def okG (gs : List Int) : Prop := ∀ j, j < gs.length → 0 ≤ gs.getD j default ∧ gs.getD j default ≤ 100
theorem okG_tk {gs : List Int} (h : okG gs) (i : Nat) : bnd (gs.take i) 100 := fun j hj => by
  have hj2 := hj
  rw [List.length_take] at hj2
  have := h j (by omega)
  rw [List.getD_eq_getElem?_getD, List.getElem?_take] at *
  simpa [show j < i by omega] using this
theorem sm_g {gs : List Int} (h : okG gs) : ∀ i, i ≤ gs.length → 0 ≤ sm gs i ∧ sm gs i ≤ 100 * i := fun i hi => by
  have := sm_b (B := 100) (ws := gs) h i hi
  omega
def wcap : List AV := [.pt 1 0 0, .pt 0 0 0, .pt 2 0 0, .pt 4 0 0]
def wH (nn n2 n3 : Bool) (xs : List CP) (ms : List Ms) (gs : List Int) (s : Bool) : List (Nat × Option Ab.Rows) := [(4, some [[.bool s]]), (3, some [[.int .i64 0, .nilS]]), (2, some [[.vw n3 (gs.map iRow)]]), (1, some [[.vw n2 (ms.map msRow)]]), (0, some [[.vw nn (xs.map cpRow)]])]
open Classical in
noncomputable def stpW (xs : List CP) (ms : List Ms) (gs : List Int) (s : Bool) (y : Int) : Bool := if okY xs ms gs y then s else true
theorem wH_wf (nn n2 n3 : Bool) (xs : List CP) (ms : List Ms) (gs : List Int) (s : Bool) : wfH (wH nn n2 n3 xs ms gs s) 5 :=
  wfH_cons (by decide) (by simp [AV.ltr]) (wfH_cons (by decide) (by simp [AV.ltr]) (wfH_cons (by decide) (by simp [AV.ltr]) (wfH_cons (by decide) (by simp [AV.ltr]) (wfH_cons (by decide) (by simp [AV.ltr]) wfH_nil))))
theorem vis_W (nn n2 n3 : Bool) {xs : List CP} {ms : List Ms} {gs : List Int} (hG : Good xs) (hm : AllM6 ms) (hl : gs.length + 1 = ms.length) (hg' : okG gs) (s : Bool) (y : Int) (hy1 : -20000 ≤ y) (hy2 : y ≤ 2100) (r : Nat) (ws : List Int) (hr : 5 < r) :
    Sh Try.prog 49 ([.int .i64 y] ++ wcap) (tH 5 ws r (wH nn n2 n3 xs ms gs s)) (r + 1) (.int .i64 (wY xs ms gs y)) (tH 5 ws r (wH nn n2 n3 xs ms gs (stpW xs ms gs s y))) (r + 1) := by
  classical
  refine sh_of_wp mixed fun49 (by simp [wcap]) ?_
  unfold ac49 ro49 wcap
  simp only [zipT, List.cons_append, List.nil_append]
  have hlen := hm.1
  have hwf := fun s' => tH_wf (ws := ws) (r := r) (N := 5) (by omega) (wH_wf nn n2 n3 xs ms gs s')
  have g0 : ∀ s', hg (tH 5 ws r (wH nn n2 n3 xs ms gs s')) 0 = some [[.vw nn (xs.map cpRow)]] := fun s' => hg_skip (by omega) (hg_skip (by decide) rfl)
  have g1 : ∀ s', hg (tH 5 ws r (wH nn n2 n3 xs ms gs s')) 1 = some [[.vw n2 (ms.map msRow)]] := fun s' => hg_skip (by omega) (hg_skip (by decide) rfl)
  have g2 : ∀ s', hg (tH 5 ws r (wH nn n2 n3 xs ms gs s')) 2 = some [[.vw n3 (gs.map iRow)]] := fun s' => hg_skip (by omega) (hg_skip (by decide) rfl)
  have g4 : ∀ s', hg (tH 5 ws r (wH nn n2 n3 xs ms gs s')) 4 = some [[.bool s']] := fun s' => hg_skip (by omega) (hg_skip (by decide) rfl)
  repeat (first | refine wG_pure (o_ldf_pt rfl (g1 _) rfl rfl) ?_ | (first
    | refine wC_a rfl ?_
    | refine q_s rfl ?_
    | refine q_b rfl ?_
    | refine wG_nil ?_
    | refine wG_g rfl ?_
    | refine wG_pure (o_len_vwm rfl) ?_
    | refine wG_pure (o_not_d rfl) ?_
    | refine wG_p rfl (by first | exact rfl | omega) ?_
    | refine wG_pure (o_not rfl) ?_
    | refine wG_pure (e_ia_vw0 rfl rfl (by omega) rfl) ?_
    | refine wG_pure (e_ia_vwp rfl rfl (by omega) rfl) ?_
    | refine wG_pure (e_ia_vwm rfl rfl (by omega) (by omega) rfl) ?_
    | refine wG_pure (e_ia_vwi rfl rfl (by omega) rfl) ?_
    | refine wG_pure (e_ia_vwn rfl rfl (by omega) (by omega) rfl) ?_
    | refine wG_n rfl rfl ?_
    | refine wG_u rfl rfl ?_
    | refine wG_new (o_mks rfl rfl (by omega) (by decide)) ?_))
  refine wC_loopS Nat (fun i => ⟨[(0, .int .i64 y), (1, .pt 1 0 0), (2, .pt 0 0 0), (3, .pt 2 0 0), (4, .pt 4 0 0), (6, .int .i64 0), (7, .int .i64 (pw xs ms gs y i)), (10, .vw n2 (ms.map msRow)), (11, .int .i64 (ms.length : Int)), (12, .int .i64 (i : Int))], tH 5 ws r (wH nn n2 n3 xs ms gs s), r + 1⟩) (fun i => i ≤ ms.length ∧ ∀ j, j ≤ i → pw xs ms gs y j ≤ 1000000000000) (fun i => ms.length - i) 0 ⟨Nat.zero_le _, fun j hj => by
    obtain rfl : j = 0 := by omega
    show (1 : Int) ≤ 1000000000000
    decide⟩ ?_ (fun _ _ => Nat.le_refl _) ?_
  · exact Le_of ⟨⟨rfl, rfl⟩, ⟨rfl, by simp [AV.ltr] <;> omega⟩, ⟨rfl, by simp [AV.ltr] <;> omega⟩, ⟨rfl, by simp [AV.ltr] <;> omega⟩, ⟨rfl, by simp [AV.ltr] <;> omega⟩, ⟨rfl, rfl⟩, ⟨rfl, rfl⟩, ⟨rfl, rfl⟩, ⟨rfl, rfl⟩, ⟨rfl, rfl⟩, trivial⟩ (fun q rows hq => hq) (hwf _)
  rintro i ⟨hi, hok⟩
  repeat (first
    | refine wC_a rfl ?_
    | refine q_s rfl ?_
    | refine q_b rfl ?_
    | refine wG_nil ?_
    | refine wG_g rfl ?_
    | refine wG_pure (o_len_vwm rfl) ?_
    | refine wG_pure (o_not_d rfl) ?_
    | refine wG_p rfl (by first | exact rfl | omega) ?_
    | refine wG_pure (o_not rfl) ?_
    | refine wG_pure (e_ia_vw0 rfl rfl (by omega) rfl) ?_
    | refine wG_pure (e_ia_vwp rfl rfl (by omega) rfl) ?_
    | refine wG_pure (e_ia_vwm rfl rfl (by omega) (by omega) rfl) ?_
    | refine wG_pure (e_ia_vwi rfl rfl (by omega) rfl) ?_
    | refine wG_pure (e_ia_vwn rfl rfl (by omega) (by omega) rfl) ?_
    | refine wG_n rfl rfl ?_
    | refine wG_u rfl rfl ?_
    | refine wG_new (o_mks rfl rfl (by omega) (by decide)) ?_)
  refine wC_cond_d rfl (fun h2 => ?_) (fun h2 => ?_)
  · have hi2 : i < ms.length := by omega
    have hsg := sm_g hg' i (by omega)
    have c24 := con50 n3 ((gs.drop 0).take (i - 0)) (by simp; omega) (B := 100) (by rw [List.drop_zero, Nat.sub_zero]; exact okG_tk hg' i) (by decide) (by simp; omega)
    have e24 : sm ((gs.drop 0).take (i - 0)) ((gs.drop 0).take (i - 0)).length = sm gs i := by
      rw [List.drop_zero, Nat.sub_zero, List.length_take, Nat.min_eq_left (by omega)]
      exact sm_tk gs (by omega) i (Nat.le_refl _)
    rw [e24] at c24
    have c26 := con44 nn xs hG (ms.getD i default) (hm.2 i hi2) (y + sm gs i)
    have hp := pw_b hG hm.2 hi2 (hok i (Nat.le_refl _)) (gs := gs) (y := y)
    have hup : pw xs ms gs y (i + 1) = pw xs ms gs y i * wgt xs (ms.getD i default) (y + sm gs i) := rfl
    generalize wgt xs (ms.getD i default) (y + sm gs i) = w at *
    generalize pw xs ms gs y i = p at *
    unfold msRow at *
    repeat (first | refine wC_dregE ?_ | refine wE_v (o_ldf_pt rfl (hg_skip (by omega) (hg_skip (by omega) (g0 _))) rfl rfl) rfl ?_ | refine wE_v (o_ldf_pt rfl (hg_skip (by omega) (hg_skip (by omega) (g2 _))) rfl rfl) rfl ?_ | refine wE_v (o_ldt_pt rfl hg_here rfl rfl rfl) rfl ?_ | refine wE_v (o_slc_m rfl bd_n (bd_i rfl) (by omega) (by omega) (okI _)) rfl ?_ | refine wG_upd (o_st_agg rfl hg_here rfl rfl rfl rfl rfl) ?_ | refine wE_call c24 rfl rfl rfl ?_ | refine wE_call c26 rfl rfl rfl ?_ | (first
    | refine wC_a rfl ?_
    | refine q_s rfl ?_
    | refine q_b rfl ?_
    | refine wG_nil ?_
    | refine wG_g rfl ?_
    | refine wG_pure (o_len_vwm rfl) ?_
    | refine wG_pure (o_not_d rfl) ?_
    | refine wG_p rfl (by first | exact rfl | omega) ?_
    | refine wG_pure (o_not rfl) ?_
    | refine wG_pure (e_ia_vw0 rfl rfl (by omega) rfl) ?_
    | refine wG_pure (e_ia_vwp rfl rfl (by omega) rfl) ?_
    | refine wG_pure (e_ia_vwm rfl rfl (by omega) (by omega) rfl) ?_
    | refine wG_pure (e_ia_vwi rfl rfl (by omega) rfl) ?_
    | refine wG_pure (e_ia_vwn rfl rfl (by omega) (by omega) rfl) ?_
    | refine wG_n rfl rfl ?_
    | refine wG_u rfl rfl ?_
    | refine wG_new (o_mks rfl rfl (by omega) (by decide)) ?_) | (first
    | refine wE_nil (by kernel_rfl) ?_
    | refine wE_gy rfl ?_
    | refine wE_gn rfl rfl rfl ?_
    | refine wE_gu rfl rfl ?_
    | refine wE_gnn rfl rfl rfl ?_
    | refine wE_v (o_len_vwm rfl) rfl ?_
    | refine wE_v (o_not_d rfl) rfl ?_
    | refine wE_p rfl (by first | exact rfl | omega) rfl ?_
    | refine wE_v (o_not rfl) rfl ?_
    | refine wE_v (e_ia_vw0 rfl rfl (by omega) rfl) rfl ?_
    | refine wE_v (e_ia_vwp rfl rfl (by omega) rfl) rfl ?_
    | refine wE_v (e_ia_vwm rfl rfl (by omega) (by omega) rfl) rfl ?_
    | refine wE_v (e_ia_vwi rfl rfl (by omega) rfl) rfl ?_
    | refine wE_v (e_ia_vwn rfl rfl (by omega) (by omega) rfl) rfl ?_
    | refine wE_n rfl rfl rfl ?_
    | refine wE_u rfl rfl rfl ?_
    | refine wE_new (o_mks rfl rfl (by omega) (by decide)) rfl ?_))
    have hlt : ∀ s' q rows, hg (tH 5 ws r (wH nn n2 n3 xs ms gs s')) q = some rows → q < r + 1 := fun s' q rows h => (hwf s' q rows h).1
    refine wC_cond_d rfl (fun h3 => ?_) (fun h3 => ?_)
    · have hY : ¬ okY xs ms gs y := fun h => by
        have := h (i + 1) hi2
        rw [hup] at this
        omega
      have e1 : wY xs ms gs y = 0 := by unfold wY; rw [if_neg hY]
      have e2 : stpW xs ms gs s y = true := by unfold stpW; rw [if_neg hY]
      rw [e1, e2]
      repeat (first | refine wG_upd (o_st1 rfl (hg_skip (by omega) (hg_skip (by omega) (g4 _))) rfl rfl rfl rfl) ?_ | (first
    | refine wC_a rfl ?_
    | refine q_s rfl ?_
    | refine q_b rfl ?_
    | refine wG_nil ?_
    | refine wG_g rfl ?_
    | refine wG_pure (o_len_vwm rfl) ?_
    | refine wG_pure (o_not_d rfl) ?_
    | refine wG_p rfl (by first | exact rfl | omega) ?_
    | refine wG_pure (o_not rfl) ?_
    | refine wG_pure (e_ia_vw0 rfl rfl (by omega) rfl) ?_
    | refine wG_pure (e_ia_vwp rfl rfl (by omega) rfl) ?_
    | refine wG_pure (e_ia_vwm rfl rfl (by omega) (by omega) rfl) ?_
    | refine wG_pure (e_ia_vwi rfl rfl (by omega) rfl) ?_
    | refine wG_pure (e_ia_vwn rfl rfl (by omega) (by omega) rfl) ?_
    | refine wG_n rfl rfl ?_
    | refine wG_u rfl rfl ?_
    | refine wG_new (o_mks rfl rfl (by omega) (by decide)) ?_))
      refine ⟨trivial, _, retVs_1 (retV_mv rfl), Le_of ⟨⟨rfl, rfl⟩, trivial⟩ (fun q rows hq => ?_) (hwf _), Nat.le_refl _⟩
      have hql := hlt _ _ _ hq
      by_cases e : q = 4
      · subst e
        have hq2 := (g4 true).symm.trans hq
        rw [← hq2]; exact hg_here
      · have h5 : hg (tH 5 ws r (wH nn n2 n3 xs ms gs true)) q = hg (tH 5 ws r (wH nn n2 n3 xs ms gs s)) q := by
          simp only [tH, wH, Ab.hg, upd, if_neg e]
        rw [h5] at hq
        exact hg_skip e (hg_skip (by omega) (hg_skip (by omega) hq))
    · repeat (first
    | refine wC_a rfl ?_
    | refine q_s rfl ?_
    | refine q_b rfl ?_
    | refine wG_nil ?_
    | refine wG_g rfl ?_
    | refine wG_pure (o_len_vwm rfl) ?_
    | refine wG_pure (o_not_d rfl) ?_
    | refine wG_p rfl (by first | exact rfl | omega) ?_
    | refine wG_pure (o_not rfl) ?_
    | refine wG_pure (e_ia_vw0 rfl rfl (by omega) rfl) ?_
    | refine wG_pure (e_ia_vwp rfl rfl (by omega) rfl) ?_
    | refine wG_pure (e_ia_vwm rfl rfl (by omega) (by omega) rfl) ?_
    | refine wG_pure (e_ia_vwi rfl rfl (by omega) rfl) ?_
    | refine wG_pure (e_ia_vwn rfl rfl (by omega) (by omega) rfl) ?_
    | refine wG_n rfl rfl ?_
    | refine wG_u rfl rfl ?_
    | refine wG_new (o_mks rfl rfl (by omega) (by decide)) ?_)
      refine ⟨i + 1, ⟨hi2, fun j hj => ?_⟩, by omega, Le_of ⟨⟨rfl, rfl⟩, ⟨rfl, by simp [AV.ltr] <;> omega⟩, ⟨rfl, by simp [AV.ltr] <;> omega⟩, ⟨rfl, by simp [AV.ltr] <;> omega⟩, ⟨rfl, by simp [AV.ltr] <;> omega⟩, ⟨rfl, rfl⟩, ⟨by rw [hup]; rfl, rfl⟩, ⟨rfl, rfl⟩, ⟨rfl, rfl⟩, ⟨rfl, rfl⟩, trivial⟩ (fun q rows hq => ?_) (hwf _)⟩
      · rcases Nat.lt_or_ge j (i + 1) with h4 | h4
        · exact hok j (by omega)
        · obtain rfl : j = i + 1 := by omega
          rw [hup]; omega
      · have hql := hlt _ _ _ hq
        exact hg_skip (by omega) (hg_skip (by omega) hq)
  · have hi3 : i = ms.length := by omega
    subst hi3
    have hY : okY xs ms gs y := hok
    have e1 : wY xs ms gs y = pw xs ms gs y ms.length := by unfold wY; rw [if_pos hY]
    have e2 : stpW xs ms gs s y = s := by unfold stpW; rw [if_pos hY]
    rw [e1, e2]
    repeat (first
    | refine wC_a rfl ?_
    | refine q_s rfl ?_
    | refine q_b rfl ?_
    | refine wG_nil ?_
    | refine wG_g rfl ?_
    | refine wG_pure (o_len_vwm rfl) ?_
    | refine wG_pure (o_not_d rfl) ?_
    | refine wG_p rfl (by first | exact rfl | omega) ?_
    | refine wG_pure (o_not rfl) ?_
    | refine wG_pure (e_ia_vw0 rfl rfl (by omega) rfl) ?_
    | refine wG_pure (e_ia_vwp rfl rfl (by omega) rfl) ?_
    | refine wG_pure (e_ia_vwm rfl rfl (by omega) (by omega) rfl) ?_
    | refine wG_pure (e_ia_vwi rfl rfl (by omega) rfl) ?_
    | refine wG_pure (e_ia_vwn rfl rfl (by omega) (by omega) rfl) ?_
    | refine wG_n rfl rfl ?_
    | refine wG_u rfl rfl ?_
    | refine wG_new (o_mks rfl rfl (by omega) (by decide)) ?_)
    exact ⟨trivial, _, retVs_1 (retV_mv rfl), Le_of ⟨⟨rfl, rfl⟩, trivial⟩ (fun q rows hq => hq) (hwf _), Nat.le_refl _⟩
theorem con48 (w : Int) : Con Try.prog 48 true [.int .i64 w] (.bool (!decide (0 ≤ w ∧ w ≤ 100))) [] := by
  refine con_of_wp mixed fun48 (by simp) [] plain_nil ?_
  unfold ac48 ro48
  simp only [zipT]
  repeat (first | refine wG_call (con32 _ _ _) rfl rfl ?_ | (first
    | refine wC_a rfl ?_
    | refine q_s rfl ?_
    | refine q_b rfl ?_
    | refine wG_nil ?_
    | refine wG_g rfl ?_
    | refine wG_pure (o_len_vwm rfl) ?_
    | refine wG_pure (o_not_d rfl) ?_
    | refine wG_p rfl (by first | exact rfl | omega) ?_
    | refine wG_pure (o_not rfl) ?_
    | refine wG_pure (e_ia_vw0 rfl rfl (by omega) rfl) ?_
    | refine wG_pure (e_ia_vwp rfl rfl (by omega) rfl) ?_
    | refine wG_pure (e_ia_vwm rfl rfl (by omega) (by omega) rfl) ?_
    | refine wG_pure (e_ia_vwi rfl rfl (by omega) rfl) ?_
    | refine wG_pure (e_ia_vwn rfl rfl (by omega) (by omega) rfl) ?_
    | refine wG_n rfl rfl ?_
    | refine wG_u rfl rfl ?_
    | refine wG_new (o_mks rfl rfl (by omega) (by decide)) ?_))
  exact ret_boolE (.inr rfl) ⟨_, retV_mv rfl, decide_not⟩
theorem any_ok (gs : List Int) : gs.any (fun w => !decide (0 ≤ w ∧ w ≤ 100)) = false ↔ okG gs := by
  rw [List.any_eq_false]
  constructor
  · intro h j hj
    have := h (gs[j]) (List.getElem_mem hj)
    simp only [Bool.not_eq_true', Bool.not_eq_false, decide_eq_true_eq] at this
    simpa [List.getD_eq_getElem?_getD, List.getElem?_eq_getElem hj] using this
  · intro h x hx
    obtain ⟨j, hj, rfl⟩ := List.getElem_of_mem hx
    have := h j hj
    simpa [List.getD_eq_getElem?_getD, List.getElem?_eq_getElem hj] using this
/-! ### What both sides give -/
def wIn (xs : List CP) (ms : List Ms) (gs : List Int) : Prop := Good xs ∧ AllM6 ms ∧ gs.length + 1 = ms.length ∧ okG gs
noncomputable def wL (xs : List CP) (ms : List Ms) (gs : List Int) : List Int := tab (y0 xs) (wY xs ms gs) (nY (y0 xs) (y1 xs))
def wAll (xs : List CP) (ms : List Ms) (gs : List Int) : Prop := ∀ k : Nat, k < nY (y0 xs) (y1 xs) → okY xs ms gs (y0 xs + (k : Int))
def wOK (xs : List CP) (ms : List Ms) (gs : List Int) : Prop := wIn xs ms gs ∧ wAll xs ms gs ∧ mkOK (y0 xs) (wL xs ms gs)
theorem fS_f {xs : List CP} {ms : List Ms} {gs : List Int} {f : Int} : ∀ n, (∀ k : Nat, k < n → okY xs ms gs (f + (k : Int))) → fS (stpW xs ms gs) f false n = false
  | 0, _ => rfl
  | n + 1, h => by
    rw [fS, stpW, if_pos (h n (by omega))]
    exact fS_f n (fun k hk => h k (by omega))
theorem fS_t {xs : List CP} {ms : List Ms} {gs : List Int} {f : Int} : ∀ n, (¬ ∀ k : Nat, k < n → okY xs ms gs (f + (k : Int))) → fS (stpW xs ms gs) f false n = true
  | 0, h => absurd (fun k hk => absurd hk (Nat.not_lt_zero _)) h
  | n + 1, h => by
    rw [fS, stpW]
    split
    · rename_i hy
      refine fS_t n (fun h2 => h (fun k hk => ?_))
      rcases Nat.lt_or_ge k n with h3 | h3
      · exact h2 k h3
      · obtain rfl : k = n := by omega
        exact hy
    · rfl
theorem con24_all (nn n2 n3 : Bool) (xs : List CP) (ms : List Ms) (gs : List Int) (hlen : xs.length ≤ 1048576) (hlm : ms.length ≤ 1048576) (hlg : gs.length ≤ 1048576) (v : AV) (rs : List Nat) (objs : List Ab.Rows) (hv : v.nvf = true) (hp : PlainObjs objs)
    (hend : (wOK xs ms gs → v = dYes (mkO (y0 xs) (wL xs ms gs)) ∧ rs = [5 + 1 + 2 * nY (y0 xs) (y1 xs) + 1] ∧ objs = [(mkO (y0 xs) (wL xs ms gs)).ws.map iRow]) ∧ (¬ wOK xs ms gs → v = dNo ∧ rs = [] ∧ objs = [])) :
    Con Try.prog 24 true [.vw nn (xs.map cpRow), .vw n2 (ms.map msRow), .vw n3 (gs.map iRow)] v objs := by
  classical
  suffices key : Con Try.prog 24 v.nvf [.vw nn (xs.map cpRow), .vw n2 (ms.map msRow), .vw n3 (gs.map iRow)] v objs by rwa [hv] at key
  refine con_of_wp mixed fun24 (by simp) rs hp ?_
  unfold ac24 ro24
  simp only [zipT]
  have c1 := con39 nn xs hlen
  have c2 := con47_6 n2 ms hlm
  have c3 := con30 n3 gs hlg (f := 48) (caps := []) (fun w => !decide (0 ≤ w ∧ w ≤ 100)) (fun w => con48 w) (fun _ _ => rfl) rfl
  by_cases hA : Good xs
  · rw [decide_eq_true hA] at c1
    by_cases hB : AllM6 ms
    · rw [decide_eq_true hB] at c2
      have hB1 := hB.1
      by_cases hC : gs.length + 1 = ms.length
      · have dC : decide ((gs.length : Int) ≠ (ms.length : Int) - 1) = false := decide_eq_false (fun h => h (by omega))
        by_cases hD : okG gs
        · rw [(any_ok gs).2 hD] at c3
          have hy := y_b hA
          have c4 := con41 nn xs hA
          change Con _ _ _ _ (.tup [.int .i64 (y0 xs), .int .i64 (y1 xs)]) _ at c4
          have hcm : ∀ m, 5 ≤ m → ltrL m wcap = true := fun m hm => by simp [wcap, ltrL, AV.ltr]; omega
          have hvv := fun s y r ws (h1 : y0 xs ≤ y) (h2 : y ≤ y1 xs) (h3 : 5 < r) => vis_W nn n2 n3 hA hB hC hD s y (by omega) (by omega) r ws h3
          have tY := fun hm => sh42_Y (σ := Bool) (stp := stpW xs ms gs) (hs := wH nn n2 n3 xs ms gs) (N := 5) (f := 49) (caps := wcap) (first := y0 xs) (last := y1 xs) (wt := wY xs ms gs) (by omega) (by omega) (by omega) hcm (fun s => wH_wf nn n2 n3 xs ms gs s) hvv (B := 1000000000000) (by decide) (fun i _ => wY_b hA hB.2 _) false hm
          have tN := fun hm => sh42_N (σ := Bool) (stp := stpW xs ms gs) (hs := wH nn n2 n3 xs ms gs) (N := 5) (f := 49) (caps := wcap) (first := y0 xs) (last := y1 xs) (wt := wY xs ms gs) (by omega) (by omega) (by omega) hcm (fun s => wH_wf nn n2 n3 xs ms gs s) hvv (B := 1000000000000) (by decide) (fun i _ => wY_b hA hB.2 _) false hm
          have hF : (wAll xs ms gs → fS (stpW xs ms gs) (y0 xs) false (nY (y0 xs) (y1 xs)) = false) ∧ (¬ wAll xs ms gs → fS (stpW xs ms gs) (y0 xs) false (nY (y0 xs) (y1 xs)) = true) := ⟨fun h => fS_f _ h, fun h => fS_t _ h⟩
          have hW : wOK xs ms gs ↔ wAll xs ms gs ∧ mkOK (y0 xs) (wL xs ms gs) := ⟨fun h => h.2, fun h => ⟨⟨hA, hB, hC, hD⟩, h⟩⟩
          rw [hW] at hend
          have hwl : wL xs ms gs = tab (y0 xs) (wY xs ms gs) (nY (y0 xs) (y1 xs)) := rfl
          rw [← hwl] at tY tN
          have hh : hg [(4, some [[.bool false]]), (4, some [[.bool false]]), (3, some [[.int .i64 0, .nilS]]), (2, some [[.vw n3 (gs.map iRow)]]), (1, some [[.vw n2 (ms.map msRow)]]), (0, some [[.vw nn (xs.map cpRow)]])] = hg (wH nn n2 n3 xs ms gs false) := by
            funext q
            by_cases e4 : q = 4
            · subst e4; rfl
            · simp only [wH, Ab.hg, upd, if_neg e4]
          generalize nY (y0 xs) (y1 xs) = n at *
          generalize wL xs ms gs = WL at *
          generalize fS (stpW xs ms gs) (y0 xs) false n = fl at *
          obtain ⟨Q, hQ⟩ : ∃ Q, 5 + 1 + 2 * n + 1 = Q := ⟨_, rfl⟩
          rw [hQ] at tY tN hend
          have hQ5 : 5 < Q := by omega
          by_cases hm : mkOK (y0 xs) WL
          · have t := Sh_hg hh.symm (tY hm)
            generalize mkO (y0 xs) WL = d at *
            obtain ⟨f, us⟩ := d
            unfold dYes dNo at *
            simp only at t hend
            by_cases hw : wAll xs ms gs
            · obtain ⟨rfl, rfl, rfl⟩ := hend.1 ⟨hw, hm⟩
              rw [hF.1 hw] at t
              repeat (first | refine wG_call c1 rfl rfl ?_ | refine wG_call c2 rfl rfl ?_ | refine wG_call c3 (ag_vw rfl (ag_fn rfl (fun _ _ => rfl) ag_nil)) rfl ?_ | refine wG_call c4 rfl rfl ?_ | refine wG_pure (o_mkf rfl) ?_ | refine wG_callS t rfl ?_ | (first
    | refine wC_a rfl ?_
    | refine q_s rfl ?_
    | refine q_b rfl ?_
    | refine wG_nil ?_
    | refine wG_g rfl ?_
    | refine wG_pure (o_len_vwm rfl) ?_
    | refine wG_pure (o_not_d rfl) ?_
    | refine wG_p rfl (by first | exact rfl | omega) ?_
    | refine wG_pure (o_not rfl) ?_
    | refine wG_pure (e_ia_vw0 rfl rfl (by omega) rfl) ?_
    | refine wG_pure (e_ia_vwp rfl rfl (by omega) rfl) ?_
    | refine wG_pure (e_ia_vwm rfl rfl (by omega) (by omega) rfl) ?_
    | refine wG_pure (e_ia_vwi rfl rfl (by omega) rfl) ?_
    | refine wG_pure (e_ia_vwn rfl rfl (by omega) (by omega) rfl) ?_
    | refine wG_n rfl rfl ?_
    | refine wG_u rfl rfl ?_
    | refine wG_new (o_mks rfl rfl (by omega) (by decide)) ?_))
              simp only [dC]
              repeat (first | refine wG_call c1 rfl rfl ?_ | refine wG_call c2 rfl rfl ?_ | refine wG_call c3 (ag_vw rfl (ag_fn rfl (fun _ _ => rfl) ag_nil)) rfl ?_ | refine wG_call c4 rfl rfl ?_ | refine wG_pure (o_mkf rfl) ?_ | refine wG_callS t rfl ?_ | (first
    | refine wC_a rfl ?_
    | refine q_s rfl ?_
    | refine q_b rfl ?_
    | refine wG_nil ?_
    | refine wG_g rfl ?_
    | refine wG_pure (o_len_vwm rfl) ?_
    | refine wG_pure (o_not_d rfl) ?_
    | refine wG_p rfl (by first | exact rfl | omega) ?_
    | refine wG_pure (o_not rfl) ?_
    | refine wG_pure (e_ia_vw0 rfl rfl (by omega) rfl) ?_
    | refine wG_pure (e_ia_vwp rfl rfl (by omega) rfl) ?_
    | refine wG_pure (e_ia_vwm rfl rfl (by omega) (by omega) rfl) ?_
    | refine wG_pure (e_ia_vwi rfl rfl (by omega) rfl) ?_
    | refine wG_pure (e_ia_vwn rfl rfl (by omega) (by omega) rfl) ?_
    | refine wG_n rfl rfl ?_
    | refine wG_u rfl rfl ?_
    | refine wG_new (o_mks rfl rfl (by omega) (by decide)) ?_))
              repeat (first | refine wG_upd (o_st_agg rfl hg_here rfl rfl rfl rfl rfl) ?_ | refine wG_pure (o_ldf_pt rfl (hg_skip (by omega) (hg_skip (by omega) (hg_skip (by omega) rfl))) rfl rfl) ?_ | refine wG_pure (o_ldt_pt rfl hg_here rfl rfl rfl) ?_ | refine wG_upd (o_st_agg rfl (hg_skip (by omega) (hg_skip (by omega) (hg_skip (by omega) rfl))) rfl rfl rfl rfl rfl) ?_ | (first
    | refine wC_a rfl ?_
    | refine q_s rfl ?_
    | refine q_b rfl ?_
    | refine wG_nil ?_
    | refine wG_g rfl ?_
    | refine wG_pure (o_len_vwm rfl) ?_
    | refine wG_pure (o_not_d rfl) ?_
    | refine wG_p rfl (by first | exact rfl | omega) ?_
    | refine wG_pure (o_not rfl) ?_
    | refine wG_pure (e_ia_vw0 rfl rfl (by omega) rfl) ?_
    | refine wG_pure (e_ia_vwp rfl rfl (by omega) rfl) ?_
    | refine wG_pure (e_ia_vwm rfl rfl (by omega) (by omega) rfl) ?_
    | refine wG_pure (e_ia_vwi rfl rfl (by omega) rfl) ?_
    | refine wG_pure (e_ia_vwn rfl rfl (by omega) (by omega) rfl) ?_
    | refine wG_n rfl rfl ?_
    | refine wG_u rfl rfl ?_
    | refine wG_new (o_mks rfl rfl (by omega) (by decide)) ?_))
              exact ret_db (.inr rfl) rfl (retV_ldt rfl hg_here rfl rfl rfl) (retV_mv rfl) (hg_skip (by omega) (hg_skip (by omega) (hg_skip (by omega) hg_here)))
            · obtain ⟨rfl, rfl, rfl⟩ := hend.2 (fun h => hw h.1)
              rw [hF.2 hw] at t
              repeat (first | refine wG_call c1 rfl rfl ?_ | refine wG_call c2 rfl rfl ?_ | refine wG_call c3 (ag_vw rfl (ag_fn rfl (fun _ _ => rfl) ag_nil)) rfl ?_ | refine wG_call c4 rfl rfl ?_ | refine wG_pure (o_mkf rfl) ?_ | refine wG_callS t rfl ?_ | (first
    | refine wC_a rfl ?_
    | refine q_s rfl ?_
    | refine q_b rfl ?_
    | refine wG_nil ?_
    | refine wG_g rfl ?_
    | refine wG_pure (o_len_vwm rfl) ?_
    | refine wG_pure (o_not_d rfl) ?_
    | refine wG_p rfl (by first | exact rfl | omega) ?_
    | refine wG_pure (o_not rfl) ?_
    | refine wG_pure (e_ia_vw0 rfl rfl (by omega) rfl) ?_
    | refine wG_pure (e_ia_vwp rfl rfl (by omega) rfl) ?_
    | refine wG_pure (e_ia_vwm rfl rfl (by omega) (by omega) rfl) ?_
    | refine wG_pure (e_ia_vwi rfl rfl (by omega) rfl) ?_
    | refine wG_pure (e_ia_vwn rfl rfl (by omega) (by omega) rfl) ?_
    | refine wG_n rfl rfl ?_
    | refine wG_u rfl rfl ?_
    | refine wG_new (o_mks rfl rfl (by omega) (by decide)) ?_))
              simp only [dC]
              repeat (first | refine wG_call c1 rfl rfl ?_ | refine wG_call c2 rfl rfl ?_ | refine wG_call c3 (ag_vw rfl (ag_fn rfl (fun _ _ => rfl) ag_nil)) rfl ?_ | refine wG_call c4 rfl rfl ?_ | refine wG_pure (o_mkf rfl) ?_ | refine wG_callS t rfl ?_ | (first
    | refine wC_a rfl ?_
    | refine q_s rfl ?_
    | refine q_b rfl ?_
    | refine wG_nil ?_
    | refine wG_g rfl ?_
    | refine wG_pure (o_len_vwm rfl) ?_
    | refine wG_pure (o_not_d rfl) ?_
    | refine wG_p rfl (by first | exact rfl | omega) ?_
    | refine wG_pure (o_not rfl) ?_
    | refine wG_pure (e_ia_vw0 rfl rfl (by omega) rfl) ?_
    | refine wG_pure (e_ia_vwp rfl rfl (by omega) rfl) ?_
    | refine wG_pure (e_ia_vwm rfl rfl (by omega) (by omega) rfl) ?_
    | refine wG_pure (e_ia_vwi rfl rfl (by omega) rfl) ?_
    | refine wG_pure (e_ia_vwn rfl rfl (by omega) (by omega) rfl) ?_
    | refine wG_n rfl rfl ?_
    | refine wG_u rfl rfl ?_
    | refine wG_new (o_mks rfl rfl (by omega) (by decide)) ?_))
              repeat (first | refine wG_upd (o_st_agg rfl hg_here rfl rfl rfl rfl rfl) ?_ | refine wG_pure (o_ldf_pt rfl (hg_skip (by omega) (hg_skip (by omega) (hg_skip (by omega) rfl))) rfl rfl) ?_ | refine wG_pure (o_ldt_pt rfl hg_here rfl rfl rfl) ?_ | refine wG_upd (o_st_agg rfl (hg_skip (by omega) (hg_skip (by omega) (hg_skip (by omega) rfl))) rfl rfl rfl rfl rfl) ?_ | (first
    | refine wC_a rfl ?_
    | refine q_s rfl ?_
    | refine q_b rfl ?_
    | refine wG_nil ?_
    | refine wG_g rfl ?_
    | refine wG_pure (o_len_vwm rfl) ?_
    | refine wG_pure (o_not_d rfl) ?_
    | refine wG_p rfl (by first | exact rfl | omega) ?_
    | refine wG_pure (o_not rfl) ?_
    | refine wG_pure (e_ia_vw0 rfl rfl (by omega) rfl) ?_
    | refine wG_pure (e_ia_vwp rfl rfl (by omega) rfl) ?_
    | refine wG_pure (e_ia_vwm rfl rfl (by omega) (by omega) rfl) ?_
    | refine wG_pure (e_ia_vwi rfl rfl (by omega) rfl) ?_
    | refine wG_pure (e_ia_vwn rfl rfl (by omega) (by omega) rfl) ?_
    | refine wG_n rfl rfl ?_
    | refine wG_u rfl rfl ?_
    | refine wG_new (o_mks rfl rfl (by omega) (by decide)) ?_))
              exact ret_d0 (.inr rfl) rfl (retV_ldt rfl hg_here rfl rfl rfl) (retV_mv rfl)
          · have t := Sh_hg hh.symm (tN hm)
            unfold dYes dNo at *
            obtain ⟨rfl, rfl, rfl⟩ := hend.2 (fun h => hm h.2)
            clear hF
            cases fl
            · repeat (first | refine wG_call c1 rfl rfl ?_ | refine wG_call c2 rfl rfl ?_ | refine wG_call c3 (ag_vw rfl (ag_fn rfl (fun _ _ => rfl) ag_nil)) rfl ?_ | refine wG_call c4 rfl rfl ?_ | refine wG_pure (o_mkf rfl) ?_ | refine wG_callS t rfl ?_ | (first
    | refine wC_a rfl ?_
    | refine q_s rfl ?_
    | refine q_b rfl ?_
    | refine wG_nil ?_
    | refine wG_g rfl ?_
    | refine wG_pure (o_len_vwm rfl) ?_
    | refine wG_pure (o_not_d rfl) ?_
    | refine wG_p rfl (by first | exact rfl | omega) ?_
    | refine wG_pure (o_not rfl) ?_
    | refine wG_pure (e_ia_vw0 rfl rfl (by omega) rfl) ?_
    | refine wG_pure (e_ia_vwp rfl rfl (by omega) rfl) ?_
    | refine wG_pure (e_ia_vwm rfl rfl (by omega) (by omega) rfl) ?_
    | refine wG_pure (e_ia_vwi rfl rfl (by omega) rfl) ?_
    | refine wG_pure (e_ia_vwn rfl rfl (by omega) (by omega) rfl) ?_
    | refine wG_n rfl rfl ?_
    | refine wG_u rfl rfl ?_
    | refine wG_new (o_mks rfl rfl (by omega) (by decide)) ?_))
              simp only [dC]
              repeat (first | refine wG_call c1 rfl rfl ?_ | refine wG_call c2 rfl rfl ?_ | refine wG_call c3 (ag_vw rfl (ag_fn rfl (fun _ _ => rfl) ag_nil)) rfl ?_ | refine wG_call c4 rfl rfl ?_ | refine wG_pure (o_mkf rfl) ?_ | refine wG_callS t rfl ?_ | (first
    | refine wC_a rfl ?_
    | refine q_s rfl ?_
    | refine q_b rfl ?_
    | refine wG_nil ?_
    | refine wG_g rfl ?_
    | refine wG_pure (o_len_vwm rfl) ?_
    | refine wG_pure (o_not_d rfl) ?_
    | refine wG_p rfl (by first | exact rfl | omega) ?_
    | refine wG_pure (o_not rfl) ?_
    | refine wG_pure (e_ia_vw0 rfl rfl (by omega) rfl) ?_
    | refine wG_pure (e_ia_vwp rfl rfl (by omega) rfl) ?_
    | refine wG_pure (e_ia_vwm rfl rfl (by omega) (by omega) rfl) ?_
    | refine wG_pure (e_ia_vwi rfl rfl (by omega) rfl) ?_
    | refine wG_pure (e_ia_vwn rfl rfl (by omega) (by omega) rfl) ?_
    | refine wG_n rfl rfl ?_
    | refine wG_u rfl rfl ?_
    | refine wG_new (o_mks rfl rfl (by omega) (by decide)) ?_))
              repeat (first | refine wG_upd (o_st_agg rfl hg_here rfl rfl rfl rfl rfl) ?_ | refine wG_pure (o_ldf_pt rfl (hg_skip (by omega) (hg_skip (by omega) rfl)) rfl rfl) ?_ | refine wG_upd (o_st_agg rfl (hg_skip (by omega) (hg_skip (by omega) rfl)) rfl rfl rfl rfl rfl) ?_ | (first
    | refine wC_a rfl ?_
    | refine q_s rfl ?_
    | refine q_b rfl ?_
    | refine wG_nil ?_
    | refine wG_g rfl ?_
    | refine wG_pure (o_len_vwm rfl) ?_
    | refine wG_pure (o_not_d rfl) ?_
    | refine wG_p rfl (by first | exact rfl | omega) ?_
    | refine wG_pure (o_not rfl) ?_
    | refine wG_pure (e_ia_vw0 rfl rfl (by omega) rfl) ?_
    | refine wG_pure (e_ia_vwp rfl rfl (by omega) rfl) ?_
    | refine wG_pure (e_ia_vwm rfl rfl (by omega) (by omega) rfl) ?_
    | refine wG_pure (e_ia_vwi rfl rfl (by omega) rfl) ?_
    | refine wG_pure (e_ia_vwn rfl rfl (by omega) (by omega) rfl) ?_
    | refine wG_n rfl rfl ?_
    | refine wG_u rfl rfl ?_
    | refine wG_new (o_mks rfl rfl (by omega) (by decide)) ?_))
              exact ret_d0 (.inr rfl) rfl (retV_ldt rfl hg_here rfl rfl rfl) (retV_mv rfl)
            · repeat (first | refine wG_call c1 rfl rfl ?_ | refine wG_call c2 rfl rfl ?_ | refine wG_call c3 (ag_vw rfl (ag_fn rfl (fun _ _ => rfl) ag_nil)) rfl ?_ | refine wG_call c4 rfl rfl ?_ | refine wG_pure (o_mkf rfl) ?_ | refine wG_callS t rfl ?_ | (first
    | refine wC_a rfl ?_
    | refine q_s rfl ?_
    | refine q_b rfl ?_
    | refine wG_nil ?_
    | refine wG_g rfl ?_
    | refine wG_pure (o_len_vwm rfl) ?_
    | refine wG_pure (o_not_d rfl) ?_
    | refine wG_p rfl (by first | exact rfl | omega) ?_
    | refine wG_pure (o_not rfl) ?_
    | refine wG_pure (e_ia_vw0 rfl rfl (by omega) rfl) ?_
    | refine wG_pure (e_ia_vwp rfl rfl (by omega) rfl) ?_
    | refine wG_pure (e_ia_vwm rfl rfl (by omega) (by omega) rfl) ?_
    | refine wG_pure (e_ia_vwi rfl rfl (by omega) rfl) ?_
    | refine wG_pure (e_ia_vwn rfl rfl (by omega) (by omega) rfl) ?_
    | refine wG_n rfl rfl ?_
    | refine wG_u rfl rfl ?_
    | refine wG_new (o_mks rfl rfl (by omega) (by decide)) ?_))
              simp only [dC]
              repeat (first | refine wG_call c1 rfl rfl ?_ | refine wG_call c2 rfl rfl ?_ | refine wG_call c3 (ag_vw rfl (ag_fn rfl (fun _ _ => rfl) ag_nil)) rfl ?_ | refine wG_call c4 rfl rfl ?_ | refine wG_pure (o_mkf rfl) ?_ | refine wG_callS t rfl ?_ | (first
    | refine wC_a rfl ?_
    | refine q_s rfl ?_
    | refine q_b rfl ?_
    | refine wG_nil ?_
    | refine wG_g rfl ?_
    | refine wG_pure (o_len_vwm rfl) ?_
    | refine wG_pure (o_not_d rfl) ?_
    | refine wG_p rfl (by first | exact rfl | omega) ?_
    | refine wG_pure (o_not rfl) ?_
    | refine wG_pure (e_ia_vw0 rfl rfl (by omega) rfl) ?_
    | refine wG_pure (e_ia_vwp rfl rfl (by omega) rfl) ?_
    | refine wG_pure (e_ia_vwm rfl rfl (by omega) (by omega) rfl) ?_
    | refine wG_pure (e_ia_vwi rfl rfl (by omega) rfl) ?_
    | refine wG_pure (e_ia_vwn rfl rfl (by omega) (by omega) rfl) ?_
    | refine wG_n rfl rfl ?_
    | refine wG_u rfl rfl ?_
    | refine wG_new (o_mks rfl rfl (by omega) (by decide)) ?_))
              repeat (first | refine wG_upd (o_st_agg rfl hg_here rfl rfl rfl rfl rfl) ?_ | refine wG_pure (o_ldf_pt rfl (hg_skip (by omega) (hg_skip (by omega) rfl)) rfl rfl) ?_ | refine wG_upd (o_st_agg rfl (hg_skip (by omega) (hg_skip (by omega) rfl)) rfl rfl rfl rfl rfl) ?_ | (first
    | refine wC_a rfl ?_
    | refine q_s rfl ?_
    | refine q_b rfl ?_
    | refine wG_nil ?_
    | refine wG_g rfl ?_
    | refine wG_pure (o_len_vwm rfl) ?_
    | refine wG_pure (o_not_d rfl) ?_
    | refine wG_p rfl (by first | exact rfl | omega) ?_
    | refine wG_pure (o_not rfl) ?_
    | refine wG_pure (e_ia_vw0 rfl rfl (by omega) rfl) ?_
    | refine wG_pure (e_ia_vwp rfl rfl (by omega) rfl) ?_
    | refine wG_pure (e_ia_vwm rfl rfl (by omega) (by omega) rfl) ?_
    | refine wG_pure (e_ia_vwi rfl rfl (by omega) rfl) ?_
    | refine wG_pure (e_ia_vwn rfl rfl (by omega) (by omega) rfl) ?_
    | refine wG_n rfl rfl ?_
    | refine wG_u rfl rfl ?_
    | refine wG_new (o_mks rfl rfl (by omega) (by decide)) ?_))
              exact ret_d0 (.inr rfl) rfl (retV_ldt rfl hg_here rfl rfl rfl) (retV_mv rfl)
        · obtain ⟨rfl, rfl, rfl⟩ := hend.2 (fun h => hD h.1.2.2.2)
          rw [(Bool.eq_false_or_eq_true (gs.any fun w => !decide (0 ≤ w ∧ w ≤ 100))).resolve_right (fun h => hD ((any_ok gs).1 h))] at c3
          unfold dNo at *
          repeat (first | refine wG_call c1 rfl rfl ?_ | refine wG_call c2 rfl rfl ?_ | refine wG_call c3 (ag_vw rfl (ag_fn rfl (fun _ _ => rfl) ag_nil)) rfl ?_ | refine wG_pure (o_mkf rfl) ?_ | (first
    | refine wC_a rfl ?_
    | refine q_s rfl ?_
    | refine q_b rfl ?_
    | refine wG_nil ?_
    | refine wG_g rfl ?_
    | refine wG_pure (o_len_vwm rfl) ?_
    | refine wG_pure (o_not_d rfl) ?_
    | refine wG_p rfl (by first | exact rfl | omega) ?_
    | refine wG_pure (o_not rfl) ?_
    | refine wG_pure (e_ia_vw0 rfl rfl (by omega) rfl) ?_
    | refine wG_pure (e_ia_vwp rfl rfl (by omega) rfl) ?_
    | refine wG_pure (e_ia_vwm rfl rfl (by omega) (by omega) rfl) ?_
    | refine wG_pure (e_ia_vwi rfl rfl (by omega) rfl) ?_
    | refine wG_pure (e_ia_vwn rfl rfl (by omega) (by omega) rfl) ?_
    | refine wG_n rfl rfl ?_
    | refine wG_u rfl rfl ?_
    | refine wG_new (o_mks rfl rfl (by omega) (by decide)) ?_))
          simp only [dC]
          repeat (first | refine wG_call c1 rfl rfl ?_ | refine wG_call c2 rfl rfl ?_ | refine wG_call c3 (ag_vw rfl (ag_fn rfl (fun _ _ => rfl) ag_nil)) rfl ?_ | refine wG_pure (o_mkf rfl) ?_ | (first
    | refine wC_a rfl ?_
    | refine q_s rfl ?_
    | refine q_b rfl ?_
    | refine wG_nil ?_
    | refine wG_g rfl ?_
    | refine wG_pure (o_len_vwm rfl) ?_
    | refine wG_pure (o_not_d rfl) ?_
    | refine wG_p rfl (by first | exact rfl | omega) ?_
    | refine wG_pure (o_not rfl) ?_
    | refine wG_pure (e_ia_vw0 rfl rfl (by omega) rfl) ?_
    | refine wG_pure (e_ia_vwp rfl rfl (by omega) rfl) ?_
    | refine wG_pure (e_ia_vwm rfl rfl (by omega) (by omega) rfl) ?_
    | refine wG_pure (e_ia_vwi rfl rfl (by omega) rfl) ?_
    | refine wG_pure (e_ia_vwn rfl rfl (by omega) (by omega) rfl) ?_
    | refine wG_n rfl rfl ?_
    | refine wG_u rfl rfl ?_
    | refine wG_new (o_mks rfl rfl (by omega) (by decide)) ?_))
          exact ret_d0 (.inr rfl) rfl (retV_ldt rfl rfl rfl rfl rfl) (retV_mv rfl)
      · obtain ⟨rfl, rfl, rfl⟩ := hend.2 (fun h => hC h.1.2.2.1)
        have dC : decide ((gs.length : Int) ≠ (ms.length : Int) - 1) = true := decide_eq_true (by omega)
        unfold dNo at *
        repeat (first | refine wG_call c1 rfl rfl ?_ | refine wG_call c2 rfl rfl ?_ | (first
    | refine wC_a rfl ?_
    | refine q_s rfl ?_
    | refine q_b rfl ?_
    | refine wG_nil ?_
    | refine wG_g rfl ?_
    | refine wG_pure (o_len_vwm rfl) ?_
    | refine wG_pure (o_not_d rfl) ?_
    | refine wG_p rfl (by first | exact rfl | omega) ?_
    | refine wG_pure (o_not rfl) ?_
    | refine wG_pure (e_ia_vw0 rfl rfl (by omega) rfl) ?_
    | refine wG_pure (e_ia_vwp rfl rfl (by omega) rfl) ?_
    | refine wG_pure (e_ia_vwm rfl rfl (by omega) (by omega) rfl) ?_
    | refine wG_pure (e_ia_vwi rfl rfl (by omega) rfl) ?_
    | refine wG_pure (e_ia_vwn rfl rfl (by omega) (by omega) rfl) ?_
    | refine wG_n rfl rfl ?_
    | refine wG_u rfl rfl ?_
    | refine wG_new (o_mks rfl rfl (by omega) (by decide)) ?_))
        simp only [dC]
        repeat (first
    | refine wC_a rfl ?_
    | refine q_s rfl ?_
    | refine q_b rfl ?_
    | refine wG_nil ?_
    | refine wG_g rfl ?_
    | refine wG_pure (o_len_vwm rfl) ?_
    | refine wG_pure (o_not_d rfl) ?_
    | refine wG_p rfl (by first | exact rfl | omega) ?_
    | refine wG_pure (o_not rfl) ?_
    | refine wG_pure (e_ia_vw0 rfl rfl (by omega) rfl) ?_
    | refine wG_pure (e_ia_vwp rfl rfl (by omega) rfl) ?_
    | refine wG_pure (e_ia_vwm rfl rfl (by omega) (by omega) rfl) ?_
    | refine wG_pure (e_ia_vwi rfl rfl (by omega) rfl) ?_
    | refine wG_pure (e_ia_vwn rfl rfl (by omega) (by omega) rfl) ?_
    | refine wG_n rfl rfl ?_
    | refine wG_u rfl rfl ?_
    | refine wG_new (o_mks rfl rfl (by omega) (by decide)) ?_)
        exact ret_d0 (.inr rfl) rfl (retV_ldt rfl rfl rfl rfl rfl) (retV_mv rfl)
    · rw [decide_eq_false hB] at c2
      obtain ⟨rfl, rfl, rfl⟩ := hend.2 (fun h => hB h.1.2.1)
      unfold dNo at *
      repeat (first | refine wG_call c1 rfl rfl ?_ | refine wG_call c2 rfl rfl ?_ | (first
    | refine wC_a rfl ?_
    | refine q_s rfl ?_
    | refine q_b rfl ?_
    | refine wG_nil ?_
    | refine wG_g rfl ?_
    | refine wG_pure (o_len_vwm rfl) ?_
    | refine wG_pure (o_not_d rfl) ?_
    | refine wG_p rfl (by first | exact rfl | omega) ?_
    | refine wG_pure (o_not rfl) ?_
    | refine wG_pure (e_ia_vw0 rfl rfl (by omega) rfl) ?_
    | refine wG_pure (e_ia_vwp rfl rfl (by omega) rfl) ?_
    | refine wG_pure (e_ia_vwm rfl rfl (by omega) (by omega) rfl) ?_
    | refine wG_pure (e_ia_vwi rfl rfl (by omega) rfl) ?_
    | refine wG_pure (e_ia_vwn rfl rfl (by omega) (by omega) rfl) ?_
    | refine wG_n rfl rfl ?_
    | refine wG_u rfl rfl ?_
    | refine wG_new (o_mks rfl rfl (by omega) (by decide)) ?_))
      exact ret_d0 (.inr rfl) rfl (retV_ldt rfl rfl rfl rfl rfl) (retV_mv rfl)
  · rw [decide_eq_false hA] at c1
    obtain ⟨rfl, rfl, rfl⟩ := hend.2 (fun h => hA h.1.1)
    unfold dNo at *
    repeat (first | refine wG_call c1 rfl rfl ?_ | (first
    | refine wC_a rfl ?_
    | refine q_s rfl ?_
    | refine q_b rfl ?_
    | refine wG_nil ?_
    | refine wG_g rfl ?_
    | refine wG_pure (o_len_vwm rfl) ?_
    | refine wG_pure (o_not_d rfl) ?_
    | refine wG_p rfl (by first | exact rfl | omega) ?_
    | refine wG_pure (o_not rfl) ?_
    | refine wG_pure (e_ia_vw0 rfl rfl (by omega) rfl) ?_
    | refine wG_pure (e_ia_vwp rfl rfl (by omega) rfl) ?_
    | refine wG_pure (e_ia_vwm rfl rfl (by omega) (by omega) rfl) ?_
    | refine wG_pure (e_ia_vwi rfl rfl (by omega) rfl) ?_
    | refine wG_pure (e_ia_vwn rfl rfl (by omega) (by omega) rfl) ?_
    | refine wG_n rfl rfl ?_
    | refine wG_u rfl rfl ?_
    | refine wG_new (o_mks rfl rfl (by omega) (by decide)) ?_))
    exact ret_d0 (.inr rfl) rfl (retV_ldt rfl rfl rfl rfl rfl) (retV_mv rfl)
end Go.Proofs.Ytkkcplcgafndgaa.Cal
