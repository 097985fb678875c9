/- The weight of a year for a measured age: both sides. -/
import Derived.Test.YtkkcplcgafndgaaCatA
import Derived.Test.YtkkcplcgafndgaaMsrB
import Derived.Test.YtkkcplcgafndgaaTabA
import Derived.Test.YtkkcplcgafndgaaAb1
namespace Go.Proofs.Ytkkcplcgafndgaa.Cal
open Go Go.Proofs.Ytkkcplcgafndgaa Go.Proofs.Ytkkcplcgafndgaa.Ab Go.Proofs.Ytkkcplcgafndgaa.Il Go.Proofs.Ytkkcplcgafndgaa.Msr Go.Proofs.Ytkkcplcgafndgaa.Dst
attribute [local irreducible] wpO wpC wpDr wpQ wpG wpE stepA seqQ blkQ Ret ev
set_option maxRecDepth 10000
set_option maxHeartbeats 4000000
set_option linter.unusedSimpArgs false
set_option linter.unusedVariables false
def ac37 : AC := (.seq (.reg [⟨(some 4), none, (.box 2 true (.t 1))⟩, ⟨(some 6), none, (.mv (.c (.int .i64 0)))⟩]) (.seq (.seq (.reg [⟨(some 10), none, (.mv (.t 0))⟩, ⟨(some 11), none, (.mv (.t 2))⟩, ⟨(some 12), none, (.call 57 [(.t 10), (.t 11)])⟩, ⟨(some 13), none, (.un .not (.t 12))⟩]) (.cond (.t 13) (.seq (.reg [⟨(some 6), none, (.mv (.c (.int .i64 0)))⟩]) .ret) .skip)) (.seq (.reg [⟨(some 15), none, (.mv (.t 0))⟩, ⟨(some 16), none, (.mv (.t 2))⟩, ⟨(some 17), none, (.call 58 [(.t 15), (.t 16)])⟩, ⟨(some 14), none, (.mv (.t 17))⟩, ⟨(some 18), none, (.ext (.t 14) 0)⟩, ⟨(some 19), none, (.ext (.t 14) 1)⟩, ⟨(some 7), none, (.mv (.t 18))⟩, ⟨(some 8), none, (.mv (.t 19))⟩]) (.seq (.reg [⟨(some 20), none, (.mv (.t 7))⟩, ⟨(some 21), none, (.fa 0 (.t 4))⟩, ⟨(some 22), none, (.ld false 1 (.t 21))⟩, ⟨(some 23), none, (.bin .sub (.t 20) (.t 22))⟩, ⟨(some 24), none, (.fa 0 (.t 4))⟩, ⟨(some 25), none, (.ld false 1 (.t 24))⟩, ⟨(some 26), none, (.mv (.t 7))⟩, ⟨(some 27), none, (.bin .sub (.t 25) (.t 26))⟩, ⟨(some 28), none, (.call 59 [(.t 23), (.t 27)])⟩, ⟨(some 9), none, (.mv (.t 28))⟩]) (.seq (.reg [⟨(some 29), none, (.fa 1 (.t 4))⟩, ⟨(some 30), none, (.ld false 1 (.t 29))⟩, ⟨(some 31), none, (.mv (.t 8))⟩, ⟨(some 32), none, (.bin .add (.t 30) (.t 31))⟩, ⟨(some 33), none, (.bin .mul (.c (.int .i64 2)) (.t 32))⟩, ⟨(some 34), none, (.bin .add (.c (.int .i64 1)) (.t 33))⟩, ⟨(some 35), none, (.mv (.t 9))⟩, ⟨(some 36), none, (.bin .sub (.t 34) (.t 35))⟩, ⟨(some 37), none, (.call 59 [(.t 36), (.c (.int .i64 0))])⟩, ⟨(some 6), none, (.mv (.t 37))⟩]) .ret)))))
def ro37 : List AOp := [(.mv (.t 6))]
theorem fun37 : Fun Try.prog 37 38 ac37 ro37 := ⟨Try.f37, _, Try.func37, by kernel_rfl, rfl, rfl, by kernel_rfl, by kernel_rfl, by decide⟩
def ac44 : AC := (.seq (.reg [⟨(some 4), none, (.box 2 true (.t 1))⟩, ⟨(some 6), none, (.mv (.c (.int .i64 0)))⟩]) (.seq (.reg [⟨(some 12), none, (.mv (.t 0))⟩, ⟨(some 13), none, (.call 41 [(.t 12)])⟩, ⟨(some 11), none, (.mv (.t 13))⟩, ⟨(some 14), none, (.ext (.t 11) 0)⟩, ⟨(some 15), none, (.ext (.t 11) 1)⟩, ⟨(some 7), none, (.mv (.t 14))⟩, ⟨(some 8), none, (.mv (.t 15))⟩]) (.seq (.seq (.reg [⟨(some 16), none, (.mv (.t 2))⟩, ⟨(some 17), none, (.mv (.t 7))⟩, ⟨(some 18), none, (.mv (.t 8))⟩, ⟨(some 19), none, (.call 32 [(.t 16), (.t 17), (.t 18)])⟩, ⟨(some 20), none, (.un .not (.t 19))⟩]) (.cond (.t 20) (.seq (.reg [⟨(some 6), none, (.mv (.c (.int .i64 0)))⟩]) .ret) .skip)) (.seq (.reg [⟨(some 22), none, (.mv (.t 0))⟩, ⟨(some 23), none, (.mv (.t 2))⟩, ⟨(some 24), none, (.call 60 [(.t 22), (.t 23)])⟩, ⟨(some 21), none, (.mv (.t 24))⟩, ⟨(some 25), none, (.ext (.t 21) 0)⟩, ⟨(some 26), none, (.ext (.t 21) 1)⟩, ⟨(some 9), none, (.mv (.t 25))⟩, ⟨(some 10), none, (.mv (.t 26))⟩]) (.seq (.reg [⟨(some 27), none, (.fa 1 (.t 4))⟩, ⟨(some 28), none, (.ld false 1 (.t 27))⟩, ⟨(some 29), none, (.mv (.t 10))⟩, ⟨(some 30), none, (.bin .add (.t 28) (.t 29))⟩, ⟨(some 31), none, (.bin .mul (.c (.int .i64 2)) (.t 30))⟩, ⟨(some 32), none, (.bin .add (.c (.int .i64 1)) (.t 31))⟩, ⟨(some 33), none, (.mv (.t 9))⟩, ⟨(some 34), none, (.fa 0 (.t 4))⟩, ⟨(some 35), none, (.ld false 1 (.t 34))⟩, ⟨(some 36), none, (.bin .sub (.t 33) (.t 35))⟩, ⟨(some 37), none, (.fa 0 (.t 4))⟩, ⟨(some 38), none, (.ld false 1 (.t 37))⟩, ⟨(some 39), none, (.mv (.t 9))⟩, ⟨(some 40), none, (.bin .sub (.t 38) (.t 39))⟩, ⟨(some 41), none, (.mx (.t 36) (.t 40))⟩, ⟨(some 42), none, (.bin .sub (.t 32) (.t 41))⟩, ⟨(some 43), none, (.mx (.c (.int .i64 0)) (.t 42))⟩, ⟨(some 6), none, (.mv (.t 43))⟩]) .ret)))))
def ro44 : List AOp := [(.mv (.t 6))]
theorem fun44 : Fun Try.prog 44 44 ac44 ro44 := ⟨Try.f44, _, Try.func44, by kernel_rfl, rfl, rfl, by kernel_rfl, by kernel_rfl, by decide⟩
theorem mixed : Try.prog.follows .mixedOrders = true := by kernel_rfl

theorem ixF_ok {xs : List CP} {year : Int} (hl : year ≤ yr xs (xs.length - 1)) : ∀ (f i : Nat), i + f + 1 = xs.length → 1 ≤ i → yr xs (i - 1) ≤ year → 1 ≤ ixF xs year f i ∧ ixF xs year f i < xs.length ∧ yr xs (ixF xs year f i - 1) ≤ year ∧ year ≤ yr xs (ixF xs year f i)
  | 0, i, h1, h2, h3 => by
    simp only [ixF]
    refine ⟨h2, by omega, h3, ?_⟩
    rwa [show i = xs.length - 1 by omega]
  | f + 1, i, h1, h2, h3 => by
    simp only [ixF]
    split
    · rename_i h
      exact ixF_ok hl f (i + 1) (by omega) (by omega) (by rw [Nat.add_sub_cancel]; omega)
    · exact ⟨h2, by omega, h3, by omega⟩
theorem ix_ok {xs : List CP} {year : Int} (hG : Good xs) (hy : inYears xs year) : 1 ≤ ix xs year ∧ ix xs year < xs.length ∧ yr xs (ix xs year - 1) ≤ year ∧ year ≤ yr xs (ix xs year) :=
  ixF_ok hy.2 (xs.length - 2) 1 (by have := hG.1.1; omega) (Nat.le_refl _) hy.1
theorem at_b {xs : List CP} {year : Int} (hG : Good xs) (hy : inYears xs year) : (-9000000 ≤ ageAt xs year ∧ ageAt xs year ≤ 9000000) ∧ (-9000000 ≤ errAt xs year ∧ errAt xs year ≤ 9000000) := by
  obtain ⟨i1, i2, i3, i4⟩ := ix_ok hG hy
  unfold ageAt errAt
  generalize ix xs year = i at *
  have g1 := hG.at i2
  have g0 := hG.at (i := i - 1) (by omega)
  have gg := hG.gap i2 (by omega)
  have b1 := mul_b (a := (xs.getD i default).a - (xs.getD (i - 1) default).a) (b := year - yr xs (i - 1)) (A := 60000) (B := 50) (by omega) (by omega) (by omega) (by omega)
  have b2 := mul_b (a := (xs.getD i default).e - (xs.getD (i - 1) default).e) (b := year - yr xs (i - 1)) (A := 1000) (B := 50) (by omega) (by omega) (by omega) (by omega)
  have r1 := rnd_b (n := ((xs.getD i default).a - (xs.getD (i - 1) default).a) * (year - yr xs (i - 1))) (d := yr xs i - yr xs (i - 1)) (by omega) (by omega) (by omega) (by omega)
  have r2 := rnd_b (n := ((xs.getD i default).e - (xs.getD (i - 1) default).e) * (year - yr xs (i - 1))) (d := yr xs i - yr xs (i - 1)) (by omega) (by omega) (by omega) (by omega)
  omega
def wgt (xs : List CP) (m : Ms) (year : Int) : Int := if inYears xs year then max (1 + 2 * (m.e + errAt xs year) - max (ageAt xs year - m.a) (m.a - ageAt xs year)) 0 else 0
theorem wgt_b {xs : List CP} {m : Ms} (hG : Good xs) (hm : okM m) (year : Int) : 0 ≤ wgt xs m year ∧ wgt xs m year ≤ 20000000 := by
  unfold wgt
  split
  · rename_i hy
    have h := at_b hG hy
    have h2 := hm.2
    omega
  · decide
theorem con37 (nn : Bool) (xs : List CP) (hG : Good xs) (m : Ms) (hm : okM m) (year : Int) : Con Try.prog 37 true [.vw nn (xs.map cpRow), .agg (msRow m), .int .i64 year] (.int .i64 (wgt xs m year)) [] := by
  refine con_of_wp mixed fun37 (by simp) [] plain_nil ?_
  unfold ac37 ro37
  simp only [zipT]
  have c1 := con57 nn xs hG year
  have hm1 := hm.1
  have hm2 := hm.2
  by_cases hy : inYears xs year
  · rw [decide_eq_true hy] at c1
    have c2 := con58 nn xs hG year hy
    have hb := at_b hG hy
    repeat (first | refine wG_call c1 rfl rfl ?_ | refine wG_call c2 rfl rfl ?_ | refine wG_call (con59 _ _) rfl rfl ?_ | (first
    | refine wC_a rfl ?_
    | refine q_s rfl ?_
    | refine q_b rfl ?_
    | refine wG_nil ?_
    | refine wG_g rfl ?_
    | refine wG_pure (o_len_vwm rfl) ?_
    | refine wG_pure (o_not_d rfl) ?_
    | refine wG_p rfl (by first | exact rfl | omega) ?_
    | refine wG_pure (o_not rfl) ?_
    | refine wG_pure (e_ia_vw0 rfl rfl (by omega) rfl) ?_
    | refine wG_pure (e_ia_vwp rfl rfl (by omega) rfl) ?_
    | refine wG_pure (e_ia_vwm rfl rfl (by omega) (by omega) rfl) ?_
    | refine wG_pure (e_ia_vwi rfl rfl (by omega) rfl) ?_
    | refine wG_pure (e_ia_vwn rfl rfl (by omega) (by omega) rfl) ?_
    | refine wG_n rfl rfl ?_
    | refine wG_u rfl rfl ?_
    | refine wG_new (o_mks rfl rfl (by omega) (by decide)) ?_))
    refine ret_intE (.inr rfl) ⟨_, retV_mv rfl, ?_⟩
    unfold wgt
    rw [if_pos hy]
  · rw [decide_eq_false hy] at c1
    repeat (first | refine wG_call c1 rfl rfl ?_ | (first
    | refine wC_a rfl ?_
    | refine q_s rfl ?_
    | refine q_b rfl ?_
    | refine wG_nil ?_
    | refine wG_g rfl ?_
    | refine wG_pure (o_len_vwm rfl) ?_
    | refine wG_pure (o_not_d rfl) ?_
    | refine wG_p rfl (by first | exact rfl | omega) ?_
    | refine wG_pure (o_not rfl) ?_
    | refine wG_pure (e_ia_vw0 rfl rfl (by omega) rfl) ?_
    | refine wG_pure (e_ia_vwp rfl rfl (by omega) rfl) ?_
    | refine wG_pure (e_ia_vwm rfl rfl (by omega) (by omega) rfl) ?_
    | refine wG_pure (e_ia_vwi rfl rfl (by omega) rfl) ?_
    | refine wG_pure (e_ia_vwn rfl rfl (by omega) (by omega) rfl) ?_
    | refine wG_n rfl rfl ?_
    | refine wG_u rfl rfl ?_
    | refine wG_new (o_mks rfl rfl (by omega) (by decide)) ?_))
    refine ret_intE (.inr rfl) ⟨_, retV_mv rfl, ?_⟩
    unfold wgt
    rw [if_neg hy]
theorem con44 (nn : Bool) (xs : List CP) (hG : Good xs) (m : Ms) (hm : okM m) (year : Int) : Con Try.prog 44 true [.vw nn (xs.map cpRow), .agg (msRow m), .int .i64 year] (.int .i64 (wgt xs m year)) [] := by
  refine con_of_wp mixed fun44 (by simp) [] plain_nil ?_
  unfold ac44 ro44
  simp only [zipT]
  have c1 := con41 nn xs hG
  have c3 := con32 year (yr xs 0) (yr xs (xs.length - 1))
  have hm1 := hm.1
  have hm2 := hm.2
  by_cases hy : inYears xs year
  · rw [decide_eq_true (show yr xs 0 ≤ year ∧ year ≤ yr xs (xs.length - 1) from hy)] at c3
    have c2 := con60 nn xs hG year hy
    have hb := at_b hG hy
    repeat (first | refine wG_call c1 rfl rfl ?_ | refine wG_call c2 rfl rfl ?_ | refine wG_call c3 rfl rfl ?_ | (first
    | refine wC_a rfl ?_
    | refine q_s rfl ?_
    | refine q_b rfl ?_
    | refine wG_nil ?_
    | refine wG_g rfl ?_
    | refine wG_pure (o_len_vwm rfl) ?_
    | refine wG_pure (o_not_d rfl) ?_
    | refine wG_p rfl (by first | exact rfl | omega) ?_
    | refine wG_pure (o_not rfl) ?_
    | refine wG_pure (e_ia_vw0 rfl rfl (by omega) rfl) ?_
    | refine wG_pure (e_ia_vwp rfl rfl (by omega) rfl) ?_
    | refine wG_pure (e_ia_vwm rfl rfl (by omega) (by omega) rfl) ?_
    | refine wG_pure (e_ia_vwi rfl rfl (by omega) rfl) ?_
    | refine wG_pure (e_ia_vwn rfl rfl (by omega) (by omega) rfl) ?_
    | refine wG_n rfl rfl ?_
    | refine wG_u rfl rfl ?_
    | refine wG_new (o_mks rfl rfl (by omega) (by decide)) ?_))
    refine ret_intE (.inr rfl) ⟨_, retV_mv rfl, ?_⟩
    unfold wgt
    rw [if_pos hy]
    omega
  · rw [decide_eq_false (show ¬ (yr xs 0 ≤ year ∧ year ≤ yr xs (xs.length - 1)) from hy)] at c3
    repeat (first | refine wG_call c1 rfl rfl ?_ | refine wG_call c3 rfl rfl ?_ | (first
    | refine wC_a rfl ?_
    | refine q_s rfl ?_
    | refine q_b rfl ?_
    | refine wG_nil ?_
    | refine wG_g rfl ?_
    | refine wG_pure (o_len_vwm rfl) ?_
    | refine wG_pure (o_not_d rfl) ?_
    | refine wG_p rfl (by first | exact rfl | omega) ?_
    | refine wG_pure (o_not rfl) ?_
    | refine wG_pure (e_ia_vw0 rfl rfl (by omega) rfl) ?_
    | refine wG_pure (e_ia_vwp rfl rfl (by omega) rfl) ?_
    | refine wG_pure (e_ia_vwm rfl rfl (by omega) (by omega) rfl) ?_
    | refine wG_pure (e_ia_vwi rfl rfl (by omega) rfl) ?_
    | refine wG_pure (e_ia_vwn rfl rfl (by omega) (by omega) rfl) ?_
    | refine wG_n rfl rfl ?_
    | refine wG_u rfl rfl ?_
    | refine wG_new (o_mks rfl rfl (by omega) (by decide)) ?_))
    refine ret_intE (.inr rfl) ⟨_, retV_mv rfl, ?_⟩
    unfold wgt
    rw [if_neg hy]
end Go.Proofs.Ytkkcplcgafndgaa.Cal
