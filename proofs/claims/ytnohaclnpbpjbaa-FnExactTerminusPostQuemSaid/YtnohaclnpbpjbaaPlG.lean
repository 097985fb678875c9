/- The law on the quantile of the greatest of independent years. -/
import Derived.Test.YtnohaclnpbpjbaaPlC
import Derived.Test.YtnohaclnpbpjbaaPlD
import Derived.Test.YtnohaclnpbpjbaaQtyA
namespace Go.Proofs.Ytnohaclnpbpjbaa.Dst
open Go Go.Proofs.Ytnohaclnpbpjbaa.Ab Go.Proofs.Ytnohaclnpbpjbaa.Il
attribute [local irreducible] wpO wpC wpDr wpQ wpG wpE stepA seqQ blkQ Ret RetG ev
set_option maxRecDepth 10000
set_option maxHeartbeats 8000000
set_option linter.unusedSimpArgs false
set_option linter.unusedVariables false

def ac5 : AC := (.seq (.reg [⟨(some 6), none, (.mv (.c (.bool false)))⟩]) (.seq (.reg [⟨(some 7), none, (.mv (.c (.int .i64 1048576)))⟩]) (.seq (.reg [⟨(some 13), none, (.mv (.t 0))⟩, ⟨(some 14), none, (.mv (.t 7))⟩, ⟨(some 15), none, (.call 16 [(.t 13), (.t 14)])⟩, ⟨(some 7), none, (.mv (.t 15))⟩]) (.seq (.seq (.reg [⟨(some 16), none, (.mv (.t 7))⟩, ⟨(some 17), none, (.bin .lss (.t 16) (.c (.int .i64 0)))⟩]) (.cond (.t 17) (.seq (.reg [⟨(some 6), none, (.mv (.c (.bool true)))⟩]) .ret) .skip)) (.seq (.reg [⟨(some 19), none, (.mv (.t 0))⟩, ⟨(some 20), none, (.call 18 [(.t 19)])⟩, ⟨(some 21), none, (.mv (.t 1))⟩, ⟨(some 22), none, (.mv (.t 2))⟩, ⟨(some 23), none, (.call 25 [(.t 20), (.t 21), (.t 22)])⟩, ⟨(some 18), none, (.mv (.t 23))⟩, ⟨(some 24), none, (.ext (.t 18) 0)⟩, ⟨(some 25), none, (.ext (.t 18) 1)⟩, ⟨(some 8), none, (.mv (.t 24))⟩, ⟨(some 9), none, (.mv (.t 25))⟩]) (.seq (.reg [⟨(some 26), none, (.mv (.t 0))⟩, ⟨(some 27), none, (.call 18 [(.t 26)])⟩, ⟨(some 10), none, (.mv (.t 27))⟩]) (.seq (.reg [⟨(some 29), none, (.mv (.t 10))⟩, ⟨(some 30), none, (.mv (.t 1))⟩, ⟨(some 31), none, (.mv (.t 2))⟩, ⟨(some 32), none, (.call 26 [(.t 29), (.t 30), (.t 31)])⟩, ⟨(some 28), none, (.mv (.t 32))⟩, ⟨(some 33), none, (.ext (.t 28) 0)⟩, ⟨(some 34), none, (.ext (.t 28) 1)⟩, ⟨(some 11), none, (.mv (.t 33))⟩, ⟨(some 12), none, (.mv (.t 34))⟩]) (.seq (.seq (.reg [⟨(some 35), none, (.mv (.t 11))⟩, ⟨(some 36), none, (.mv (.t 8))⟩, ⟨(some 37), none, (.bin .neq (.t 35) (.t 36))⟩, ⟨(some 38), none, (.mv (.t 37))⟩, ⟨(some 39), (some (38, false)), (.mv (.t 12))⟩, ⟨(some 40), (some (38, false)), (.mv (.t 9))⟩, ⟨(some 41), (some (38, false)), (.bool2 true (.t 39) (.t 40))⟩, ⟨(some 42), none, (.pick (.t 38) (.c (.bool true)) (.t 41))⟩]) (.cond (.t 42) (.seq (.reg [⟨(some 6), none, (.mv (.c (.bool false)))⟩]) .ret) .skip)) (.seq (.seq (.reg [⟨(some 43), none, (.mv (.t 10))⟩, ⟨(some 44), none, (.mv (.t 0))⟩, ⟨(some 45), none, (.call 18 [(.t 44)])⟩, ⟨(some 46), none, (.call 21 [(.t 43), (.t 45)])⟩, ⟨(some 47), none, (.un .not (.t 46))⟩]) (.cond (.t 47) (.seq (.reg [⟨(some 6), none, (.mv (.c (.bool false)))⟩]) .ret) .skip)) (.seq (.reg [⟨(some 6), none, (.mv (.c (.bool true)))⟩]) .ret))))))))))
def ro5 : List AOp := [(.mv (.t 6))]
theorem fun5 : Fun Try.prog 5 48 ac5 ro5 := ⟨Try.f5, _, Try.func5, by kernel_rfl, rfl, rfl, by kernel_rfl, by kernel_rfl, by decide⟩
def ac25 : AC := (.seq (.reg [⟨(some 6), none, (.mv (.c (.int .i64 0)))⟩, ⟨(some 7), none, (.mv (.c (.bool false)))⟩]) (.seq (.reg [⟨(some 11), none, (.mv (.t 0))⟩, ⟨(some 12), none, (.call 17 [(.t 11)])⟩, ⟨(some 10), none, (.mv (.t 12))⟩, ⟨(some 13), none, (.ext (.t 10) 0)⟩, ⟨(some 14), none, (.ext (.t 10) 1)⟩, ⟨(some 8), none, (.alloc [(.int .i64 0), .nilS])⟩, ⟨none, none, (.st 2 (.t 8) (.t 13))⟩, ⟨(some 9), none, (.mv (.t 14))⟩]) (.seq (.seq (.reg [⟨(some 15), none, (.mv (.t 9))⟩, ⟨(some 16), none, (.un .not (.t 15))⟩]) (.cond (.t 16) (.seq (.reg [⟨(some 6), none, (.mv (.c (.int .i64 0)))⟩, ⟨(some 7), none, (.mv (.c (.bool false)))⟩]) .ret) .skip)) (.seq (.reg [⟨(some 17), none, (.ld true 2 (.t 8))⟩, ⟨(some 18), none, (.mv (.t 1))⟩, ⟨(some 19), none, (.mv (.t 2))⟩, ⟨(some 20), none, (.call 60 [(.t 17), (.t 18), (.t 19)])⟩, ⟨(some 21), none, (.ext (.t 20) 0)⟩, ⟨(some 22), none, (.ext (.t 20) 1)⟩, ⟨(some 6), none, (.mv (.t 21))⟩, ⟨(some 7), none, (.mv (.t 22))⟩]) .ret))))
def ro25 : List AOp := [(.mv (.t 6)), (.mv (.t 7))]
theorem fun25 : Fun Try.prog 25 23 ac25 ro25 := ⟨Try.f25, _, Try.func25, by kernel_rfl, rfl, rfl, by kernel_rfl, by kernel_rfl, by decide⟩
def ac26 : AC := (.seq (.reg [⟨(some 6), none, (.mv (.c (.int .i64 0)))⟩, ⟨(some 7), none, (.mv (.c (.bool false)))⟩]) (.seq (.reg [⟨(some 11), none, (.mv (.t 0))⟩, ⟨(some 12), none, (.call 19 [(.t 11)])⟩, ⟨(some 10), none, (.mv (.t 12))⟩, ⟨(some 13), none, (.ext (.t 10) 0)⟩, ⟨(some 14), none, (.ext (.t 10) 1)⟩, ⟨(some 8), none, (.alloc [(.int .i64 0), .nilS])⟩, ⟨none, none, (.st 2 (.t 8) (.t 13))⟩, ⟨(some 9), none, (.mv (.t 14))⟩]) (.seq (.seq (.reg [⟨(some 15), none, (.mv (.t 9))⟩, ⟨(some 16), none, (.un .not (.t 15))⟩]) (.cond (.t 16) (.seq (.reg [⟨(some 6), none, (.mv (.c (.int .i64 0)))⟩, ⟨(some 7), none, (.mv (.c (.bool false)))⟩]) .ret) .skip)) (.seq (.reg [⟨(some 17), none, (.ld true 2 (.t 8))⟩, ⟨(some 18), none, (.mv (.t 1))⟩, ⟨(some 19), none, (.mv (.t 2))⟩, ⟨(some 20), none, (.call 61 [(.t 17), (.t 18), (.t 19)])⟩, ⟨(some 21), none, (.ext (.t 20) 0)⟩, ⟨(some 22), none, (.ext (.t 20) 1)⟩, ⟨(some 6), none, (.mv (.t 21))⟩, ⟨(some 7), none, (.mv (.t 22))⟩]) .ret))))
def ro26 : List AOp := [(.mv (.t 6)), (.mv (.t 7))]
theorem fun26 : Fun Try.prog 26 23 ac26 ro26 := ⟨Try.f26, _, Try.func26, by kernel_rfl, rfl, rfl, by kernel_rfl, by kernel_rfl, by decide⟩

theorem con25_yes (nn : Bool) (xs : List Dn) (num den f : Int) (vs : List Int) (hv : vs.length ≤ 60) (c1 : Con Try.prog 17 true [.vw nn (xs.map nD)] (.tup [.agg [.int .i64 f, .sl 0 1 0 vs.length], .bool true]) [vs.map iRow]) {z : Int} {p : Bool} (c2 : Con Try.prog 60 true [.agg (dRow true ⟨f, vs⟩), .int .i64 num, .int .i64 den] (.tup [.int .i64 z, .bool p]) []) : Con Try.prog 25 true [.vw nn (xs.map nD), .int .i64 num, .int .i64 den] (.tup [.int .i64 z, .bool p]) [] := by
  refine con_of_wp mixed fun25 (by simp) [] plain_nil ?_
  unfold ac25 ro25
  simp only [zipT]
  unfold dRow at c2
  simp only at c2
  repeat (first | refine wG_call1 c1 rfl rfl ?_ | refine wG_call c2 (ag_is rfl rfl rfl iRow_plain (ag_int rfl (ag_int rfl ag_nil))) rfl ?_ | (first
    | refine wC_a rfl ?_
    | refine q_s rfl ?_
    | refine q_b rfl ?_
    | refine wG_nil ?_
    | refine wG_g rfl ?_
    | refine wG_pure (o_len_vwm rfl) ?_
    | refine wG_pure (o_not_d rfl) ?_
    | refine wG_p rfl (by first | exact rfl | omega) ?_
    | refine wG_pure (o_str2 rfl rfl rfl) ?_
    | refine wG_pure (e_istr rfl rfl (by omega)) ?_
    | refine wG_pure (e_istr0 rfl rfl (by omega)) ?_
    | refine wG_pure (o_not rfl) ?_
    | refine wG_pure (e_ia_vw0 rfl rfl (by omega) rfl) ?_
    | refine wG_pure (e_ia_vwp rfl rfl (by omega) rfl) ?_
    | refine wG_pure (e_ia_vwm rfl rfl (by omega) (by omega) rfl) ?_
    | refine wG_pure (e_ia_vwi rfl rfl (by omega) rfl) ?_
    | refine wG_pure (e_ia_vwn rfl rfl (by omega) (by omega) rfl) ?_
    | refine wG_n rfl rfl ?_
    | refine wG_u rfl rfl ?_
    | refine wG_new (o_mks rfl rfl (by omega) (by decide)) ?_))
  exact ret_pl (.inr rfl) (retVs_2 (retV_mv rfl) (retV_mv rfl)) rfl rfl (by simp)
theorem con25_no (nn : Bool) (xs : List Dn) (num den : Int) (c1 : Con Try.prog 17 true [.vw nn (xs.map nD)] (.tup [.agg [.int .i64 0, .nilS], .bool false]) []) : Con Try.prog 25 true [.vw nn (xs.map nD), .int .i64 num, .int .i64 den] (.tup [.int .i64 0, .bool false]) [] := by
  refine con_of_wp mixed fun25 (by simp) [] plain_nil ?_
  unfold ac25 ro25
  simp only [zipT]
  repeat (first | refine wG_call c1 rfl rfl ?_ | (first
    | refine wC_a rfl ?_
    | refine q_s rfl ?_
    | refine q_b rfl ?_
    | refine wG_nil ?_
    | refine wG_g rfl ?_
    | refine wG_pure (o_len_vwm rfl) ?_
    | refine wG_pure (o_not_d rfl) ?_
    | refine wG_p rfl (by first | exact rfl | omega) ?_
    | refine wG_pure (o_str2 rfl rfl rfl) ?_
    | refine wG_pure (e_istr rfl rfl (by omega)) ?_
    | refine wG_pure (e_istr0 rfl rfl (by omega)) ?_
    | refine wG_pure (o_not rfl) ?_
    | refine wG_pure (e_ia_vw0 rfl rfl (by omega) rfl) ?_
    | refine wG_pure (e_ia_vwp rfl rfl (by omega) rfl) ?_
    | refine wG_pure (e_ia_vwm rfl rfl (by omega) (by omega) rfl) ?_
    | refine wG_pure (e_ia_vwi rfl rfl (by omega) rfl) ?_
    | refine wG_pure (e_ia_vwn rfl rfl (by omega) (by omega) rfl) ?_
    | refine wG_n rfl rfl ?_
    | refine wG_u rfl rfl ?_
    | refine wG_new (o_mks rfl rfl (by omega) (by decide)) ?_))
  exact ret_pl (.inr rfl) (retVs_2 (retV_mv rfl) (retV_mv rfl)) rfl rfl (by simp)
theorem con26_yes (nn : Bool) (xs : List Dn) (num den f : Int) (vs : List Int) (hv : vs.length ≤ 60) (c1 : Con Try.prog 19 true [.vw nn (xs.map nD)] (.tup [.agg [.int .i64 f, .sl 0 1 0 vs.length], .bool true]) [vs.map iRow]) {z : Int} {p : Bool} (c2 : Con Try.prog 61 true [.agg (dRow true ⟨f, vs⟩), .int .i64 num, .int .i64 den] (.tup [.int .i64 z, .bool p]) []) : Con Try.prog 26 true [.vw nn (xs.map nD), .int .i64 num, .int .i64 den] (.tup [.int .i64 z, .bool p]) [] := by
  refine con_of_wp mixed fun26 (by simp) [] plain_nil ?_
  unfold ac26 ro26
  simp only [zipT]
  unfold dRow at c2
  simp only at c2
  repeat (first | refine wG_call1 c1 rfl rfl ?_ | refine wG_call c2 (ag_is rfl rfl rfl iRow_plain (ag_int rfl (ag_int rfl ag_nil))) rfl ?_ | (first
    | refine wC_a rfl ?_
    | refine q_s rfl ?_
    | refine q_b rfl ?_
    | refine wG_nil ?_
    | refine wG_g rfl ?_
    | refine wG_pure (o_len_vwm rfl) ?_
    | refine wG_pure (o_not_d rfl) ?_
    | refine wG_p rfl (by first | exact rfl | omega) ?_
    | refine wG_pure (o_str2 rfl rfl rfl) ?_
    | refine wG_pure (e_istr rfl rfl (by omega)) ?_
    | refine wG_pure (e_istr0 rfl rfl (by omega)) ?_
    | refine wG_pure (o_not rfl) ?_
    | refine wG_pure (e_ia_vw0 rfl rfl (by omega) rfl) ?_
    | refine wG_pure (e_ia_vwp rfl rfl (by omega) rfl) ?_
    | refine wG_pure (e_ia_vwm rfl rfl (by omega) (by omega) rfl) ?_
    | refine wG_pure (e_ia_vwi rfl rfl (by omega) rfl) ?_
    | refine wG_pure (e_ia_vwn rfl rfl (by omega) (by omega) rfl) ?_
    | refine wG_n rfl rfl ?_
    | refine wG_u rfl rfl ?_
    | refine wG_new (o_mks rfl rfl (by omega) (by decide)) ?_))
  exact ret_pl (.inr rfl) (retVs_2 (retV_mv rfl) (retV_mv rfl)) rfl rfl (by simp)
theorem con26_no (nn : Bool) (xs : List Dn) (num den : Int) (c1 : Con Try.prog 19 true [.vw nn (xs.map nD)] (.tup [.agg [.int .i64 0, .nilS], .bool false]) []) : Con Try.prog 26 true [.vw nn (xs.map nD), .int .i64 num, .int .i64 den] (.tup [.int .i64 0, .bool false]) [] := by
  refine con_of_wp mixed fun26 (by simp) [] plain_nil ?_
  unfold ac26 ro26
  simp only [zipT]
  repeat (first | refine wG_call c1 rfl rfl ?_ | (first
    | refine wC_a rfl ?_
    | refine q_s rfl ?_
    | refine q_b rfl ?_
    | refine wG_nil ?_
    | refine wG_g rfl ?_
    | refine wG_pure (o_len_vwm rfl) ?_
    | refine wG_pure (o_not_d rfl) ?_
    | refine wG_p rfl (by first | exact rfl | omega) ?_
    | refine wG_pure (o_str2 rfl rfl rfl) ?_
    | refine wG_pure (e_istr rfl rfl (by omega)) ?_
    | refine wG_pure (e_istr0 rfl rfl (by omega)) ?_
    | refine wG_pure (o_not rfl) ?_
    | refine wG_pure (e_ia_vw0 rfl rfl (by omega) rfl) ?_
    | refine wG_pure (e_ia_vwp rfl rfl (by omega) rfl) ?_
    | refine wG_pure (e_ia_vwm rfl rfl (by omega) (by omega) rfl) ?_
    | refine wG_pure (e_ia_vwi rfl rfl (by omega) rfl) ?_
    | refine wG_pure (e_ia_vwn rfl rfl (by omega) (by omega) rfl) ?_
    | refine wG_n rfl rfl ?_
    | refine wG_u rfl rfl ?_
    | refine wG_new (o_mks rfl rfl (by omega) (by decide)) ?_))
  exact ret_pl (.inr rfl) (retVs_2 (retV_mv rfl) (retV_mv rfl)) rfl rfl (by simp)
theorem diQ (xs : List Dn) (h3 : xs.length ≤ 1048576) (hL : LenN xs 1048576) (num den : Int) : ∃ (z : Int) (p : Bool), Con Try.prog 25 true [.vw true (xs.map nD), .int .i64 num, .int .i64 den] (.tup [.int .i64 z, .bool p]) [] ∧ Con Try.prog 26 true [.vw true (xs.map nD), .int .i64 num, .int .i64 den] (.tup [.int .i64 z, .bool p]) [] := by
  classical
  rcases diL xs h3 hL with ⟨f, vs, hv, cS, cI⟩ | ⟨cS, cI⟩
  · exact ⟨_, _, con25_yes true xs num den f vs hv cS (con60 true ⟨f, vs⟩ (by show vs.length ≤ _; omega) num den), con26_yes true xs num den f vs hv cI (con61 true ⟨f, vs⟩ (by show vs.length ≤ _; omega) num den)⟩
  · exact ⟨_, _, con25_no true xs num den cS, con26_no true xs num den cI⟩
theorem con5 (nn : Bool) (xs : List Dn) (x y : Int) (h3 : xs.length ≤ 9223372036854775807) (hL : LenN xs 9223372036854775807) : Con Try.prog 5 true [.vw nn (xs.map nD), .int .i64 x, .int .i64 y] (.bool true) [] := by
  classical
  refine con_of_wp mixed fun5 (by simp) [] plain_nil ?_
  unfold ac5 ro5
  simp only [zipT]
  have c1 := con16 nn xs h3 hL 1048576 (by decide) (by decide)
  by_cases hD2 : szD 1048576 xs < 0
  · have d0 : decide (szD 1048576 xs < 0) = true := decide_eq_true hD2
    repeat (first | refine wG_call c1 rfl rfl ?_ | (first
    | refine wC_a rfl ?_
    | refine q_s rfl ?_
    | refine q_b rfl ?_
    | refine wG_nil ?_
    | refine wG_g rfl ?_
    | refine wG_pure (o_len_vwm rfl) ?_
    | refine wG_pure (o_not_d rfl) ?_
    | refine wG_p rfl (by first | exact rfl | omega) ?_
    | refine wG_pure (o_str2 rfl rfl rfl) ?_
    | refine wG_pure (e_istr rfl rfl (by omega)) ?_
    | refine wG_pure (e_istr0 rfl rfl (by omega)) ?_
    | refine wG_pure (o_not rfl) ?_
    | refine wG_pure (e_ia_vw0 rfl rfl (by omega) rfl) ?_
    | refine wG_pure (e_ia_vwp rfl rfl (by omega) rfl) ?_
    | refine wG_pure (e_ia_vwm rfl rfl (by omega) (by omega) rfl) ?_
    | refine wG_pure (e_ia_vwi rfl rfl (by omega) rfl) ?_
    | refine wG_pure (e_ia_vwn rfl rfl (by omega) (by omega) rfl) ?_
    | refine wG_n rfl rfl ?_
    | refine wG_u rfl rfl ?_
    | refine wG_new (o_mks rfl rfl (by omega) (by decide)) ?_))
    simp only [d0]
    repeat (first
    | refine wC_a rfl ?_
    | refine q_s rfl ?_
    | refine q_b rfl ?_
    | refine wG_nil ?_
    | refine wG_g rfl ?_
    | refine wG_pure (o_len_vwm rfl) ?_
    | refine wG_pure (o_not_d rfl) ?_
    | refine wG_p rfl (by first | exact rfl | omega) ?_
    | refine wG_pure (o_str2 rfl rfl rfl) ?_
    | refine wG_pure (e_istr rfl rfl (by omega)) ?_
    | refine wG_pure (e_istr0 rfl rfl (by omega)) ?_
    | refine wG_pure (o_not rfl) ?_
    | refine wG_pure (e_ia_vw0 rfl rfl (by omega) rfl) ?_
    | refine wG_pure (e_ia_vwp rfl rfl (by omega) rfl) ?_
    | refine wG_pure (e_ia_vwm rfl rfl (by omega) (by omega) rfl) ?_
    | refine wG_pure (e_ia_vwi rfl rfl (by omega) rfl) ?_
    | refine wG_pure (e_ia_vwn rfl rfl (by omega) (by omega) rfl) ?_
    | refine wG_n rfl rfl ?_
    | refine wG_u rfl rfl ?_
    | refine wG_new (o_mks rfl rfl (by omega) (by decide)) ?_)
    exact ret_boolE (.inr rfl) ⟨_, retV_mv rfl, rfl⟩
  obtain ⟨s4, s5, s6⟩ := szD_ok (Int.not_lt.1 hD2)
  have h3' : xs.length ≤ 1048576 := by omega
  have hL' : LenN xs 1048576 := fun i hi => by have := s5 i hi; omega
  have h3t : (tD xs).length ≤ 1048576 := by rw [tD_len]; exact h3'
  have hLt := hL'.t
  have cT := con18 nn xs h3' hL'
  obtain ⟨z, p, cS, cI⟩ := diQ (tD xs) h3t hLt x y
  have cE := con21 true true (tD xs) h3t hLt
  have hlen := tdO_len xs
  have d0 : decide (szD 1048576 xs < 0) = false := decide_eq_false hD2
  have dz : decide (z ≠ z) = false := decide_eq_false (fun h => h rfl)
  have dp : decide (p ≠ p) = false := decide_eq_false (fun h => h rfl)
  repeat (first | refine wG_call c1 rfl rfl ?_ | (first
    | refine wC_a rfl ?_
    | refine q_s rfl ?_
    | refine q_b rfl ?_
    | refine wG_nil ?_
    | refine wG_g rfl ?_
    | refine wG_pure (o_len_vwm rfl) ?_
    | refine wG_pure (o_not_d rfl) ?_
    | refine wG_p rfl (by first | exact rfl | omega) ?_
    | refine wG_pure (o_str2 rfl rfl rfl) ?_
    | refine wG_pure (e_istr rfl rfl (by omega)) ?_
    | refine wG_pure (e_istr0 rfl rfl (by omega)) ?_
    | refine wG_pure (o_not rfl) ?_
    | refine wG_pure (e_ia_vw0 rfl rfl (by omega) rfl) ?_
    | refine wG_pure (e_ia_vwp rfl rfl (by omega) rfl) ?_
    | refine wG_pure (e_ia_vwm rfl rfl (by omega) (by omega) rfl) ?_
    | refine wG_pure (e_ia_vwi rfl rfl (by omega) rfl) ?_
    | refine wG_pure (e_ia_vwn rfl rfl (by omega) (by omega) rfl) ?_
    | refine wG_n rfl rfl ?_
    | refine wG_u rfl rfl ?_
    | refine wG_new (o_mks rfl rfl (by omega) (by decide)) ?_))
  simp only [d0]
  repeat (first
    | refine wC_a rfl ?_
    | refine q_s rfl ?_
    | refine q_b rfl ?_
    | refine wG_nil ?_
    | refine wG_g rfl ?_
    | refine wG_pure (o_len_vwm rfl) ?_
    | refine wG_pure (o_not_d rfl) ?_
    | refine wG_p rfl (by first | exact rfl | omega) ?_
    | refine wG_pure (o_str2 rfl rfl rfl) ?_
    | refine wG_pure (e_istr rfl rfl (by omega)) ?_
    | refine wG_pure (e_istr0 rfl rfl (by omega)) ?_
    | refine wG_pure (o_not rfl) ?_
    | refine wG_pure (e_ia_vw0 rfl rfl (by omega) rfl) ?_
    | refine wG_pure (e_ia_vwp rfl rfl (by omega) rfl) ?_
    | refine wG_pure (e_ia_vwm rfl rfl (by omega) (by omega) rfl) ?_
    | refine wG_pure (e_ia_vwi rfl rfl (by omega) rfl) ?_
    | refine wG_pure (e_ia_vwn rfl rfl (by omega) (by omega) rfl) ?_
    | refine wG_n rfl rfl ?_
    | refine wG_u rfl rfl ?_
    | refine wG_new (o_mks rfl rfl (by omega) (by decide)) ?_)
  refine wG_callG (v' := .sl 0 2 0 xs.length) cT rfl rfl rfl ?_
  change wpG _ _ _ ⟨_, tdH 0 xs _, _⟩ _
  obtain ⟨y1, hy1⟩ : ∃ y1, 0 + (tdO xs).length = y1 := ⟨_, rfl⟩
  rw [hy1]
  repeat (first | refine wG_call cS (ag_any (dr_td xs (fun i rows hi => tdH_in hi)) (ag_int rfl (ag_int rfl ag_nil))) rfl ?_ | (first
    | refine wC_a rfl ?_
    | refine q_s rfl ?_
    | refine q_b rfl ?_
    | refine wG_nil ?_
    | refine wG_g rfl ?_
    | refine wG_pure (o_len_vwm rfl) ?_
    | refine wG_pure (o_not_d rfl) ?_
    | refine wG_p rfl (by first | exact rfl | omega) ?_
    | refine wG_pure (o_str2 rfl rfl rfl) ?_
    | refine wG_pure (e_istr rfl rfl (by omega)) ?_
    | refine wG_pure (e_istr0 rfl rfl (by omega)) ?_
    | refine wG_pure (o_not rfl) ?_
    | refine wG_pure (e_ia_vw0 rfl rfl (by omega) rfl) ?_
    | refine wG_pure (e_ia_vwp rfl rfl (by omega) rfl) ?_
    | refine wG_pure (e_ia_vwm rfl rfl (by omega) (by omega) rfl) ?_
    | refine wG_pure (e_ia_vwi rfl rfl (by omega) rfl) ?_
    | refine wG_pure (e_ia_vwn rfl rfl (by omega) (by omega) rfl) ?_
    | refine wG_n rfl rfl ?_
    | refine wG_u rfl rfl ?_
    | refine wG_new (o_mks rfl rfl (by omega) (by decide)) ?_))
  refine wG_callG (v' := .sl y1 2 0 xs.length) cT rfl rfl rfl ?_
  change wpG _ _ _ ⟨_, tdH y1 xs _, _⟩ _
  obtain ⟨b0, hb0⟩ : ∃ b0, y1 + (tdO xs).length = b0 := ⟨_, rfl⟩
  rw [hb0]
  have hx1 : ∀ {h : List (Nat × Option Ab.Rows)} (i : Nat) (rows : Ab.Rows), (tdO xs)[i]? = some rows → hg (tdH b0 xs (tdH y1 xs h)) (y1 + i) = some (shR y1 rows) := fun i rows hi => by
    have := tdO_lt hi
    exact tdH_out (by omega) (tdH_in hi)
  repeat (first | refine wG_call cI (ag_any (dr_td xs (fun i rows hi => tdH_in hi)) (ag_int rfl (ag_int rfl ag_nil))) rfl ?_ | (first
    | refine wC_a rfl ?_
    | refine q_s rfl ?_
    | refine q_b rfl ?_
    | refine wG_nil ?_
    | refine wG_g rfl ?_
    | refine wG_pure (o_len_vwm rfl) ?_
    | refine wG_pure (o_not_d rfl) ?_
    | refine wG_p rfl (by first | exact rfl | omega) ?_
    | refine wG_pure (o_str2 rfl rfl rfl) ?_
    | refine wG_pure (e_istr rfl rfl (by omega)) ?_
    | refine wG_pure (e_istr0 rfl rfl (by omega)) ?_
    | refine wG_pure (o_not rfl) ?_
    | refine wG_pure (e_ia_vw0 rfl rfl (by omega) rfl) ?_
    | refine wG_pure (e_ia_vwp rfl rfl (by omega) rfl) ?_
    | refine wG_pure (e_ia_vwm rfl rfl (by omega) (by omega) rfl) ?_
    | refine wG_pure (e_ia_vwi rfl rfl (by omega) rfl) ?_
    | refine wG_pure (e_ia_vwn rfl rfl (by omega) (by omega) rfl) ?_
    | refine wG_n rfl rfl ?_
    | refine wG_u rfl rfl ?_
    | refine wG_new (o_mks rfl rfl (by omega) (by decide)) ?_))
  simp only [dz]
  repeat (first
    | refine wC_a rfl ?_
    | refine q_s rfl ?_
    | refine q_b rfl ?_
    | refine wG_nil ?_
    | refine wG_g rfl ?_
    | refine wG_pure (o_len_vwm rfl) ?_
    | refine wG_pure (o_not_d rfl) ?_
    | refine wG_p rfl (by first | exact rfl | omega) ?_
    | refine wG_pure (o_str2 rfl rfl rfl) ?_
    | refine wG_pure (e_istr rfl rfl (by omega)) ?_
    | refine wG_pure (e_istr0 rfl rfl (by omega)) ?_
    | refine wG_pure (o_not rfl) ?_
    | refine wG_pure (e_ia_vw0 rfl rfl (by omega) rfl) ?_
    | refine wG_pure (e_ia_vwp rfl rfl (by omega) rfl) ?_
    | refine wG_pure (e_ia_vwm rfl rfl (by omega) (by omega) rfl) ?_
    | refine wG_pure (e_ia_vwi rfl rfl (by omega) rfl) ?_
    | refine wG_pure (e_ia_vwn rfl rfl (by omega) (by omega) rfl) ?_
    | refine wG_n rfl rfl ?_
    | refine wG_u rfl rfl ?_
    | refine wG_new (o_mks rfl rfl (by omega) (by decide)) ?_)
  simp only [dp]
  repeat (first
    | refine wC_a rfl ?_
    | refine q_s rfl ?_
    | refine q_b rfl ?_
    | refine wG_nil ?_
    | refine wG_g rfl ?_
    | refine wG_pure (o_len_vwm rfl) ?_
    | refine wG_pure (o_not_d rfl) ?_
    | refine wG_p rfl (by first | exact rfl | omega) ?_
    | refine wG_pure (o_str2 rfl rfl rfl) ?_
    | refine wG_pure (e_istr rfl rfl (by omega)) ?_
    | refine wG_pure (e_istr0 rfl rfl (by omega)) ?_
    | refine wG_pure (o_not rfl) ?_
    | refine wG_pure (e_ia_vw0 rfl rfl (by omega) rfl) ?_
    | refine wG_pure (e_ia_vwp rfl rfl (by omega) rfl) ?_
    | refine wG_pure (e_ia_vwm rfl rfl (by omega) (by omega) rfl) ?_
    | refine wG_pure (e_ia_vwi rfl rfl (by omega) rfl) ?_
    | refine wG_pure (e_ia_vwn rfl rfl (by omega) (by omega) rfl) ?_
    | refine wG_n rfl rfl ?_
    | refine wG_u rfl rfl ?_
    | refine wG_new (o_mks rfl rfl (by omega) (by decide)) ?_)
  refine wG_callG (v' := .sl b0 2 0 xs.length) cT rfl rfl rfl ?_
  change wpG _ _ _ ⟨_, tdH b0 xs _, _⟩ _
  repeat (first | refine wG_call cE (ag_any (dr_td xs hx1) (ag_any (dr_td xs (fun i rows hi => tdH_in hi)) ag_nil)) rfl ?_ | (first
    | refine wC_a rfl ?_
    | refine q_s rfl ?_
    | refine q_b rfl ?_
    | refine wG_nil ?_
    | refine wG_g rfl ?_
    | refine wG_pure (o_len_vwm rfl) ?_
    | refine wG_pure (o_not_d rfl) ?_
    | refine wG_p rfl (by first | exact rfl | omega) ?_
    | refine wG_pure (o_str2 rfl rfl rfl) ?_
    | refine wG_pure (e_istr rfl rfl (by omega)) ?_
    | refine wG_pure (e_istr0 rfl rfl (by omega)) ?_
    | refine wG_pure (o_not rfl) ?_
    | refine wG_pure (e_ia_vw0 rfl rfl (by omega) rfl) ?_
    | refine wG_pure (e_ia_vwp rfl rfl (by omega) rfl) ?_
    | refine wG_pure (e_ia_vwm rfl rfl (by omega) (by omega) rfl) ?_
    | refine wG_pure (e_ia_vwi rfl rfl (by omega) rfl) ?_
    | refine wG_pure (e_ia_vwn rfl rfl (by omega) (by omega) rfl) ?_
    | refine wG_n rfl rfl ?_
    | refine wG_u rfl rfl ?_
    | refine wG_new (o_mks rfl rfl (by omega) (by decide)) ?_))
  exact ret_boolE (.inr rfl) ⟨_, retV_mv rfl, rfl⟩
end Go.Proofs.Ytnohaclnpbpjbaa.Dst
