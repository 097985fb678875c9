/- The law on the bounds of dates. -/
import Derived.Test.YtkeobnaehgcloaaDnO
import Derived.Test.YtkeobnaehgcloaaDnM
namespace Go.Proofs.Ytkeobnaehgcloaa.Dst
open Go Go.Proofs.Ytkeobnaehgcloaa.Ab Go.Proofs.Ytkeobnaehgcloaa.Il Go.Proofs.Ytkeobnaehgcloaa.Rec
attribute [local irreducible] wpO wpC wpDr wpQ wpG wpE stepA seqQ blkQ Ret RetG ev
set_option maxRecDepth 10000
set_option maxHeartbeats 8000000
set_option linter.unusedSimpArgs false
set_option linter.unusedVariables false

def ac10 : AC := (.seq (.reg [⟨(some 1), none, (.box 3 true (.t 0))⟩, ⟨(some 2), none, (.mv (.c (.bool false)))⟩]) (.seq (.reg [⟨(some 3), none, (.mv (.c (.int .i64 1048576)))⟩]) (.seq (.reg [⟨(some 17), none, (.ld true 3 (.t 1))⟩, ⟨(some 18), none, (.mv (.t 3))⟩, ⟨(some 19), none, (.call 12 [(.t 17), (.t 18)])⟩, ⟨(some 3), none, (.mv (.t 19))⟩]) (.seq (.seq (.reg [⟨(some 20), none, (.mv (.t 3))⟩, ⟨(some 21), none, (.bin .lss (.t 20) (.c (.int .i64 0)))⟩]) (.cond (.t 21) (.seq (.reg [⟨(some 2), none, (.mv (.c (.bool true)))⟩]) .ret) .skip)) (.seq (.reg [⟨(some 23), none, (.ld true 3 (.t 1))⟩, ⟨(some 24), none, (.call 15 [(.t 23)])⟩, ⟨(some 25), none, (.call 39 [(.t 24)])⟩, ⟨(some 22), none, (.mv (.t 25))⟩, ⟨(some 26), none, (.ext (.t 22) 0)⟩, ⟨(some 27), none, (.ext (.t 22) 1)⟩, ⟨(some 28), none, (.ext (.t 22) 2)⟩, ⟨(some 4), none, (.mv (.t 26))⟩, ⟨(some 5), none, (.mv (.t 27))⟩, ⟨(some 6), none, (.mv (.t 28))⟩]) (.seq (.reg [⟨(some 29), none, (.ld true 3 (.t 1))⟩, ⟨(some 30), none, (.call 15 [(.t 29)])⟩, ⟨(some 7), none, (.alloc [.nilS, .nilS, .nilS])⟩, ⟨none, none, (.st 3 (.t 7) (.t 30))⟩]) (.seq (.reg [⟨(some 32), none, (.ld true 3 (.t 7))⟩, ⟨(some 33), none, (.call 40 [(.t 32)])⟩, ⟨(some 31), none, (.mv (.t 33))⟩, ⟨(some 34), none, (.ext (.t 31) 0)⟩, ⟨(some 35), none, (.ext (.t 31) 1)⟩, ⟨(some 36), none, (.ext (.t 31) 2)⟩, ⟨(some 8), none, (.mv (.t 34))⟩, ⟨(some 9), none, (.mv (.t 35))⟩, ⟨(some 10), none, (.mv (.t 36))⟩]) (.seq (.seq (.reg [⟨(some 37), none, (.mv (.t 8))⟩, ⟨(some 38), none, (.mv (.t 4))⟩, ⟨(some 39), none, (.call 28 [(.t 37), (.t 38)])⟩, ⟨(some 40), none, (.un .not (.t 39))⟩, ⟨(some 41), none, (.mv (.t 40))⟩, ⟨(some 42), (some (41, false)), (.mv (.t 9))⟩, ⟨(some 43), (some (41, false)), (.mv (.t 5))⟩, ⟨(some 44), (some (41, false)), (.call 28 [(.t 42), (.t 43)])⟩, ⟨(some 45), (some (41, false)), (.un .not (.t 44))⟩, ⟨(some 46), none, (.pick (.t 41) (.c (.bool true)) (.t 45))⟩, ⟨(some 47), none, (.mv (.t 46))⟩, ⟨(some 48), (some (47, false)), (.mv (.t 10))⟩, ⟨(some 49), (some (47, false)), (.mv (.t 6))⟩, ⟨(some 50), (some (47, false)), (.bool2 true (.t 48) (.t 49))⟩, ⟨(some 51), none, (.pick (.t 47) (.c (.bool true)) (.t 50))⟩]) (.cond (.t 51) (.seq (.reg [⟨(some 2), none, (.mv (.c (.bool false)))⟩]) .ret) .skip)) (.seq (.seq (.dreg [⟨(some 52), none, (.ld true 3 (.t 7))⟩, ⟨(some 53), none, (.ld true 3 (.t 1))⟩, ⟨(some 54), none, (.call 15 [(.t 53)])⟩, ⟨(some 55), none, (.call 18 [(.t 52), (.t 54)])⟩, ⟨(some 56), none, (.un .not (.t 55))⟩] [[], [], [1], [0, 1, 2], [0, 1, 2, 3]]) (.cond (.t 56) (.seq (.reg [⟨(some 2), none, (.mv (.c (.bool false)))⟩]) .ret) .skip)) (.seq (.reg [⟨(some 11), none, (.mv (.c (.int .i64 1)))⟩]) (.seq (.reg [⟨(some 57), none, (.ld true 3 (.t 7))⟩, ⟨(some 58), none, (.mv (.t 11))⟩, ⟨(some 59), none, (.call 20 [(.t 57), (.t 58)])⟩, ⟨(some 11), none, (.mv (.t 59))⟩]) (.seq (.seq (.reg [⟨(some 60), none, (.mv (.t 11))⟩, ⟨(some 61), none, (.bin .lss (.t 60) (.c (.int .i64 0)))⟩, ⟨(some 62), none, (.mv (.t 61))⟩, ⟨(some 63), (some (62, false)), (.mv (.t 8))⟩, ⟨(some 64), (some (62, false)), (.mv (.t 4))⟩, ⟨(some 65), (some (62, false)), (.call 28 [(.t 63), (.t 64)])⟩, ⟨(some 66), (some (62, false)), (.un .not (.t 65))⟩, ⟨(some 67), none, (.pick (.t 62) (.c (.bool true)) (.t 66))⟩, ⟨(some 68), none, (.mv (.t 67))⟩, ⟨(some 69), (some (68, false)), (.mv (.t 9))⟩, ⟨(some 70), (some (68, false)), (.mv (.t 5))⟩, ⟨(some 71), (some (68, false)), (.call 28 [(.t 69), (.t 70)])⟩, ⟨(some 72), (some (68, false)), (.un .not (.t 71))⟩, ⟨(some 73), none, (.pick (.t 68) (.c (.bool true)) (.t 72))⟩, ⟨(some 74), none, (.mv (.t 73))⟩, ⟨(some 75), (some (74, false)), (.mv (.t 10))⟩, ⟨(some 76), (some (74, false)), (.mv (.t 6))⟩, ⟨(some 77), (some (74, false)), (.bool2 true (.t 75) (.t 76))⟩, ⟨(some 78), none, (.pick (.t 74) (.c (.bool true)) (.t 77))⟩]) (.cond (.t 78) (.seq (.reg [⟨(some 2), none, (.mv (.c (.bool false)))⟩]) .ret) .skip)) (.seq (.reg [⟨(some 12), none, (.mv (.c (.int .i64 1)))⟩]) (.seq (.reg [⟨(some 79), none, (.mv (.t 8))⟩, ⟨(some 80), none, (.mv (.t 12))⟩, ⟨(some 81), none, (.call 35 [(.t 79), (.t 80)])⟩, ⟨(some 12), none, (.mv (.t 81))⟩]) (.seq (.reg [⟨(some 82), none, (.mv (.t 9))⟩, ⟨(some 83), none, (.mv (.t 12))⟩, ⟨(some 84), none, (.call 35 [(.t 82), (.t 83)])⟩, ⟨(some 12), none, (.mv (.t 84))⟩]) (.seq (.reg [⟨(some 13), none, (.mv (.c (.int .i64 1)))⟩]) (.seq (.reg [⟨(some 85), none, (.mv (.t 8))⟩, ⟨(some 86), none, (.mv (.t 13))⟩, ⟨(some 87), none, (.call 36 [(.t 85), (.t 86)])⟩, ⟨(some 13), none, (.mv (.t 87))⟩]) (.seq (.seq (.reg [⟨(some 88), none, (.mv (.t 13))⟩, ⟨(some 89), none, (.bin .lss (.t 88) (.c (.int .i64 0)))⟩]) (.cond (.t 89) (.seq (.reg [⟨(some 2), none, (.mv (.c (.bool false)))⟩]) .ret) .skip)) (.seq (.reg [⟨(some 90), none, (.mv (.t 9))⟩, ⟨(some 91), none, (.mv (.t 13))⟩, ⟨(some 92), none, (.call 36 [(.t 90), (.t 91)])⟩, ⟨(some 13), none, (.mv (.t 92))⟩]) (.seq (.seq (.reg [⟨(some 93), none, (.mv (.t 13))⟩, ⟨(some 94), none, (.bin .lss (.t 93) (.c (.int .i64 0)))⟩]) (.cond (.t 94) (.seq (.reg [⟨(some 2), none, (.mv (.c (.bool false)))⟩]) .ret) .skip)) (.seq (.seq (.reg [⟨(some 95), none, (.mv (.t 13))⟩, ⟨(some 96), none, (.mv (.t 12))⟩, ⟨(some 97), none, (.bin .neq (.t 95) (.t 96))⟩]) (.cond (.t 97) (.seq (.reg [⟨(some 2), none, (.mv (.c (.bool false)))⟩]) .ret) .skip)) (.seq (.reg [⟨(some 99), none, (.ld true 3 (.t 1))⟩, ⟨(some 100), none, (.call 15 [(.t 99)])⟩, ⟨(some 101), none, (.call 40 [(.t 100)])⟩, ⟨(some 98), none, (.mv (.t 101))⟩, ⟨(some 102), none, (.ext (.t 98) 0)⟩, ⟨(some 103), none, (.ext (.t 98) 1)⟩, ⟨(some 104), none, (.ext (.t 98) 2)⟩, ⟨(some 14), none, (.mv (.t 102))⟩, ⟨(some 15), none, (.mv (.t 103))⟩, ⟨(some 16), none, (.mv (.t 104))⟩]) (.seq (.seq (.reg [⟨(some 105), none, (.mv (.t 14))⟩, ⟨(some 106), none, (.mv (.t 4))⟩, ⟨(some 107), none, (.call 28 [(.t 105), (.t 106)])⟩, ⟨(some 108), none, (.un .not (.t 107))⟩, ⟨(some 109), none, (.mv (.t 108))⟩, ⟨(some 110), (some (109, false)), (.mv (.t 15))⟩, ⟨(some 111), (some (109, false)), (.mv (.t 5))⟩, ⟨(some 112), (some (109, false)), (.call 28 [(.t 110), (.t 111)])⟩, ⟨(some 113), (some (109, false)), (.un .not (.t 112))⟩, ⟨(some 114), none, (.pick (.t 109) (.c (.bool true)) (.t 113))⟩, ⟨(some 115), none, (.mv (.t 114))⟩, ⟨(some 116), (some (115, false)), (.mv (.t 16))⟩, ⟨(some 117), (some (115, false)), (.mv (.t 6))⟩, ⟨(some 118), (some (115, false)), (.bool2 true (.t 116) (.t 117))⟩, ⟨(some 119), none, (.pick (.t 115) (.c (.bool true)) (.t 118))⟩]) (.cond (.t 119) (.seq (.reg [⟨(some 2), none, (.mv (.c (.bool false)))⟩]) .ret) .skip)) (.seq (.reg [⟨(some 13), none, (.mv (.c (.int .i64 1)))⟩]) (.seq (.reg [⟨(some 120), none, (.mv (.t 8))⟩, ⟨(some 121), none, (.mv (.t 13))⟩, ⟨(some 122), none, (.call 36 [(.t 120), (.t 121)])⟩, ⟨(some 13), none, (.mv (.t 122))⟩]) (.seq (.seq (.reg [⟨(some 123), none, (.mv (.t 13))⟩, ⟨(some 124), none, (.bin .lss (.t 123) (.c (.int .i64 0)))⟩]) (.cond (.t 124) (.seq (.reg [⟨(some 2), none, (.mv (.c (.bool false)))⟩]) .ret) .skip)) (.seq (.reg [⟨(some 125), none, (.mv (.t 9))⟩, ⟨(some 126), none, (.mv (.t 13))⟩, ⟨(some 127), none, (.call 36 [(.t 125), (.t 126)])⟩, ⟨(some 13), none, (.mv (.t 127))⟩]) (.seq (.seq (.reg [⟨(some 128), none, (.mv (.t 13))⟩, ⟨(some 129), none, (.bin .lss (.t 128) (.c (.int .i64 0)))⟩]) (.cond (.t 129) (.seq (.reg [⟨(some 2), none, (.mv (.c (.bool false)))⟩]) .ret) .skip)) (.seq (.seq (.reg [⟨(some 130), none, (.mv (.t 13))⟩, ⟨(some 131), none, (.mv (.t 12))⟩, ⟨(some 132), none, (.bin .neq (.t 130) (.t 131))⟩]) (.cond (.t 132) (.seq (.reg [⟨(some 2), none, (.mv (.c (.bool false)))⟩]) .ret) .skip)) (.seq (.reg [⟨(some 2), none, (.mv (.c (.bool true)))⟩]) .ret))))))))))))))))))))))))))))))
def ro10 : List AOp := [(.mv (.t 2))]
theorem fun10 : Fun Try.prog 10 133 ac10 ro10 := ⟨Try.f10, _, Try.func10, by kernel_rfl, rfl, rfl, by kernel_rfl, by kernel_rfl, by decide⟩

theorem hg_memL : ∀ (l : List (Nat × Option Ab.Rows)) {q : Nat} {rows : Ab.Rows}, hg l q = some rows → (q, some rows) ∈ l
  | [], q, rows, h => by simp [Ab.hg, upd] at h
  | (k, x) :: l, q, rows, h => by
    have e : hg ((k, x) :: l) q = if q = k then x else hg l q := rfl
    rw [e] at h
    split at h
    · rename_i hk; subst hk; subst h; exact List.mem_cons_self
    · exact List.mem_cons_of_mem _ (hg_memL l h)
theorem con10 (a b c : Bool) (r : Rc) (xs : List Dn) (h1 : r.cs.length ≤ 9223372036854775807) (h2 : r.xs.length ≤ 9223372036854775807) (h3 : xs.length ≤ 9223372036854775807) (hL : LenN xs 9223372036854775807) : Con Try.prog 10 true [.agg (dtR a b c r xs)] (.bool true) [] := by
  classical
  refine con_of_wp mixed fun10 (by simp) [] plain_nil ?_
  unfold ac10 ro10
  simp only [zipT]
  have c1 := con12 a b c r xs h1 h2 h3 hL 1048576 (by decide) (by decide)
  by_cases hR : szR 1048576 r < 0
  · rw [if_pos hR] at c1
    repeat (first | refine wG_call c1 rfl rfl ?_ | (first
    | refine wC_a rfl ?_
    | refine q_s rfl ?_
    | refine q_b rfl ?_
    | refine wG_nil ?_
    | refine wG_g rfl ?_
    | refine wG_pure (o_len_vwm rfl) ?_
    | refine wG_pure (o_not_d rfl) ?_
    | refine wG_p rfl (by first | exact rfl | omega) ?_
    | refine wG_pure (o_str2 rfl rfl rfl) ?_
    | refine wG_pure (e_istr rfl rfl (by omega)) ?_
    | refine wG_pure (e_istr0 rfl rfl (by omega)) ?_
    | refine wG_pure (o_not rfl) ?_
    | refine wG_pure (e_ia_vw0 rfl rfl (by omega) rfl) ?_
    | refine wG_pure (e_ia_vwp rfl rfl (by omega) rfl) ?_
    | refine wG_pure (e_ia_vwm rfl rfl (by omega) (by omega) rfl) ?_
    | refine wG_pure (e_ia_vwi rfl rfl (by omega) rfl) ?_
    | refine wG_pure (e_ia_vwn rfl rfl (by omega) (by omega) rfl) ?_
    | refine wG_n rfl rfl ?_
    | refine wG_u rfl rfl ?_
    | refine wG_new (o_mks rfl rfl (by omega) (by decide)) ?_))
    exact ret_boolE (.inr rfl) ⟨_, retV_mv rfl, rfl⟩
  rw [if_neg hR] at c1
  obtain ⟨s1, s2, s3⟩ := szR_ok (Int.not_lt.1 hR)
  by_cases hD2 : szD (szR 1048576 r) xs < 0
  · rw [if_pos hD2] at c1
    repeat (first | refine wG_call c1 rfl rfl ?_ | (first
    | refine wC_a rfl ?_
    | refine q_s rfl ?_
    | refine q_b rfl ?_
    | refine wG_nil ?_
    | refine wG_g rfl ?_
    | refine wG_pure (o_len_vwm rfl) ?_
    | refine wG_pure (o_not_d rfl) ?_
    | refine wG_p rfl (by first | exact rfl | omega) ?_
    | refine wG_pure (o_str2 rfl rfl rfl) ?_
    | refine wG_pure (e_istr rfl rfl (by omega)) ?_
    | refine wG_pure (e_istr0 rfl rfl (by omega)) ?_
    | refine wG_pure (o_not rfl) ?_
    | refine wG_pure (e_ia_vw0 rfl rfl (by omega) rfl) ?_
    | refine wG_pure (e_ia_vwp rfl rfl (by omega) rfl) ?_
    | refine wG_pure (e_ia_vwm rfl rfl (by omega) (by omega) rfl) ?_
    | refine wG_pure (e_ia_vwi rfl rfl (by omega) rfl) ?_
    | refine wG_pure (e_ia_vwn rfl rfl (by omega) (by omega) rfl) ?_
    | refine wG_n rfl rfl ?_
    | refine wG_u rfl rfl ?_
    | refine wG_new (o_mks rfl rfl (by omega) (by decide)) ?_))
    exact ret_boolE (.inr rfl) ⟨_, retV_mv rfl, rfl⟩
  rw [if_neg hD2] at c1
  obtain ⟨s4, s5, s6⟩ := szD_ok (Int.not_lt.1 hD2)
  have h1' : r.cs.length ≤ 1048576 := by omega
  have h2' : r.xs.length ≤ 1048576 := by omega
  have h3' : xs.length ≤ 1048576 := by omega
  have hL' : LenN xs 1048576 := fun i hi => by have := s5 i hi; omega
  have h3t : (tD xs).length ≤ 1048576 := by rw [tD_len]; exact h3'
  have hLt := hL'.t
  have cT := con15 a b c r xs h1' h2' h3' hL'
  have hdi : (∃ (vs us : List Int), vs.length ≤ 1048576 ∧ us.length ≤ 1048576 ∧ Con Try.prog 39 true [.agg (dtR true true true r (tD xs))] (.tup [.sl 0 1 0 vs.length, .sl 1 1 0 us.length, .bool true]) [vs.map iRow, us.map iRow] ∧ Con Try.prog 40 true [.agg (dtR true true true r (tD xs))] (.tup [.sl 0 1 0 vs.length, .sl 1 1 0 us.length, .bool true]) [vs.map iRow, us.map iRow]) ∨ (Con Try.prog 39 true [.agg (dtR true true true r (tD xs))] (.tup [.sl 0 1 0 0, .sl 1 1 0 0, .bool false]) [([] : List Int).map iRow, ([] : List Int).map iRow] ∧ Con Try.prog 40 true [.agg (dtR true true true r (tD xs))] (.tup [.nilS, .nilS, .bool false]) []) := by
    by_cases hk : GoodN r (tD xs)
    · have cS := con39_yes true true true r (tD xs) h1' h2' h3t hLt hk
      obtain ⟨cN, cY⟩ := con40_all true true true r (tD xs) h1' h2' h3t hLt hk
      have hok := bS_ok r (tD xs) (cp (tD xs) (tD xs).length)
      generalize bS r (tD xs) (cp (tD xs) (tD xs).length) = s at *
      cases s with
      | none => exact .inr ⟨cS, cN rfl⟩
      | some x =>
        obtain ⟨vs, us⟩ := x
        obtain ⟨l1, l2⟩ := hok vs us rfl
        have cY := cY _ rfl
        refine .inl ⟨vs, us, by omega, by omega, cS, ?_⟩
        rw [l1, l2]
        exact cY
    · exact .inr ⟨con39_no true true true r (tD xs) h1' h2' h3t hLt hk, con40_no true true true r (tD xs) h1' h2' h3t hLt hk⟩
  have cE := con18 true true true true true true r (tD xs) h1' h2' h3t hLt
  have hlen := dtO_len r xs
  have hS : sL xs xs.length ≤ 1048576 := by have := szD_sum (Int.not_lt.1 hD2); omega
  have d0 : decide (szD (szR 1048576 r) xs < 0) = false := decide_eq_false hD2
  repeat (first | refine wG_call c1 rfl rfl ?_ | (first
    | refine wC_a rfl ?_
    | refine q_s rfl ?_
    | refine q_b rfl ?_
    | refine wG_nil ?_
    | refine wG_g rfl ?_
    | refine wG_pure (o_len_vwm rfl) ?_
    | refine wG_pure (o_not_d rfl) ?_
    | refine wG_p rfl (by first | exact rfl | omega) ?_
    | refine wG_pure (o_str2 rfl rfl rfl) ?_
    | refine wG_pure (e_istr rfl rfl (by omega)) ?_
    | refine wG_pure (e_istr0 rfl rfl (by omega)) ?_
    | refine wG_pure (o_not rfl) ?_
    | refine wG_pure (e_ia_vw0 rfl rfl (by omega) rfl) ?_
    | refine wG_pure (e_ia_vwp rfl rfl (by omega) rfl) ?_
    | refine wG_pure (e_ia_vwm rfl rfl (by omega) (by omega) rfl) ?_
    | refine wG_pure (e_ia_vwi rfl rfl (by omega) rfl) ?_
    | refine wG_pure (e_ia_vwn rfl rfl (by omega) (by omega) rfl) ?_
    | refine wG_n rfl rfl ?_
    | refine wG_u rfl rfl ?_
    | refine wG_new (o_mks rfl rfl (by omega) (by decide)) ?_))
  simp only [d0]
  repeat (first
    | refine wC_a rfl ?_
    | refine q_s rfl ?_
    | refine q_b rfl ?_
    | refine wG_nil ?_
    | refine wG_g rfl ?_
    | refine wG_pure (o_len_vwm rfl) ?_
    | refine wG_pure (o_not_d rfl) ?_
    | refine wG_p rfl (by first | exact rfl | omega) ?_
    | refine wG_pure (o_str2 rfl rfl rfl) ?_
    | refine wG_pure (e_istr rfl rfl (by omega)) ?_
    | refine wG_pure (e_istr0 rfl rfl (by omega)) ?_
    | refine wG_pure (o_not rfl) ?_
    | refine wG_pure (e_ia_vw0 rfl rfl (by omega) rfl) ?_
    | refine wG_pure (e_ia_vwp rfl rfl (by omega) rfl) ?_
    | refine wG_pure (e_ia_vwm rfl rfl (by omega) (by omega) rfl) ?_
    | refine wG_pure (e_ia_vwi rfl rfl (by omega) rfl) ?_
    | refine wG_pure (e_ia_vwn rfl rfl (by omega) (by omega) rfl) ?_
    | refine wG_n rfl rfl ?_
    | refine wG_u rfl rfl ?_
    | refine wG_new (o_mks rfl rfl (by omega) (by decide)) ?_)
  refine wG_callG (v' := dtV 1 r xs) cT rfl rfl rfl ?_
  change wpG _ _ _ ⟨_, dtH 1 r xs _, _⟩ _
  obtain ⟨y1, hy1⟩ : ∃ y1, 0 + 1 + (dtO r xs).length = y1 := ⟨_, rfl⟩
  rw [hy1]
  have sM := fun {h h' nr m} => @sh_mdr r xs h1' h2' h3' hS h h' nr m
  obtain ⟨K, hK0, hK⟩ : ∃ K : Int, 0 ≤ K ∧ 1 + 2 * (r.cs.length : Int) + 2 * (r.xs.length : Int) + (xs.length : Int) + (sL xs xs.length : Int) = K := ⟨_, by omega, rfl⟩
  simp only [hK] at sM
  have dK : decide (K < 0) = false := decide_eq_false (by omega)
  rcases hdi with ⟨vs, us, hv10, hu10, cS, cI⟩ | ⟨cS, cI⟩
  · have cQ := con28_same true true vs hv10
    have cQ2 := con28_same true true us hu10
    have cH := con36 true vs.length 1 (by omega) (by decide) (by decide)
    have cH2 := con36 true us.length (1 + vs.length) (by omega) (by omega) (by omega)
    have sV := fun h nr q => @sh35 vs 1 (by omega) (by decide) (by decide) h nr q
    have sV2 := fun h nr q => @sh35 us (1 + vs.length) (by omega) (by omega) (by omega) h nr q
    repeat (first | refine wG_call2 cS (ag_any (dr_dt r xs (fun i rows hi => dtH_in hi)) ag_nil) rfl ?_ | (first
    | refine wC_a rfl ?_
    | refine q_s rfl ?_
    | refine q_b rfl ?_
    | refine wG_nil ?_
    | refine wG_g rfl ?_
    | refine wG_pure (o_len_vwm rfl) ?_
    | refine wG_pure (o_not_d rfl) ?_
    | refine wG_p rfl (by first | exact rfl | omega) ?_
    | refine wG_pure (o_str2 rfl rfl rfl) ?_
    | refine wG_pure (e_istr rfl rfl (by omega)) ?_
    | refine wG_pure (e_istr0 rfl rfl (by omega)) ?_
    | refine wG_pure (o_not rfl) ?_
    | refine wG_pure (e_ia_vw0 rfl rfl (by omega) rfl) ?_
    | refine wG_pure (e_ia_vwp rfl rfl (by omega) rfl) ?_
    | refine wG_pure (e_ia_vwm rfl rfl (by omega) (by omega) rfl) ?_
    | refine wG_pure (e_ia_vwi rfl rfl (by omega) rfl) ?_
    | refine wG_pure (e_ia_vwn rfl rfl (by omega) (by omega) rfl) ?_
    | refine wG_n rfl rfl ?_
    | refine wG_u rfl rfl ?_
    | refine wG_new (o_mks rfl rfl (by omega) (by decide)) ?_))
    refine wG_pure (o_ldt_pt rfl (hg_skip (by omega) (hg_skip (by omega) (dtH_out (by omega) rfl))) rfl rfl rfl) ?_
    refine wG_callG (v' := dtV (y1 + 2) r xs) cT rfl rfl rfl ?_
    change wpG _ _ _ ⟨_, dtH (y1 + 2) r xs _, _⟩ _
    obtain ⟨b0, hb0⟩ : ∃ b0, y1 + 2 + (dtO r xs).length = b0 := ⟨_, rfl⟩
    rw [hb0]
    have hx0 : ∀ {v1 v2 : Option Ab.Rows} {h : List (Nat × Option Ab.Rows)} (i : Nat) (rows : Ab.Rows), (dtO r xs)[i]? = some rows → hg ((b0, v1) :: (b0, v2) :: dtH (y1 + 2) r xs h) (y1 + 2 + i) = some (shR (y1 + 2) rows) := fun i rows hi => by
      have := dtO_lt hi
      exact hg_skip (by omega) (hg_skip (by omega) (dtH_in hi))
    have hx1 : ∀ {v0 v0' v1 v2 : Option Ab.Rows} {h : List (Nat × Option Ab.Rows)} (i : Nat) (rows : Ab.Rows), (dtO r xs)[i]? = some rows → hg (dtH (b0 + 1 + 2) r xs ((b0 + 1, v0) :: (b0 + 1 + 1, v0') :: (b0, v1) :: (b0, v2) :: dtH (y1 + 2) r xs h)) (y1 + 2 + i) = some (shR (y1 + 2) rows) := fun i rows hi => by
      have := dtO_lt hi
      exact dtH_out (by omega) (hg_skip (by omega) (hg_skip (by omega) (hx0 i rows hi)))
    have ne1 : b0 ≠ b0 + 1 := by omega
    have ne2 : b0 ≠ b0 + 1 + 1 := by omega
    have ne3 : b0 + 1 + 1 ≠ b0 + 1 := by omega
    have ney2 : y1 + 1 ≠ y1 := by omega
    repeat (first | refine wC_dregE ?_ | refine wG_upd (o_st_agg rfl hg_here rfl rfl rfl rfl rfl) ?_ | refine wG_pure (o_ldt_pt rfl hg_here rfl rfl rfl) ?_ | refine wG_call2 cI (ag_any (dr_dt r xs hx0) ag_nil) rfl ?_ | refine wG_call cQ (ag_sl rfl hg_here rfl iRow_plain (ag_sl rfl (hg_skip (by omega) (hg_skip (by omega) (hg_skip (by omega) (hg_skip (by omega) (dtH_out (by omega) hg_here))))) rfl iRow_plain ag_nil)) rfl ?_ | refine wG_call cQ2 (ag_sl rfl (hg_skip ne3 hg_here) rfl iRow_plain (ag_sl rfl (hg_skip (by omega) (hg_skip (by omega) (hg_skip (by omega) (hg_skip (by omega) (dtH_out (by omega) (hg_skip ney2 hg_here)))))) rfl iRow_plain ag_nil)) rfl ?_ | refine wE_v (o_ldt_pt rfl (hg_skip ne1 (hg_skip ne2 hg_here)) rfl rfl rfl) rfl ?_ | refine wE_v (o_ldt_pt rfl (hg_skip (by omega) (hg_skip (by omega) (hg_skip (by omega) (hg_skip (by omega) (dtH_out (by omega) (hg_skip (by omega) (hg_skip (by omega) (dtH_out (by omega) rfl)))))))) rfl rfl rfl) rfl ?_ | refine wE_callG (v' := dtV (b0 + 1 + 2) r xs) cT rfl rfl rfl rfl ?_ | refine wE_call cE (ag_any (dr_dt r xs hx1) (ag_any (dr_dt r xs (fun i rows hi => dtH_in hi)) ag_nil)) rfl rfl ?_ | refine wE_nil (hok5 (djB_mkh (by omega))) ?_ | (first
    | refine wC_a rfl ?_
    | refine q_s rfl ?_
    | refine q_b rfl ?_
    | refine wG_nil ?_
    | refine wG_g rfl ?_
    | refine wG_pure (o_len_vwm rfl) ?_
    | refine wG_pure (o_not_d rfl) ?_
    | refine wG_p rfl (by first | exact rfl | omega) ?_
    | refine wG_pure (o_str2 rfl rfl rfl) ?_
    | refine wG_pure (e_istr rfl rfl (by omega)) ?_
    | refine wG_pure (e_istr0 rfl rfl (by omega)) ?_
    | refine wG_pure (o_not rfl) ?_
    | refine wG_pure (e_ia_vw0 rfl rfl (by omega) rfl) ?_
    | refine wG_pure (e_ia_vwp rfl rfl (by omega) rfl) ?_
    | refine wG_pure (e_ia_vwm rfl rfl (by omega) (by omega) rfl) ?_
    | refine wG_pure (e_ia_vwi rfl rfl (by omega) rfl) ?_
    | refine wG_pure (e_ia_vwn rfl rfl (by omega) (by omega) rfl) ?_
    | refine wG_n rfl rfl ?_
    | refine wG_u rfl rfl ?_
    | refine wG_new (o_mks rfl rfl (by omega) (by decide)) ?_) | (first
    | refine wE_nil (by kernel_rfl) ?_
    | refine wE_gy rfl ?_
    | refine wE_gn rfl rfl rfl ?_
    | refine wE_gu rfl rfl ?_
    | refine wE_gnn rfl rfl rfl ?_
    | refine wE_v (o_len_vwm rfl) rfl ?_
    | refine wE_v (o_not_d rfl) rfl ?_
    | refine wE_p rfl (by first | exact rfl | omega) rfl ?_
    | refine wE_v (o_str2 rfl rfl rfl) rfl ?_
    | refine wE_v (e_istr rfl rfl (by omega)) rfl ?_
    | refine wE_v (e_istr0 rfl rfl (by omega)) rfl ?_
    | refine wE_v (o_not rfl) rfl ?_
    | refine wE_v (e_ia_vw0 rfl rfl (by omega) rfl) rfl ?_
    | refine wE_v (e_ia_vwp rfl rfl (by omega) rfl) rfl ?_
    | refine wE_v (e_ia_vwm rfl rfl (by omega) (by omega) rfl) rfl ?_
    | refine wE_v (e_ia_vwi rfl rfl (by omega) rfl) rfl ?_
    | refine wE_v (e_ia_vwn rfl rfl (by omega) (by omega) rfl) rfl ?_
    | refine wE_n rfl rfl rfl ?_
    | refine wE_u rfl rfl rfl ?_
    | refine wE_new (o_mks rfl rfl (by omega) (by decide)) rfl ?_))
    refine wG_pure (o_ldt_pt rfl (dtH_out (by omega) (hg_skip ne1 (hg_skip ne2 hg_here))) rfl rfl rfl) ?_
    repeat (first
    | refine wC_a rfl ?_
    | refine q_s rfl ?_
    | refine q_b rfl ?_
    | refine wG_nil ?_
    | refine wG_g rfl ?_
    | refine wG_pure (o_len_vwm rfl) ?_
    | refine wG_pure (o_not_d rfl) ?_
    | refine wG_p rfl (by first | exact rfl | omega) ?_
    | refine wG_pure (o_str2 rfl rfl rfl) ?_
    | refine wG_pure (e_istr rfl rfl (by omega)) ?_
    | refine wG_pure (e_istr0 rfl rfl (by omega)) ?_
    | refine wG_pure (o_not rfl) ?_
    | refine wG_pure (e_ia_vw0 rfl rfl (by omega) rfl) ?_
    | refine wG_pure (e_ia_vwp rfl rfl (by omega) rfl) ?_
    | refine wG_pure (e_ia_vwm rfl rfl (by omega) (by omega) rfl) ?_
    | refine wG_pure (e_ia_vwi rfl rfl (by omega) rfl) ?_
    | refine wG_pure (e_ia_vwn rfl rfl (by omega) (by omega) rfl) ?_
    | refine wG_n rfl rfl ?_
    | refine wG_u rfl rfl ?_
    | refine wG_new (o_mks rfl rfl (by omega) (by decide)) ?_)
    refine wG_callS (sM (m := y1 + 2) (h' := [(b0 + 1, some (vs.map iRow)), (b0 + 1 + 1, some (us.map iRow)), (y1, some (vs.map iRow)), (y1 + 1, some (us.map iRow)), (0, some [dtR a b c r xs])]) (fun i rows hi => hx1 i rows hi) (by omega) (wfH_cons (by omega) (ltrI _ _) (wfH_cons (by omega) (ltrI _ _) (wfH_cons (by omega) (ltrI _ _) (wfH_cons (by omega) (ltrI _ _) (wfH_cons (by omega) (dtR_ltr1 _) wfH_nil))))) (fun q rows hq => ?_)) rfl ?_
    · have hm := hg_memL _ hq
      simp only [List.mem_cons, List.not_mem_nil, or_false, Prod.mk.injEq, Option.some.injEq] at hm
      rcases hm with ⟨rfl, rfl⟩ | ⟨rfl, rfl⟩ | ⟨rfl, rfl⟩ | ⟨rfl, rfl⟩ | ⟨rfl, rfl⟩
      · exact ⟨dtH_out (by omega) hg_here, .inr (by omega)⟩
      · exact ⟨dtH_out (by omega) (hg_skip ne3 hg_here), .inr (by omega)⟩
      · exact ⟨dtH_out (by omega) (hg_skip (by omega) (hg_skip (by omega) (hg_skip (by omega) (hg_skip (by omega) (dtH_out (by omega) hg_here))))), .inl (by omega)⟩
      · exact ⟨dtH_out (by omega) (hg_skip (by omega) (hg_skip (by omega) (hg_skip (by omega) (hg_skip (by omega) (dtH_out (by omega) (hg_skip ney2 hg_here)))))), .inl (by omega)⟩
      · exact ⟨dtH_out (by omega) (hg_skip (by omega) (hg_skip (by omega) (hg_skip (by omega) (hg_skip (by omega) (dtH_out (by omega) (hg_skip (by omega) (hg_skip (by omega) (dtH_out (by omega) rfl)))))))), .inl (by omega)⟩
    obtain ⟨c0, hc0, hbc⟩ : ∃ c0, b0 + 1 + 2 + (dtO r xs).length + 2 = c0 ∧ b0 + 1 + 1 < c0 := ⟨_, rfl, by omega⟩
    rw [hc0]
    have n1 : y1 ≠ b0 + 1 := by omega
    have n2 : y1 ≠ b0 + 1 + 1 := by omega
    have n3 : y1 + 1 ≠ b0 + 1 := by omega
    have n4 : y1 + 1 ≠ b0 + 1 + 1 := by omega
    have z1 : 0 ≠ b0 + 1 := by omega
    have z2 : 0 ≠ b0 + 1 + 1 := by omega
    have z3 : 0 ≠ y1 := by omega
    have z4 : 0 ≠ y1 + 1 := by omega
    have ne4 : b0 + 1 ≠ b0 + 1 + 1 := by omega
    repeat (first
    | refine wC_a rfl ?_
    | refine q_s rfl ?_
    | refine q_b rfl ?_
    | refine wG_nil ?_
    | refine wG_g rfl ?_
    | refine wG_pure (o_len_vwm rfl) ?_
    | refine wG_pure (o_not_d rfl) ?_
    | refine wG_p rfl (by first | exact rfl | omega) ?_
    | refine wG_pure (o_str2 rfl rfl rfl) ?_
    | refine wG_pure (e_istr rfl rfl (by omega)) ?_
    | refine wG_pure (e_istr0 rfl rfl (by omega)) ?_
    | refine wG_pure (o_not rfl) ?_
    | refine wG_pure (e_ia_vw0 rfl rfl (by omega) rfl) ?_
    | refine wG_pure (e_ia_vwp rfl rfl (by omega) rfl) ?_
    | refine wG_pure (e_ia_vwm rfl rfl (by omega) (by omega) rfl) ?_
    | refine wG_pure (e_ia_vwi rfl rfl (by omega) rfl) ?_
    | refine wG_pure (e_ia_vwn rfl rfl (by omega) (by omega) rfl) ?_
    | refine wG_n rfl rfl ?_
    | refine wG_u rfl rfl ?_
    | refine wG_new (o_mks rfl rfl (by omega) (by decide)) ?_)
    simp only [dK]
    repeat (first | refine wG_call cQ (ag_sl rfl hg_here rfl iRow_plain (ag_sl rfl (hg_skip n1 (hg_skip n2 hg_here)) rfl iRow_plain ag_nil)) rfl ?_ | refine wG_call cQ2 (ag_sl rfl (hg_skip ne3 hg_here) rfl iRow_plain (ag_sl rfl (hg_skip n3 (hg_skip n4 (hg_skip ney2 hg_here))) rfl iRow_plain ag_nil)) rfl ?_ | (first
    | refine wC_a rfl ?_
    | refine q_s rfl ?_
    | refine q_b rfl ?_
    | refine wG_nil ?_
    | refine wG_g rfl ?_
    | refine wG_pure (o_len_vwm rfl) ?_
    | refine wG_pure (o_not_d rfl) ?_
    | refine wG_p rfl (by first | exact rfl | omega) ?_
    | refine wG_pure (o_str2 rfl rfl rfl) ?_
    | refine wG_pure (e_istr rfl rfl (by omega)) ?_
    | refine wG_pure (e_istr0 rfl rfl (by omega)) ?_
    | refine wG_pure (o_not rfl) ?_
    | refine wG_pure (e_ia_vw0 rfl rfl (by omega) rfl) ?_
    | refine wG_pure (e_ia_vwp rfl rfl (by omega) rfl) ?_
    | refine wG_pure (e_ia_vwm rfl rfl (by omega) (by omega) rfl) ?_
    | refine wG_pure (e_ia_vwi rfl rfl (by omega) rfl) ?_
    | refine wG_pure (e_ia_vwn rfl rfl (by omega) (by omega) rfl) ?_
    | refine wG_n rfl rfl ?_
    | refine wG_u rfl rfl ?_
    | refine wG_new (o_mks rfl rfl (by omega) (by decide)) ?_))
    have dM : decide (1 + (vs.length : Int) < 0) = false := decide_eq_false (by omega)
    have dM2 : decide (1 + (vs.length : Int) + (us.length : Int) < 0) = false := decide_eq_false (by omega)
    have dN : decide (1 + (vs.length : Int) + (us.length : Int) ≠ 1 + (vs.length : Int) + (us.length : Int)) = false := decide_eq_false (fun h => h rfl)
    repeat (first | (refine wG_callS (f := 35) (sV _ _ _ hg_here (wfH_cons (by omega) (ltrI _ _) (wfH_cons hbc (ltrI _ _) (wfH_cons (by omega) (ltrI _ _) (wfH_cons (by omega) (ltrI _ _) (wfH_cons (by omega) (dtR_ltr1 _) wfH_nil)))))) rfl ?_) | (refine wG_callS (f := 35) (sV2 _ _ _ (hg_skip ne3 (hg_skip ne3 hg_here)) (wfH_cons (by omega) (ltrI _ _) (wfH_cons (by omega) (ltrI _ _) (wfH_cons hbc (ltrI _ _) (wfH_cons (by omega) (ltrI _ _) (wfH_cons (by omega) (ltrI _ _) (wfH_cons (by omega) (dtR_ltr1 _) wfH_nil))))))) rfl ?_) | refine wG_call cH (ag_sl rfl (hg_skip ne4 hg_here) (mks_len _ _).symm iRow_plain (ag_int rfl ag_nil)) rfl ?_ | refine wG_call cH2 (ag_sl rfl hg_here (mks_len _ _).symm iRow_plain (ag_int rfl ag_nil)) rfl ?_ | (first
    | refine wC_a rfl ?_
    | refine q_s rfl ?_
    | refine q_b rfl ?_
    | refine wG_nil ?_
    | refine wG_g rfl ?_
    | refine wG_pure (o_len_vwm rfl) ?_
    | refine wG_pure (o_not_d rfl) ?_
    | refine wG_p rfl (by first | exact rfl | omega) ?_
    | refine wG_pure (o_str2 rfl rfl rfl) ?_
    | refine wG_pure (e_istr rfl rfl (by omega)) ?_
    | refine wG_pure (e_istr0 rfl rfl (by omega)) ?_
    | refine wG_pure (o_not rfl) ?_
    | refine wG_pure (e_ia_vw0 rfl rfl (by omega) rfl) ?_
    | refine wG_pure (e_ia_vwp rfl rfl (by omega) rfl) ?_
    | refine wG_pure (e_ia_vwm rfl rfl (by omega) (by omega) rfl) ?_
    | refine wG_pure (e_ia_vwi rfl rfl (by omega) rfl) ?_
    | refine wG_pure (e_ia_vwn rfl rfl (by omega) (by omega) rfl) ?_
    | refine wG_n rfl rfl ?_
    | refine wG_u rfl rfl ?_
    | refine wG_new (o_mks rfl rfl (by omega) (by decide)) ?_))
    simp only [dM]
    repeat (first | refine wG_call cH2 (ag_sl rfl hg_here (mks_len _ _).symm iRow_plain (ag_int rfl ag_nil)) rfl ?_ | (first
    | refine wC_a rfl ?_
    | refine q_s rfl ?_
    | refine q_b rfl ?_
    | refine wG_nil ?_
    | refine wG_g rfl ?_
    | refine wG_pure (o_len_vwm rfl) ?_
    | refine wG_pure (o_not_d rfl) ?_
    | refine wG_p rfl (by first | exact rfl | omega) ?_
    | refine wG_pure (o_str2 rfl rfl rfl) ?_
    | refine wG_pure (e_istr rfl rfl (by omega)) ?_
    | refine wG_pure (e_istr0 rfl rfl (by omega)) ?_
    | refine wG_pure (o_not rfl) ?_
    | refine wG_pure (e_ia_vw0 rfl rfl (by omega) rfl) ?_
    | refine wG_pure (e_ia_vwp rfl rfl (by omega) rfl) ?_
    | refine wG_pure (e_ia_vwm rfl rfl (by omega) (by omega) rfl) ?_
    | refine wG_pure (e_ia_vwi rfl rfl (by omega) rfl) ?_
    | refine wG_pure (e_ia_vwn rfl rfl (by omega) (by omega) rfl) ?_
    | refine wG_n rfl rfl ?_
    | refine wG_u rfl rfl ?_
    | refine wG_new (o_mks rfl rfl (by omega) (by decide)) ?_))
    simp only [dM2]
    repeat (first
    | refine wC_a rfl ?_
    | refine q_s rfl ?_
    | refine q_b rfl ?_
    | refine wG_nil ?_
    | refine wG_g rfl ?_
    | refine wG_pure (o_len_vwm rfl) ?_
    | refine wG_pure (o_not_d rfl) ?_
    | refine wG_p rfl (by first | exact rfl | omega) ?_
    | refine wG_pure (o_str2 rfl rfl rfl) ?_
    | refine wG_pure (e_istr rfl rfl (by omega)) ?_
    | refine wG_pure (e_istr0 rfl rfl (by omega)) ?_
    | refine wG_pure (o_not rfl) ?_
    | refine wG_pure (e_ia_vw0 rfl rfl (by omega) rfl) ?_
    | refine wG_pure (e_ia_vwp rfl rfl (by omega) rfl) ?_
    | refine wG_pure (e_ia_vwm rfl rfl (by omega) (by omega) rfl) ?_
    | refine wG_pure (e_ia_vwi rfl rfl (by omega) rfl) ?_
    | refine wG_pure (e_ia_vwn rfl rfl (by omega) (by omega) rfl) ?_
    | refine wG_n rfl rfl ?_
    | refine wG_u rfl rfl ?_
    | refine wG_new (o_mks rfl rfl (by omega) (by decide)) ?_)
    simp only [dN]
    repeat (first
    | refine wC_a rfl ?_
    | refine q_s rfl ?_
    | refine q_b rfl ?_
    | refine wG_nil ?_
    | refine wG_g rfl ?_
    | refine wG_pure (o_len_vwm rfl) ?_
    | refine wG_pure (o_not_d rfl) ?_
    | refine wG_p rfl (by first | exact rfl | omega) ?_
    | refine wG_pure (o_str2 rfl rfl rfl) ?_
    | refine wG_pure (e_istr rfl rfl (by omega)) ?_
    | refine wG_pure (e_istr0 rfl rfl (by omega)) ?_
    | refine wG_pure (o_not rfl) ?_
    | refine wG_pure (e_ia_vw0 rfl rfl (by omega) rfl) ?_
    | refine wG_pure (e_ia_vwp rfl rfl (by omega) rfl) ?_
    | refine wG_pure (e_ia_vwm rfl rfl (by omega) (by omega) rfl) ?_
    | refine wG_pure (e_ia_vwi rfl rfl (by omega) rfl) ?_
    | refine wG_pure (e_ia_vwn rfl rfl (by omega) (by omega) rfl) ?_
    | refine wG_n rfl rfl ?_
    | refine wG_u rfl rfl ?_
    | refine wG_new (o_mks rfl rfl (by omega) (by decide)) ?_)
    refine wG_pure (o_ldt_pt rfl (hg_skip z2 (hg_skip z1 (hg_skip z1 (hg_skip z2 (hg_skip z3 (hg_skip z4 hg_here)))))) rfl rfl rfl) ?_
    refine wG_callG (v' := dtV c0 r xs) cT rfl rfl rfl ?_
    change wpG _ _ _ ⟨_, dtH c0 r xs _, _⟩ _
    obtain ⟨d1, hd1⟩ : ∃ d1, c0 + (dtO r xs).length = d1 := ⟨_, rfl⟩
    rw [hd1]
    have nd1 : b0 + 1 ≠ d1 := by omega
    have nd2 : b0 + 1 ≠ d1 + 1 := by omega
    have nd3 : b0 + 1 + 1 ≠ d1 := by omega
    have nd4 : b0 + 1 + 1 ≠ d1 + 1 := by omega
    have nd5 : d1 + 1 ≠ d1 := by omega
    repeat (first | refine wG_call2 cI (ag_any (dr_dt r xs (fun i rows hi => dtH_in hi)) ag_nil) rfl ?_ | refine wG_call cQ (ag_sl rfl hg_here rfl iRow_plain (ag_sl rfl (hg_skip (by omega) (hg_skip (by omega) (dtH_out (by omega) (hg_skip n2 (hg_skip n1 (hg_skip n1 (hg_skip n2 hg_here))))))) rfl iRow_plain ag_nil)) rfl ?_ | refine wG_call cQ2 (ag_sl rfl (hg_skip nd5 hg_here) rfl iRow_plain (ag_sl rfl (hg_skip (by omega) (hg_skip (by omega) (dtH_out (by omega) (hg_skip n4 (hg_skip n3 (hg_skip n3 (hg_skip n4 (hg_skip ney2 hg_here)))))))) rfl iRow_plain ag_nil)) rfl ?_ | refine wG_call cH (ag_sl rfl (hg_skip nd1 (hg_skip nd2 (dtH_out (by omega) (hg_skip ne4 hg_here)))) (mks_len _ _).symm iRow_plain (ag_int rfl ag_nil)) rfl ?_ | (first
    | refine wC_a rfl ?_
    | refine q_s rfl ?_
    | refine q_b rfl ?_
    | refine wG_nil ?_
    | refine wG_g rfl ?_
    | refine wG_pure (o_len_vwm rfl) ?_
    | refine wG_pure (o_not_d rfl) ?_
    | refine wG_p rfl (by first | exact rfl | omega) ?_
    | refine wG_pure (o_str2 rfl rfl rfl) ?_
    | refine wG_pure (e_istr rfl rfl (by omega)) ?_
    | refine wG_pure (e_istr0 rfl rfl (by omega)) ?_
    | refine wG_pure (o_not rfl) ?_
    | refine wG_pure (e_ia_vw0 rfl rfl (by omega) rfl) ?_
    | refine wG_pure (e_ia_vwp rfl rfl (by omega) rfl) ?_
    | refine wG_pure (e_ia_vwm rfl rfl (by omega) (by omega) rfl) ?_
    | refine wG_pure (e_ia_vwi rfl rfl (by omega) rfl) ?_
    | refine wG_pure (e_ia_vwn rfl rfl (by omega) (by omega) rfl) ?_
    | refine wG_n rfl rfl ?_
    | refine wG_u rfl rfl ?_
    | refine wG_new (o_mks rfl rfl (by omega) (by decide)) ?_))
    simp only [dM]
    repeat (first | refine wG_call cH2 (ag_sl rfl (hg_skip nd3 (hg_skip nd4 (dtH_out (by omega) hg_here))) (mks_len _ _).symm iRow_plain (ag_int rfl ag_nil)) rfl ?_ | (first
    | refine wC_a rfl ?_
    | refine q_s rfl ?_
    | refine q_b rfl ?_
    | refine wG_nil ?_
    | refine wG_g rfl ?_
    | refine wG_pure (o_len_vwm rfl) ?_
    | refine wG_pure (o_not_d rfl) ?_
    | refine wG_p rfl (by first | exact rfl | omega) ?_
    | refine wG_pure (o_str2 rfl rfl rfl) ?_
    | refine wG_pure (e_istr rfl rfl (by omega)) ?_
    | refine wG_pure (e_istr0 rfl rfl (by omega)) ?_
    | refine wG_pure (o_not rfl) ?_
    | refine wG_pure (e_ia_vw0 rfl rfl (by omega) rfl) ?_
    | refine wG_pure (e_ia_vwp rfl rfl (by omega) rfl) ?_
    | refine wG_pure (e_ia_vwm rfl rfl (by omega) (by omega) rfl) ?_
    | refine wG_pure (e_ia_vwi rfl rfl (by omega) rfl) ?_
    | refine wG_pure (e_ia_vwn rfl rfl (by omega) (by omega) rfl) ?_
    | refine wG_n rfl rfl ?_
    | refine wG_u rfl rfl ?_
    | refine wG_new (o_mks rfl rfl (by omega) (by decide)) ?_))
    simp only [dM2]
    repeat (first
    | refine wC_a rfl ?_
    | refine q_s rfl ?_
    | refine q_b rfl ?_
    | refine wG_nil ?_
    | refine wG_g rfl ?_
    | refine wG_pure (o_len_vwm rfl) ?_
    | refine wG_pure (o_not_d rfl) ?_
    | refine wG_p rfl (by first | exact rfl | omega) ?_
    | refine wG_pure (o_str2 rfl rfl rfl) ?_
    | refine wG_pure (e_istr rfl rfl (by omega)) ?_
    | refine wG_pure (e_istr0 rfl rfl (by omega)) ?_
    | refine wG_pure (o_not rfl) ?_
    | refine wG_pure (e_ia_vw0 rfl rfl (by omega) rfl) ?_
    | refine wG_pure (e_ia_vwp rfl rfl (by omega) rfl) ?_
    | refine wG_pure (e_ia_vwm rfl rfl (by omega) (by omega) rfl) ?_
    | refine wG_pure (e_ia_vwi rfl rfl (by omega) rfl) ?_
    | refine wG_pure (e_ia_vwn rfl rfl (by omega) (by omega) rfl) ?_
    | refine wG_n rfl rfl ?_
    | refine wG_u rfl rfl ?_
    | refine wG_new (o_mks rfl rfl (by omega) (by decide)) ?_)
    simp only [dN]
    repeat (first
    | refine wC_a rfl ?_
    | refine q_s rfl ?_
    | refine q_b rfl ?_
    | refine wG_nil ?_
    | refine wG_g rfl ?_
    | refine wG_pure (o_len_vwm rfl) ?_
    | refine wG_pure (o_not_d rfl) ?_
    | refine wG_p rfl (by first | exact rfl | omega) ?_
    | refine wG_pure (o_str2 rfl rfl rfl) ?_
    | refine wG_pure (e_istr rfl rfl (by omega)) ?_
    | refine wG_pure (e_istr0 rfl rfl (by omega)) ?_
    | refine wG_pure (o_not rfl) ?_
    | refine wG_pure (e_ia_vw0 rfl rfl (by omega) rfl) ?_
    | refine wG_pure (e_ia_vwp rfl rfl (by omega) rfl) ?_
    | refine wG_pure (e_ia_vwm rfl rfl (by omega) (by omega) rfl) ?_
    | refine wG_pure (e_ia_vwi rfl rfl (by omega) rfl) ?_
    | refine wG_pure (e_ia_vwn rfl rfl (by omega) (by omega) rfl) ?_
    | refine wG_n rfl rfl ?_
    | refine wG_u rfl rfl ?_
    | refine wG_new (o_mks rfl rfl (by omega) (by decide)) ?_)
    exact ret_boolE (.inr rfl) ⟨_, retV_mv rfl, rfl⟩
  · have cQ : Con Try.prog 28 true [.nilS, .vw true (([] : List Int).map iRow)] (.bool true) [] := con_nil (con28_same false true [] (by decide))
    have cH : Con Try.prog 36 true [.nilS, .int .i64 1] (.int .i64 1) [] := con_nil (con36 false 0 1 (by decide) (by decide) (by decide))
    have cM := con35_nil 1
    repeat (first | refine wG_call2 cS (ag_any (dr_dt r xs (fun i rows hi => dtH_in hi)) ag_nil) rfl ?_ | (first
    | refine wC_a rfl ?_
    | refine q_s rfl ?_
    | refine q_b rfl ?_
    | refine wG_nil ?_
    | refine wG_g rfl ?_
    | refine wG_pure (o_len_vwm rfl) ?_
    | refine wG_pure (o_not_d rfl) ?_
    | refine wG_p rfl (by first | exact rfl | omega) ?_
    | refine wG_pure (o_str2 rfl rfl rfl) ?_
    | refine wG_pure (e_istr rfl rfl (by omega)) ?_
    | refine wG_pure (e_istr0 rfl rfl (by omega)) ?_
    | refine wG_pure (o_not rfl) ?_
    | refine wG_pure (e_ia_vw0 rfl rfl (by omega) rfl) ?_
    | refine wG_pure (e_ia_vwp rfl rfl (by omega) rfl) ?_
    | refine wG_pure (e_ia_vwm rfl rfl (by omega) (by omega) rfl) ?_
    | refine wG_pure (e_ia_vwi rfl rfl (by omega) rfl) ?_
    | refine wG_pure (e_ia_vwn rfl rfl (by omega) (by omega) rfl) ?_
    | refine wG_n rfl rfl ?_
    | refine wG_u rfl rfl ?_
    | refine wG_new (o_mks rfl rfl (by omega) (by decide)) ?_))
    refine wG_pure (o_ldt_pt rfl (hg_skip (by omega) (hg_skip (by omega) (dtH_out (by omega) rfl))) rfl rfl rfl) ?_
    refine wG_callG (v' := dtV (y1 + 2) r xs) cT rfl rfl rfl ?_
    change wpG _ _ _ ⟨_, dtH (y1 + 2) r xs _, _⟩ _
    obtain ⟨b0, hb0⟩ : ∃ b0, y1 + 2 + (dtO r xs).length = b0 := ⟨_, rfl⟩
    rw [hb0]
    have ney2 : y1 + 1 ≠ y1 := by omega
    have hx0 : ∀ {v1 v2 : Option Ab.Rows} {h : List (Nat × Option Ab.Rows)} (i : Nat) (rows : Ab.Rows), (dtO r xs)[i]? = some rows → hg ((b0, v1) :: (b0, v2) :: dtH (y1 + 2) r xs h) (y1 + 2 + i) = some (shR (y1 + 2) rows) := fun i rows hi => by
      have := dtO_lt hi
      exact hg_skip (by omega) (hg_skip (by omega) (dtH_in hi))
    have hx1 : ∀ {v1 v2 : Option Ab.Rows} {h : List (Nat × Option Ab.Rows)} (i : Nat) (rows : Ab.Rows), (dtO r xs)[i]? = some rows → hg (dtH (b0 + 1) r xs ((b0, v1) :: (b0, v2) :: dtH (y1 + 2) r xs h)) (y1 + 2 + i) = some (shR (y1 + 2) rows) := fun i rows hi => by
      have := dtO_lt hi
      exact dtH_out (by omega) (hx0 i rows hi)
    repeat (first | refine wC_dregE ?_ | refine wG_upd (o_st_agg rfl hg_here rfl rfl rfl rfl rfl) ?_ | refine wG_pure (o_ldt_pt rfl hg_here rfl rfl rfl) ?_ | refine wG_call cI (ag_any (dr_dt r xs hx0) ag_nil) rfl ?_ | refine wG_call cQ (ag_any rfl (ag_sl rfl (hg_skip (by omega) (hg_skip (by omega) (dtH_out (by omega) hg_here))) rfl iRow_plain ag_nil)) rfl ?_ | refine wG_call cQ (ag_any rfl (ag_sl rfl (hg_skip (by omega) (hg_skip (by omega) (dtH_out (by omega) (hg_skip ney2 hg_here)))) rfl iRow_plain ag_nil)) rfl ?_ | refine wE_v (o_ldt_pt rfl hg_here rfl rfl rfl) rfl ?_ | refine wE_v (o_ldt_pt rfl (hg_skip (by omega) (hg_skip (by omega) (dtH_out (by omega) (hg_skip (by omega) (hg_skip (by omega) (dtH_out (by omega) rfl)))))) rfl rfl rfl) rfl ?_ | refine wE_callG (v' := dtV (b0 + 1) r xs) cT rfl rfl rfl rfl ?_ | refine wE_call cE (ag_any (dr_dt r xs hx1) (ag_any (dr_dt r xs (fun i rows hi => dtH_in hi)) ag_nil)) rfl rfl ?_ | refine wE_nil (hok5 (djB_mkh (by omega))) ?_ | (first
    | refine wC_a rfl ?_
    | refine q_s rfl ?_
    | refine q_b rfl ?_
    | refine wG_nil ?_
    | refine wG_g rfl ?_
    | refine wG_pure (o_len_vwm rfl) ?_
    | refine wG_pure (o_not_d rfl) ?_
    | refine wG_p rfl (by first | exact rfl | omega) ?_
    | refine wG_pure (o_str2 rfl rfl rfl) ?_
    | refine wG_pure (e_istr rfl rfl (by omega)) ?_
    | refine wG_pure (e_istr0 rfl rfl (by omega)) ?_
    | refine wG_pure (o_not rfl) ?_
    | refine wG_pure (e_ia_vw0 rfl rfl (by omega) rfl) ?_
    | refine wG_pure (e_ia_vwp rfl rfl (by omega) rfl) ?_
    | refine wG_pure (e_ia_vwm rfl rfl (by omega) (by omega) rfl) ?_
    | refine wG_pure (e_ia_vwi rfl rfl (by omega) rfl) ?_
    | refine wG_pure (e_ia_vwn rfl rfl (by omega) (by omega) rfl) ?_
    | refine wG_n rfl rfl ?_
    | refine wG_u rfl rfl ?_
    | refine wG_new (o_mks rfl rfl (by omega) (by decide)) ?_) | (first
    | refine wE_nil (by kernel_rfl) ?_
    | refine wE_gy rfl ?_
    | refine wE_gn rfl rfl rfl ?_
    | refine wE_gu rfl rfl ?_
    | refine wE_gnn rfl rfl rfl ?_
    | refine wE_v (o_len_vwm rfl) rfl ?_
    | refine wE_v (o_not_d rfl) rfl ?_
    | refine wE_p rfl (by first | exact rfl | omega) rfl ?_
    | refine wE_v (o_str2 rfl rfl rfl) rfl ?_
    | refine wE_v (e_istr rfl rfl (by omega)) rfl ?_
    | refine wE_v (e_istr0 rfl rfl (by omega)) rfl ?_
    | refine wE_v (o_not rfl) rfl ?_
    | refine wE_v (e_ia_vw0 rfl rfl (by omega) rfl) rfl ?_
    | refine wE_v (e_ia_vwp rfl rfl (by omega) rfl) rfl ?_
    | refine wE_v (e_ia_vwm rfl rfl (by omega) (by omega) rfl) rfl ?_
    | refine wE_v (e_ia_vwi rfl rfl (by omega) rfl) rfl ?_
    | refine wE_v (e_ia_vwn rfl rfl (by omega) (by omega) rfl) rfl ?_
    | refine wE_n rfl rfl rfl ?_
    | refine wE_u rfl rfl rfl ?_
    | refine wE_new (o_mks rfl rfl (by omega) (by decide)) rfl ?_))
    refine wG_pure (o_ldt_pt rfl (dtH_out (by omega) hg_here) rfl rfl rfl) ?_
    repeat (first
    | refine wC_a rfl ?_
    | refine q_s rfl ?_
    | refine q_b rfl ?_
    | refine wG_nil ?_
    | refine wG_g rfl ?_
    | refine wG_pure (o_len_vwm rfl) ?_
    | refine wG_pure (o_not_d rfl) ?_
    | refine wG_p rfl (by first | exact rfl | omega) ?_
    | refine wG_pure (o_str2 rfl rfl rfl) ?_
    | refine wG_pure (e_istr rfl rfl (by omega)) ?_
    | refine wG_pure (e_istr0 rfl rfl (by omega)) ?_
    | refine wG_pure (o_not rfl) ?_
    | refine wG_pure (e_ia_vw0 rfl rfl (by omega) rfl) ?_
    | refine wG_pure (e_ia_vwp rfl rfl (by omega) rfl) ?_
    | refine wG_pure (e_ia_vwm rfl rfl (by omega) (by omega) rfl) ?_
    | refine wG_pure (e_ia_vwi rfl rfl (by omega) rfl) ?_
    | refine wG_pure (e_ia_vwn rfl rfl (by omega) (by omega) rfl) ?_
    | refine wG_n rfl rfl ?_
    | refine wG_u rfl rfl ?_
    | refine wG_new (o_mks rfl rfl (by omega) (by decide)) ?_)
    refine wG_callS (sM (m := y1 + 2) (h' := [(y1, some (([] : List Int).map iRow)), (y1 + 1, some (([] : List Int).map iRow)), (0, some [dtR a b c r xs])]) (fun i rows hi => hx1 i rows hi) (by omega) (wfH_cons (by omega) (ltrI _ _) (wfH_cons (by omega) (ltrI _ _) (wfH_cons (by omega) (dtR_ltr1 _) wfH_nil))) (fun q rows hq => ?_)) rfl ?_
    · have hm := hg_memL _ hq
      simp only [List.mem_cons, List.not_mem_nil, or_false, Prod.mk.injEq, Option.some.injEq] at hm
      rcases hm with ⟨rfl, rfl⟩ | ⟨rfl, rfl⟩ | ⟨rfl, rfl⟩
      · exact ⟨dtH_out (by omega) (hg_skip (by omega) (hg_skip (by omega) (dtH_out (by omega) hg_here))), .inl (by omega)⟩
      · exact ⟨dtH_out (by omega) (hg_skip (by omega) (hg_skip (by omega) (dtH_out (by omega) (hg_skip ney2 hg_here)))), .inl (by omega)⟩
      · exact ⟨dtH_out (by omega) (hg_skip (by omega) (hg_skip (by omega) (dtH_out (by omega) (hg_skip (by omega) (hg_skip (by omega) (dtH_out (by omega) rfl)))))), .inl (by omega)⟩
    obtain ⟨c0, hc0, hbc⟩ : ∃ c0, b0 + 1 + (dtO r xs).length + 2 = c0 ∧ b0 < c0 := ⟨_, rfl, by omega⟩
    rw [hc0]
    have ne00 : 0 ≠ y1 := by omega
    have ne01 : 0 ≠ y1 + 1 := by omega
    repeat (first
    | refine wC_a rfl ?_
    | refine q_s rfl ?_
    | refine q_b rfl ?_
    | refine wG_nil ?_
    | refine wG_g rfl ?_
    | refine wG_pure (o_len_vwm rfl) ?_
    | refine wG_pure (o_not_d rfl) ?_
    | refine wG_p rfl (by first | exact rfl | omega) ?_
    | refine wG_pure (o_str2 rfl rfl rfl) ?_
    | refine wG_pure (e_istr rfl rfl (by omega)) ?_
    | refine wG_pure (e_istr0 rfl rfl (by omega)) ?_
    | refine wG_pure (o_not rfl) ?_
    | refine wG_pure (e_ia_vw0 rfl rfl (by omega) rfl) ?_
    | refine wG_pure (e_ia_vwp rfl rfl (by omega) rfl) ?_
    | refine wG_pure (e_ia_vwm rfl rfl (by omega) (by omega) rfl) ?_
    | refine wG_pure (e_ia_vwi rfl rfl (by omega) rfl) ?_
    | refine wG_pure (e_ia_vwn rfl rfl (by omega) (by omega) rfl) ?_
    | refine wG_n rfl rfl ?_
    | refine wG_u rfl rfl ?_
    | refine wG_new (o_mks rfl rfl (by omega) (by decide)) ?_)
    simp only [dK]
    repeat (first | refine wG_call cQ (ag_any rfl (ag_sl rfl hg_here rfl iRow_plain ag_nil)) rfl ?_ | refine wG_call cQ (ag_any rfl (ag_sl rfl (hg_skip ney2 hg_here) rfl iRow_plain ag_nil)) rfl ?_ | refine wG_call cH rfl rfl ?_ | refine wG_call cM rfl rfl ?_ | (first
    | refine wC_a rfl ?_
    | refine q_s rfl ?_
    | refine q_b rfl ?_
    | refine wG_nil ?_
    | refine wG_g rfl ?_
    | refine wG_pure (o_len_vwm rfl) ?_
    | refine wG_pure (o_not_d rfl) ?_
    | refine wG_p rfl (by first | exact rfl | omega) ?_
    | refine wG_pure (o_str2 rfl rfl rfl) ?_
    | refine wG_pure (e_istr rfl rfl (by omega)) ?_
    | refine wG_pure (e_istr0 rfl rfl (by omega)) ?_
    | refine wG_pure (o_not rfl) ?_
    | refine wG_pure (e_ia_vw0 rfl rfl (by omega) rfl) ?_
    | refine wG_pure (e_ia_vwp rfl rfl (by omega) rfl) ?_
    | refine wG_pure (e_ia_vwm rfl rfl (by omega) (by omega) rfl) ?_
    | refine wG_pure (e_ia_vwi rfl rfl (by omega) rfl) ?_
    | refine wG_pure (e_ia_vwn rfl rfl (by omega) (by omega) rfl) ?_
    | refine wG_n rfl rfl ?_
    | refine wG_u rfl rfl ?_
    | refine wG_new (o_mks rfl rfl (by omega) (by decide)) ?_))
    refine wG_pure (o_ldt_pt rfl (hg_skip ne00 (hg_skip ne01 hg_here)) rfl rfl rfl) ?_
    refine wG_callG (v' := dtV c0 r xs) cT rfl rfl rfl ?_
    change wpG _ _ _ ⟨_, dtH c0 r xs _, _⟩ _
    repeat (first | refine wG_call cI (ag_any (dr_dt r xs (fun i rows hi => dtH_in hi)) ag_nil) rfl ?_ | refine wG_call cQ (ag_any rfl (ag_sl rfl (dtH_out (by omega) hg_here) rfl iRow_plain ag_nil)) rfl ?_ | refine wG_call cQ (ag_any rfl (ag_sl rfl (dtH_out (by omega) (hg_skip ney2 hg_here)) rfl iRow_plain ag_nil)) rfl ?_ | refine wG_call cH rfl rfl ?_ | (first
    | refine wC_a rfl ?_
    | refine q_s rfl ?_
    | refine q_b rfl ?_
    | refine wG_nil ?_
    | refine wG_g rfl ?_
    | refine wG_pure (o_len_vwm rfl) ?_
    | refine wG_pure (o_not_d rfl) ?_
    | refine wG_p rfl (by first | exact rfl | omega) ?_
    | refine wG_pure (o_str2 rfl rfl rfl) ?_
    | refine wG_pure (e_istr rfl rfl (by omega)) ?_
    | refine wG_pure (e_istr0 rfl rfl (by omega)) ?_
    | refine wG_pure (o_not rfl) ?_
    | refine wG_pure (e_ia_vw0 rfl rfl (by omega) rfl) ?_
    | refine wG_pure (e_ia_vwp rfl rfl (by omega) rfl) ?_
    | refine wG_pure (e_ia_vwm rfl rfl (by omega) (by omega) rfl) ?_
    | refine wG_pure (e_ia_vwi rfl rfl (by omega) rfl) ?_
    | refine wG_pure (e_ia_vwn rfl rfl (by omega) (by omega) rfl) ?_
    | refine wG_n rfl rfl ?_
    | refine wG_u rfl rfl ?_
    | refine wG_new (o_mks rfl rfl (by omega) (by decide)) ?_))
    exact ret_boolE (.inr rfl) ⟨_, retV_mv rfl, rfl⟩
end Go.Proofs.Ytkeobnaehgcloaa.Dst
