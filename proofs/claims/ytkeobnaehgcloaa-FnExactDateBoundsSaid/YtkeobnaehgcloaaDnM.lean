/- The law on the likeliest dating. -/
import Derived.Test.YtkeobnaehgcloaaDnL
import Derived.Test.YtkeobnaehgcloaaDnD
namespace Go.Proofs.Ytkeobnaehgcloaa.Ab
open Go
/-- A contract on own objects holds where more is known. -/
theorem Sh_sub {P : Program} {f : Nat} {args : List AV} {h h2 h' : List (Nat × Option Rows)} {nr nr' : Nat} {v : AV} (e : ∀ r rows, hg h r = some rows → hg h2 r = some rows) (hs : Sh P f args h nr v h' nr') : Sh P f args h2 nr v h' nr' := by
  refine ⟨hs.1, fun B c0 cargs hr => hs.2 B c0 cargs ⟨⟨?_, ?_, ?_, ?_, ?_, ?_, ?_⟩, hr.kn, hr.fb, hr.bb⟩⟩
  · exact fun r rows hq => hr.hr.known r rows (e r rows hq)
  · exact fun r rows hq => hr.hr.len r rows (e r rows hq)
  · exact fun r rows hq => hr.hr.rowlen r rows (e r rows hq)
  · exact fun r rows hq => hr.hr.cells r rows (e r rows hq)
  · exact fun r rows hq => hr.hr.live r rows (e r rows hq)
  · exact fun r rows hq => hr.hr.base r rows (e r rows hq)
  · exact fun r r' rows rows' hq hq' => hr.hr.inj r r' rows rows' (e r rows hq) (e r' rows' hq')
end Go.Proofs.Ytkeobnaehgcloaa.Ab
namespace Go.Proofs.Ytkeobnaehgcloaa.Dst
open Go Go.Proofs.Ytkeobnaehgcloaa.Ab Go.Proofs.Ytkeobnaehgcloaa.Il Go.Proofs.Ytkeobnaehgcloaa.Rec
attribute [local irreducible] wpO wpC wpDr wpQ wpG wpE stepA seqQ blkQ Ret RetG ev
set_option maxRecDepth 10000
set_option maxHeartbeats 8000000
set_option linter.unusedSimpArgs false
set_option linter.unusedVariables false

def ac8 : AC := (.seq (.reg [⟨(some 1), none, (.box 3 true (.t 0))⟩, ⟨(some 2), none, (.mv (.c (.bool false)))⟩]) (.seq (.reg [⟨(some 3), none, (.mv (.c (.int .i64 1048576)))⟩]) (.seq (.reg [⟨(some 17), none, (.ld true 3 (.t 1))⟩, ⟨(some 18), none, (.mv (.t 3))⟩, ⟨(some 19), none, (.call 12 [(.t 17), (.t 18)])⟩, ⟨(some 3), none, (.mv (.t 19))⟩]) (.seq (.seq (.reg [⟨(some 20), none, (.mv (.t 3))⟩, ⟨(some 21), none, (.bin .lss (.t 20) (.c (.int .i64 0)))⟩]) (.cond (.t 21) (.seq (.reg [⟨(some 2), none, (.mv (.c (.bool true)))⟩]) .ret) .skip)) (.seq (.reg [⟨(some 23), none, (.ld true 3 (.t 1))⟩, ⟨(some 24), none, (.call 15 [(.t 23)])⟩, ⟨(some 25), none, (.call 33 [(.t 24)])⟩, ⟨(some 22), none, (.mv (.t 25))⟩, ⟨(some 26), none, (.ext (.t 22) 0)⟩, ⟨(some 27), none, (.ext (.t 22) 1)⟩, ⟨(some 28), none, (.ext (.t 22) 2)⟩, ⟨(some 4), none, (.mv (.t 26))⟩, ⟨(some 5), none, (.mv (.t 27))⟩, ⟨(some 6), none, (.mv (.t 28))⟩]) (.seq (.reg [⟨(some 29), none, (.ld true 3 (.t 1))⟩, ⟨(some 30), none, (.call 15 [(.t 29)])⟩, ⟨(some 7), none, (.alloc [.nilS, .nilS, .nilS])⟩, ⟨none, none, (.st 3 (.t 7) (.t 30))⟩]) (.seq (.reg [⟨(some 32), none, (.ld true 3 (.t 7))⟩, ⟨(some 33), none, (.call 34 [(.t 32)])⟩, ⟨(some 31), none, (.mv (.t 33))⟩, ⟨(some 34), none, (.ext (.t 31) 0)⟩, ⟨(some 35), none, (.ext (.t 31) 1)⟩, ⟨(some 36), none, (.ext (.t 31) 2)⟩, ⟨(some 8), none, (.mv (.t 34))⟩, ⟨(some 9), none, (.mv (.t 35))⟩, ⟨(some 10), none, (.mv (.t 36))⟩]) (.seq (.seq (.reg [⟨(some 37), none, (.mv (.t 8))⟩, ⟨(some 38), none, (.mv (.t 4))⟩, ⟨(some 39), none, (.call 28 [(.t 37), (.t 38)])⟩, ⟨(some 40), none, (.un .not (.t 39))⟩, ⟨(some 41), none, (.mv (.t 40))⟩, ⟨(some 42), (some (41, false)), (.mv (.t 9))⟩, ⟨(some 43), (some (41, false)), (.mv (.t 5))⟩, ⟨(some 44), (some (41, false)), (.bin .neq (.t 42) (.t 43))⟩, ⟨(some 45), none, (.pick (.t 41) (.c (.bool true)) (.t 44))⟩, ⟨(some 46), none, (.mv (.t 45))⟩, ⟨(some 47), (some (46, false)), (.mv (.t 10))⟩, ⟨(some 48), (some (46, false)), (.mv (.t 6))⟩, ⟨(some 49), (some (46, false)), (.bool2 true (.t 47) (.t 48))⟩, ⟨(some 50), none, (.pick (.t 46) (.c (.bool true)) (.t 49))⟩]) (.cond (.t 50) (.seq (.reg [⟨(some 2), none, (.mv (.c (.bool false)))⟩]) .ret) .skip)) (.seq (.seq (.dreg [⟨(some 51), none, (.ld true 3 (.t 7))⟩, ⟨(some 52), none, (.ld true 3 (.t 1))⟩, ⟨(some 53), none, (.call 15 [(.t 52)])⟩, ⟨(some 54), none, (.call 18 [(.t 51), (.t 53)])⟩, ⟨(some 55), none, (.un .not (.t 54))⟩] [[], [], [1], [0, 1, 2], [0, 1, 2, 3]]) (.cond (.t 55) (.seq (.reg [⟨(some 2), none, (.mv (.c (.bool false)))⟩]) .ret) .skip)) (.seq (.reg [⟨(some 11), none, (.mv (.c (.int .i64 1)))⟩]) (.seq (.reg [⟨(some 56), none, (.ld true 3 (.t 7))⟩, ⟨(some 57), none, (.mv (.t 11))⟩, ⟨(some 58), none, (.call 20 [(.t 56), (.t 57)])⟩, ⟨(some 11), none, (.mv (.t 58))⟩]) (.seq (.seq (.reg [⟨(some 59), none, (.mv (.t 11))⟩, ⟨(some 60), none, (.bin .lss (.t 59) (.c (.int .i64 0)))⟩, ⟨(some 61), none, (.mv (.t 60))⟩, ⟨(some 62), (some (61, false)), (.mv (.t 8))⟩, ⟨(some 63), (some (61, false)), (.mv (.t 4))⟩, ⟨(some 64), (some (61, false)), (.call 28 [(.t 62), (.t 63)])⟩, ⟨(some 65), (some (61, false)), (.un .not (.t 64))⟩, ⟨(some 66), none, (.pick (.t 61) (.c (.bool true)) (.t 65))⟩, ⟨(some 67), none, (.mv (.t 66))⟩, ⟨(some 68), (some (67, false)), (.mv (.t 9))⟩, ⟨(some 69), (some (67, false)), (.mv (.t 5))⟩, ⟨(some 70), (some (67, false)), (.bin .neq (.t 68) (.t 69))⟩, ⟨(some 71), none, (.pick (.t 67) (.c (.bool true)) (.t 70))⟩, ⟨(some 72), none, (.mv (.t 71))⟩, ⟨(some 73), (some (72, false)), (.mv (.t 10))⟩, ⟨(some 74), (some (72, false)), (.mv (.t 6))⟩, ⟨(some 75), (some (72, false)), (.bool2 true (.t 73) (.t 74))⟩, ⟨(some 76), none, (.pick (.t 72) (.c (.bool true)) (.t 75))⟩]) (.cond (.t 76) (.seq (.reg [⟨(some 2), none, (.mv (.c (.bool false)))⟩]) .ret) .skip)) (.seq (.reg [⟨(some 12), none, (.mv (.c (.int .i64 1)))⟩]) (.seq (.reg [⟨(some 77), none, (.mv (.t 8))⟩, ⟨(some 78), none, (.mv (.t 12))⟩, ⟨(some 79), none, (.call 35 [(.t 77), (.t 78)])⟩, ⟨(some 12), none, (.mv (.t 79))⟩]) (.seq (.reg [⟨(some 13), none, (.mv (.c (.int .i64 1)))⟩]) (.seq (.reg [⟨(some 80), none, (.mv (.t 8))⟩, ⟨(some 81), none, (.mv (.t 13))⟩, ⟨(some 82), none, (.call 36 [(.t 80), (.t 81)])⟩, ⟨(some 13), none, (.mv (.t 82))⟩]) (.seq (.seq (.reg [⟨(some 83), none, (.mv (.t 13))⟩, ⟨(some 84), none, (.bin .lss (.t 83) (.c (.int .i64 0)))⟩]) (.cond (.t 84) (.seq (.reg [⟨(some 2), none, (.mv (.c (.bool false)))⟩]) .ret) .skip)) (.seq (.seq (.reg [⟨(some 85), none, (.mv (.t 13))⟩, ⟨(some 86), none, (.mv (.t 12))⟩, ⟨(some 87), none, (.bin .neq (.t 85) (.t 86))⟩]) (.cond (.t 87) (.seq (.reg [⟨(some 2), none, (.mv (.c (.bool false)))⟩]) .ret) .skip)) (.seq (.reg [⟨(some 89), none, (.ld true 3 (.t 1))⟩, ⟨(some 90), none, (.call 15 [(.t 89)])⟩, ⟨(some 91), none, (.call 34 [(.t 90)])⟩, ⟨(some 88), none, (.mv (.t 91))⟩, ⟨(some 92), none, (.ext (.t 88) 0)⟩, ⟨(some 93), none, (.ext (.t 88) 1)⟩, ⟨(some 94), none, (.ext (.t 88) 2)⟩, ⟨(some 14), none, (.mv (.t 92))⟩, ⟨(some 15), none, (.mv (.t 93))⟩, ⟨(some 16), none, (.mv (.t 94))⟩]) (.seq (.seq (.reg [⟨(some 95), none, (.mv (.t 14))⟩, ⟨(some 96), none, (.mv (.t 4))⟩, ⟨(some 97), none, (.call 28 [(.t 95), (.t 96)])⟩, ⟨(some 98), none, (.un .not (.t 97))⟩, ⟨(some 99), none, (.mv (.t 98))⟩, ⟨(some 100), (some (99, false)), (.mv (.t 15))⟩, ⟨(some 101), (some (99, false)), (.mv (.t 5))⟩, ⟨(some 102), (some (99, false)), (.bin .neq (.t 100) (.t 101))⟩, ⟨(some 103), none, (.pick (.t 99) (.c (.bool true)) (.t 102))⟩, ⟨(some 104), none, (.mv (.t 103))⟩, ⟨(some 105), (some (104, false)), (.mv (.t 16))⟩, ⟨(some 106), (some (104, false)), (.mv (.t 6))⟩, ⟨(some 107), (some (104, false)), (.bool2 true (.t 105) (.t 106))⟩, ⟨(some 108), none, (.pick (.t 104) (.c (.bool true)) (.t 107))⟩]) (.cond (.t 108) (.seq (.reg [⟨(some 2), none, (.mv (.c (.bool false)))⟩]) .ret) .skip)) (.seq (.reg [⟨(some 13), none, (.mv (.c (.int .i64 1)))⟩]) (.seq (.reg [⟨(some 109), none, (.mv (.t 8))⟩, ⟨(some 110), none, (.mv (.t 13))⟩, ⟨(some 111), none, (.call 36 [(.t 109), (.t 110)])⟩, ⟨(some 13), none, (.mv (.t 111))⟩]) (.seq (.seq (.reg [⟨(some 112), none, (.mv (.t 13))⟩, ⟨(some 113), none, (.bin .lss (.t 112) (.c (.int .i64 0)))⟩]) (.cond (.t 113) (.seq (.reg [⟨(some 2), none, (.mv (.c (.bool false)))⟩]) .ret) .skip)) (.seq (.seq (.reg [⟨(some 114), none, (.mv (.t 13))⟩, ⟨(some 115), none, (.mv (.t 12))⟩, ⟨(some 116), none, (.bin .neq (.t 114) (.t 115))⟩]) (.cond (.t 116) (.seq (.reg [⟨(some 2), none, (.mv (.c (.bool false)))⟩]) .ret) .skip)) (.seq (.reg [⟨(some 2), none, (.mv (.c (.bool true)))⟩]) .ret)))))))))))))))))))))))))
def ro8 : List AOp := [(.mv (.t 2))]
theorem fun8 : Fun Try.prog 8 117 ac8 ro8 := ⟨Try.f8, _, Try.func8, by kernel_rfl, rfl, rfl, by kernel_rfl, by kernel_rfl, by decide⟩

theorem dtH_wf {m nr : Nat} {r : Rc} {xs : List Dn} {h : List (Nat × Option Ab.Rows)} (hm : m + (xs.length + 3) ≤ nr) (hw : wfH h nr) : wfH (dtH m r xs h) nr := by
  intro q rows hq
  by_cases e : m ≤ q ∧ q < m + (xs.length + 3)
  · obtain ⟨i, rfl⟩ : ∃ i, q = m + i := ⟨q - m, by omega⟩
    refine ⟨by omega, ?_⟩
    have hi : i < (dtO r xs).length := by rw [dtO_len]; omega
    obtain ⟨rows0, h0⟩ : ∃ rows0, (dtO r xs)[i]? = some rows0 := ⟨_, List.getElem?_eq_getElem hi⟩
    rw [dtH_in h0] at hq
    cases hq
    match i, h0 with
    | 0, h0 => cases h0; rw [shR_plain (cRowsP _)]; exact ltrK _ _
    | 1, h0 => cases h0; rw [shR_plain (xRowsP _)]; exact ltrX _ _
    | 2, h0 =>
      cases h0
      rw [nR_sh]
      exact nR_ltr (by omega) (fun x _ y hy => by
        simp only [z0, List.mem_cons, List.not_mem_nil, or_false] at hy
        rcases hy with rfl | rfl <;> rfl)
    | i + 3, h0 =>
      have h6 : (dtO r xs)[i + 3]? = some ((hD.w (xs.getD i default)).map iRow) := nO_get (K := hD) (k := xs.length) (by omega) (Nat.le_refl _)
      rw [h6] at h0
      cases h0
      rw [shR_plain (rowsP _)]
      exact ltrI _ _
  · rw [dtH, hg_app] at hq
    rw [List.length_map, dtO_len, if_neg e] at hq
    exact hw q rows hq
/-- Marks on a copy of a record: what else is known of stays known. -/
theorem sh_mdr (r : Rc) (xs : List Dn) (h1 : r.cs.length ≤ 1048576) (h2 : r.xs.length ≤ 1048576) (h3 : xs.length ≤ 1048576) (hS : sL xs xs.length ≤ 1048576) {h h' : List (Nat × Option Ab.Rows)} {nr m : Nat} (hin : ∀ i rows, (dtO r xs)[i]? = some rows → hg h (m + i) = some (shR m rows)) (hm : m + (xs.length + 3) ≤ nr) (hw' : wfH h' nr) (hsub : ∀ q rows, hg h' q = some rows → hg h q = some rows ∧ (q < m ∨ m + (xs.length + 3) ≤ q)) :
    Sh Try.prog 20 [dtV m r xs, .int .i64 1] h nr (.int .i64 (1 + 2 * r.cs.length + 2 * r.xs.length + xs.length + sL xs xs.length)) h' (nr + 2) := by
  refine Sh_sub (h := dtH m r xs h') (fun q rows hq => ?_) (sh20 r xs h1 h2 h3 hS (fun i rows hi => dtH_in hi) hm (dtH_wf hm hw') hw' (fun q rows hq => ⟨dtH_out (hsub q rows hq).2 hq, (hsub q rows hq).2⟩))
  by_cases e : m ≤ q ∧ q < m + (xs.length + 3)
  · obtain ⟨i, rfl⟩ : ∃ i, q = m + i := ⟨q - m, by omega⟩
    have hi : i < (dtO r xs).length := by rw [dtO_len]; omega
    obtain ⟨rows0, h0⟩ : ∃ rows0, (dtO r xs)[i]? = some rows0 := ⟨_, List.getElem?_eq_getElem hi⟩
    rw [dtH_in h0] at hq
    rw [hin i rows0 h0]; exact hq
  · rw [dtH, hg_app] at hq
    rw [List.length_map, dtO_len, if_neg e] at hq
    exact (hsub q rows hq).1
theorem con8 (a b c : Bool) (r : Rc) (xs : List Dn) (h1 : r.cs.length ≤ 9223372036854775807) (h2 : r.xs.length ≤ 9223372036854775807) (h3 : xs.length ≤ 9223372036854775807) (hL : LenN xs 9223372036854775807) : Con Try.prog 8 true [.agg (dtR a b c r xs)] (.bool true) [] := by
  classical
  refine con_of_wp mixed fun8 (by simp) [] plain_nil ?_
  unfold ac8 ro8
  simp only [zipT]
  have c1 := con12 a b c r xs h1 h2 h3 hL 1048576 (by decide) (by decide)
  by_cases hR : szR 1048576 r < 0
  · rw [if_pos hR] at c1
    repeat (first | refine wG_call c1 rfl rfl ?_ | (first
    | refine wC_a rfl ?_
    | refine q_s rfl ?_
    | refine q_b rfl ?_
    | refine wG_nil ?_
    | refine wG_g rfl ?_
    | refine wG_pure (o_len_vwm rfl) ?_
    | refine wG_pure (o_not_d rfl) ?_
    | refine wG_p rfl (by first | exact rfl | omega) ?_
    | refine wG_pure (o_str2 rfl rfl rfl) ?_
    | refine wG_pure (e_istr rfl rfl (by omega)) ?_
    | refine wG_pure (e_istr0 rfl rfl (by omega)) ?_
    | refine wG_pure (o_not rfl) ?_
    | refine wG_pure (e_ia_vw0 rfl rfl (by omega) rfl) ?_
    | refine wG_pure (e_ia_vwp rfl rfl (by omega) rfl) ?_
    | refine wG_pure (e_ia_vwm rfl rfl (by omega) (by omega) rfl) ?_
    | refine wG_pure (e_ia_vwi rfl rfl (by omega) rfl) ?_
    | refine wG_pure (e_ia_vwn rfl rfl (by omega) (by omega) rfl) ?_
    | refine wG_n rfl rfl ?_
    | refine wG_u rfl rfl ?_
    | refine wG_new (o_mks rfl rfl (by omega) (by decide)) ?_))
    exact ret_boolE (.inr rfl) ⟨_, retV_mv rfl, rfl⟩
  rw [if_neg hR] at c1
  obtain ⟨s1, s2, s3⟩ := szR_ok (Int.not_lt.1 hR)
  by_cases hD2 : szD (szR 1048576 r) xs < 0
  · rw [if_pos hD2] at c1
    repeat (first | refine wG_call c1 rfl rfl ?_ | (first
    | refine wC_a rfl ?_
    | refine q_s rfl ?_
    | refine q_b rfl ?_
    | refine wG_nil ?_
    | refine wG_g rfl ?_
    | refine wG_pure (o_len_vwm rfl) ?_
    | refine wG_pure (o_not_d rfl) ?_
    | refine wG_p rfl (by first | exact rfl | omega) ?_
    | refine wG_pure (o_str2 rfl rfl rfl) ?_
    | refine wG_pure (e_istr rfl rfl (by omega)) ?_
    | refine wG_pure (e_istr0 rfl rfl (by omega)) ?_
    | refine wG_pure (o_not rfl) ?_
    | refine wG_pure (e_ia_vw0 rfl rfl (by omega) rfl) ?_
    | refine wG_pure (e_ia_vwp rfl rfl (by omega) rfl) ?_
    | refine wG_pure (e_ia_vwm rfl rfl (by omega) (by omega) rfl) ?_
    | refine wG_pure (e_ia_vwi rfl rfl (by omega) rfl) ?_
    | refine wG_pure (e_ia_vwn rfl rfl (by omega) (by omega) rfl) ?_
    | refine wG_n rfl rfl ?_
    | refine wG_u rfl rfl ?_
    | refine wG_new (o_mks rfl rfl (by omega) (by decide)) ?_))
    exact ret_boolE (.inr rfl) ⟨_, retV_mv rfl, rfl⟩
  rw [if_neg hD2] at c1
  obtain ⟨s4, s5, s6⟩ := szD_ok (Int.not_lt.1 hD2)
  have h1' : r.cs.length ≤ 1048576 := by omega
  have h2' : r.xs.length ≤ 1048576 := by omega
  have h3' : xs.length ≤ 1048576 := by omega
  have hL' : LenN xs 1048576 := fun i hi => by have := s5 i hi; omega
  have h3t : (tD xs).length ≤ 1048576 := by rw [tD_len]; exact h3'
  have hLt := hL'.t
  have cT := con15 a b c r xs h1' h2' h3' hL'
  have hdi : (∃ (vs : List Int) (z : Int) (p : Bool), vs.length ≤ 1048576 ∧ Con Try.prog 33 true [.agg (dtR true true true r (tD xs))] (.tup [.sl 0 1 0 vs.length, .int .i64 z, .bool p]) [vs.map iRow] ∧ Con Try.prog 34 true [.agg (dtR true true true r (tD xs))] (.tup [.sl 0 1 0 vs.length, .int .i64 z, .bool p]) [vs.map iRow]) ∨ (Con Try.prog 33 true [.agg (dtR true true true r (tD xs))] (.tup [.sl 0 1 0 0, .int .i64 0, .bool false]) [([] : List Int).map iRow] ∧ Con Try.prog 34 true [.agg (dtR true true true r (tD xs))] (.tup [.nilS, .int .i64 0, .bool false]) []) := by
    by_cases hk : GoodN r (tD xs)
    · have cS := con33_yes true true true r (tD xs) h1' h2' h3t hLt hk
      obtain ⟨cN, cY⟩ := con34_all true true true r (tD xs) h1' h2' h3t hLt hk
      have hok := ldS_ok r (tD xs) (cp (tD xs) (tD xs).length)
      by_cases hn : (ldS r (tD xs) (cp (tD xs) (tD xs).length)).1 = none
      · refine .inr ⟨?_, cN hn⟩
        have e1 : bst (ldS r (tD xs) (cp (tD xs) (tD xs).length)) = [] := by unfold bst; rw [hn]
        rw [e1, hok.no hn] at cS
        exact cS
      · exact .inl ⟨_, _, _, Nat.le_trans (bst_len hok) h3t, cS, cY hn⟩
    · exact .inr ⟨con33_no true true true r (tD xs) h1' h2' h3t hLt hk, con34_no true true true r (tD xs) h1' h2' h3t hLt hk⟩
  have cE := con18 true true true true true true r (tD xs) h1' h2' h3t hLt
  have hlen := dtO_len r xs
  have hS : sL xs xs.length ≤ 1048576 := by have := szD_sum (Int.not_lt.1 hD2); omega
  have d0 : decide (szD (szR 1048576 r) xs < 0) = false := decide_eq_false hD2
  repeat (first | refine wG_call c1 rfl rfl ?_ | (first
    | refine wC_a rfl ?_
    | refine q_s rfl ?_
    | refine q_b rfl ?_
    | refine wG_nil ?_
    | refine wG_g rfl ?_
    | refine wG_pure (o_len_vwm rfl) ?_
    | refine wG_pure (o_not_d rfl) ?_
    | refine wG_p rfl (by first | exact rfl | omega) ?_
    | refine wG_pure (o_str2 rfl rfl rfl) ?_
    | refine wG_pure (e_istr rfl rfl (by omega)) ?_
    | refine wG_pure (e_istr0 rfl rfl (by omega)) ?_
    | refine wG_pure (o_not rfl) ?_
    | refine wG_pure (e_ia_vw0 rfl rfl (by omega) rfl) ?_
    | refine wG_pure (e_ia_vwp rfl rfl (by omega) rfl) ?_
    | refine wG_pure (e_ia_vwm rfl rfl (by omega) (by omega) rfl) ?_
    | refine wG_pure (e_ia_vwi rfl rfl (by omega) rfl) ?_
    | refine wG_pure (e_ia_vwn rfl rfl (by omega) (by omega) rfl) ?_
    | refine wG_n rfl rfl ?_
    | refine wG_u rfl rfl ?_
    | refine wG_new (o_mks rfl rfl (by omega) (by decide)) ?_))
  simp only [d0]
  repeat (first
    | refine wC_a rfl ?_
    | refine q_s rfl ?_
    | refine q_b rfl ?_
    | refine wG_nil ?_
    | refine wG_g rfl ?_
    | refine wG_pure (o_len_vwm rfl) ?_
    | refine wG_pure (o_not_d rfl) ?_
    | refine wG_p rfl (by first | exact rfl | omega) ?_
    | refine wG_pure (o_str2 rfl rfl rfl) ?_
    | refine wG_pure (e_istr rfl rfl (by omega)) ?_
    | refine wG_pure (e_istr0 rfl rfl (by omega)) ?_
    | refine wG_pure (o_not rfl) ?_
    | refine wG_pure (e_ia_vw0 rfl rfl (by omega) rfl) ?_
    | refine wG_pure (e_ia_vwp rfl rfl (by omega) rfl) ?_
    | refine wG_pure (e_ia_vwm rfl rfl (by omega) (by omega) rfl) ?_
    | refine wG_pure (e_ia_vwi rfl rfl (by omega) rfl) ?_
    | refine wG_pure (e_ia_vwn rfl rfl (by omega) (by omega) rfl) ?_
    | refine wG_n rfl rfl ?_
    | refine wG_u rfl rfl ?_
    | refine wG_new (o_mks rfl rfl (by omega) (by decide)) ?_)
  refine wG_callG (v' := dtV 1 r xs) cT rfl rfl rfl ?_
  change wpG _ _ _ ⟨_, dtH 1 r xs _, _⟩ _
  obtain ⟨y1, hy1⟩ : ∃ y1, 0 + 1 + (dtO r xs).length = y1 := ⟨_, rfl⟩
  rw [hy1]
  have sM := fun {h h' nr m} => @sh_mdr r xs h1' h2' h3' hS h h' nr m
  obtain ⟨K, hK0, hK⟩ : ∃ K : Int, 0 ≤ K ∧ 1 + 2 * (r.cs.length : Int) + 2 * (r.xs.length : Int) + (xs.length : Int) + (sL xs xs.length : Int) = K := ⟨_, by omega, rfl⟩
  simp only [hK] at sM
  have dK : decide (K < 0) = false := decide_eq_false (by omega)
  rcases hdi with ⟨vs, z, p, hv10, cS, cI⟩ | ⟨cS, cI⟩
  · have dz : decide (z ≠ z) = false := decide_eq_false (fun h => h rfl)
    have dp : decide (p ≠ p) = false := decide_eq_false (fun h => h rfl)
    have cQ := con28_same true true vs hv10
    have cH := con36 true vs.length 1 (by omega) (by decide) (by decide)
    have sV := fun h nr q => @sh35 vs 1 (by omega) (by decide) (by decide) h nr q
    repeat (first | refine wG_call1 cS (ag_any (dr_dt r xs (fun i rows hi => dtH_in hi)) ag_nil) rfl ?_ | (first
    | refine wC_a rfl ?_
    | refine q_s rfl ?_
    | refine q_b rfl ?_
    | refine wG_nil ?_
    | refine wG_g rfl ?_
    | refine wG_pure (o_len_vwm rfl) ?_
    | refine wG_pure (o_not_d rfl) ?_
    | refine wG_p rfl (by first | exact rfl | omega) ?_
    | refine wG_pure (o_str2 rfl rfl rfl) ?_
    | refine wG_pure (e_istr rfl rfl (by omega)) ?_
    | refine wG_pure (e_istr0 rfl rfl (by omega)) ?_
    | refine wG_pure (o_not rfl) ?_
    | refine wG_pure (e_ia_vw0 rfl rfl (by omega) rfl) ?_
    | refine wG_pure (e_ia_vwp rfl rfl (by omega) rfl) ?_
    | refine wG_pure (e_ia_vwm rfl rfl (by omega) (by omega) rfl) ?_
    | refine wG_pure (e_ia_vwi rfl rfl (by omega) rfl) ?_
    | refine wG_pure (e_ia_vwn rfl rfl (by omega) (by omega) rfl) ?_
    | refine wG_n rfl rfl ?_
    | refine wG_u rfl rfl ?_
    | refine wG_new (o_mks rfl rfl (by omega) (by decide)) ?_))
    refine wG_pure (o_ldt_pt rfl (hg_skip (by omega) (dtH_out (by omega) rfl)) rfl rfl rfl) ?_
    refine wG_callG (v' := dtV (y1 + 1) r xs) cT rfl rfl rfl ?_
    change wpG _ _ _ ⟨_, dtH (y1 + 1) r xs _, _⟩ _
    obtain ⟨b0, hb0⟩ : ∃ b0, y1 + 1 + (dtO r xs).length = b0 := ⟨_, rfl⟩
    rw [hb0]
    have hx0 : ∀ {v1 v2 : Option Ab.Rows} {h : List (Nat × Option Ab.Rows)} (i : Nat) (rows : Ab.Rows), (dtO r xs)[i]? = some rows → hg ((b0, v1) :: (b0, v2) :: dtH (y1 + 1) r xs h) (y1 + 1 + i) = some (shR (y1 + 1) rows) := fun i rows hi => by
      have := dtO_lt hi
      exact hg_skip (by omega) (hg_skip (by omega) (dtH_in hi))
    have hx1 : ∀ {v0 v1 v2 : Option Ab.Rows} {h : List (Nat × Option Ab.Rows)} (i : Nat) (rows : Ab.Rows), (dtO r xs)[i]? = some rows → hg (dtH (b0 + 1 + 1) r xs ((b0 + 1, v0) :: (b0, v1) :: (b0, v2) :: dtH (y1 + 1) r xs h)) (y1 + 1 + i) = some (shR (y1 + 1) rows) := fun i rows hi => by
      have := dtO_lt hi
      exact dtH_out (by omega) (hg_skip (by omega) (hx0 i rows hi))
    have ne1 : b0 ≠ b0 + 1 := by omega
    repeat (first | refine wC_dregE ?_ | refine wG_upd (o_st_agg rfl hg_here rfl rfl rfl rfl rfl) ?_ | refine wG_pure (o_ldt_pt rfl hg_here rfl rfl rfl) ?_ | refine wG_call1 cI (ag_any (dr_dt r xs hx0) ag_nil) rfl ?_ | refine wG_call cQ (ag_sl rfl hg_here rfl iRow_plain (ag_sl rfl (hg_skip (by omega) (hg_skip (by omega) (hg_skip (by omega) (dtH_out (by omega) hg_here)))) rfl iRow_plain ag_nil)) rfl ?_ | (first
    | refine wC_a rfl ?_
    | refine q_s rfl ?_
    | refine q_b rfl ?_
    | refine wG_nil ?_
    | refine wG_g rfl ?_
    | refine wG_pure (o_len_vwm rfl) ?_
    | refine wG_pure (o_not_d rfl) ?_
    | refine wG_p rfl (by first | exact rfl | omega) ?_
    | refine wG_pure (o_str2 rfl rfl rfl) ?_
    | refine wG_pure (e_istr rfl rfl (by omega)) ?_
    | refine wG_pure (e_istr0 rfl rfl (by omega)) ?_
    | refine wG_pure (o_not rfl) ?_
    | refine wG_pure (e_ia_vw0 rfl rfl (by omega) rfl) ?_
    | refine wG_pure (e_ia_vwp rfl rfl (by omega) rfl) ?_
    | refine wG_pure (e_ia_vwm rfl rfl (by omega) (by omega) rfl) ?_
    | refine wG_pure (e_ia_vwi rfl rfl (by omega) rfl) ?_
    | refine wG_pure (e_ia_vwn rfl rfl (by omega) (by omega) rfl) ?_
    | refine wG_n rfl rfl ?_
    | refine wG_u rfl rfl ?_
    | refine wG_new (o_mks rfl rfl (by omega) (by decide)) ?_))
    simp only [dz]
    repeat (first
    | refine wC_a rfl ?_
    | refine q_s rfl ?_
    | refine q_b rfl ?_
    | refine wG_nil ?_
    | refine wG_g rfl ?_
    | refine wG_pure (o_len_vwm rfl) ?_
    | refine wG_pure (o_not_d rfl) ?_
    | refine wG_p rfl (by first | exact rfl | omega) ?_
    | refine wG_pure (o_str2 rfl rfl rfl) ?_
    | refine wG_pure (e_istr rfl rfl (by omega)) ?_
    | refine wG_pure (e_istr0 rfl rfl (by omega)) ?_
    | refine wG_pure (o_not rfl) ?_
    | refine wG_pure (e_ia_vw0 rfl rfl (by omega) rfl) ?_
    | refine wG_pure (e_ia_vwp rfl rfl (by omega) rfl) ?_
    | refine wG_pure (e_ia_vwm rfl rfl (by omega) (by omega) rfl) ?_
    | refine wG_pure (e_ia_vwi rfl rfl (by omega) rfl) ?_
    | refine wG_pure (e_ia_vwn rfl rfl (by omega) (by omega) rfl) ?_
    | refine wG_n rfl rfl ?_
    | refine wG_u rfl rfl ?_
    | refine wG_new (o_mks rfl rfl (by omega) (by decide)) ?_)
    simp only [dp]
    repeat (first | refine wC_dregE ?_ | refine wE_v (o_ldt_pt rfl (hg_skip ne1 hg_here) rfl rfl rfl) rfl ?_ | refine wE_v (o_ldt_pt rfl (hg_skip (by omega) (hg_skip (by omega) (hg_skip (by omega) (dtH_out (by omega) (hg_skip (by omega) (dtH_out (by omega) rfl)))))) rfl rfl rfl) rfl ?_ | refine wE_callG (v' := dtV (b0 + 1 + 1) r xs) cT rfl rfl rfl rfl ?_ | refine wE_call cE (ag_any (dr_dt r xs hx1) (ag_any (dr_dt r xs (fun i rows hi => dtH_in hi)) ag_nil)) rfl rfl ?_ | refine wE_nil (hok5 (djB_mkh (by omega))) ?_ | (first
    | refine wC_a rfl ?_
    | refine q_s rfl ?_
    | refine q_b rfl ?_
    | refine wG_nil ?_
    | refine wG_g rfl ?_
    | refine wG_pure (o_len_vwm rfl) ?_
    | refine wG_pure (o_not_d rfl) ?_
    | refine wG_p rfl (by first | exact rfl | omega) ?_
    | refine wG_pure (o_str2 rfl rfl rfl) ?_
    | refine wG_pure (e_istr rfl rfl (by omega)) ?_
    | refine wG_pure (e_istr0 rfl rfl (by omega)) ?_
    | refine wG_pure (o_not rfl) ?_
    | refine wG_pure (e_ia_vw0 rfl rfl (by omega) rfl) ?_
    | refine wG_pure (e_ia_vwp rfl rfl (by omega) rfl) ?_
    | refine wG_pure (e_ia_vwm rfl rfl (by omega) (by omega) rfl) ?_
    | refine wG_pure (e_ia_vwi rfl rfl (by omega) rfl) ?_
    | refine wG_pure (e_ia_vwn rfl rfl (by omega) (by omega) rfl) ?_
    | refine wG_n rfl rfl ?_
    | refine wG_u rfl rfl ?_
    | refine wG_new (o_mks rfl rfl (by omega) (by decide)) ?_) | (first
    | refine wE_nil (by kernel_rfl) ?_
    | refine wE_gy rfl ?_
    | refine wE_gn rfl rfl rfl ?_
    | refine wE_gu rfl rfl ?_
    | refine wE_gnn rfl rfl rfl ?_
    | refine wE_v (o_len_vwm rfl) rfl ?_
    | refine wE_v (o_not_d rfl) rfl ?_
    | refine wE_p rfl (by first | exact rfl | omega) rfl ?_
    | refine wE_v (o_str2 rfl rfl rfl) rfl ?_
    | refine wE_v (e_istr rfl rfl (by omega)) rfl ?_
    | refine wE_v (e_istr0 rfl rfl (by omega)) rfl ?_
    | refine wE_v (o_not rfl) rfl ?_
    | refine wE_v (e_ia_vw0 rfl rfl (by omega) rfl) rfl ?_
    | refine wE_v (e_ia_vwp rfl rfl (by omega) rfl) rfl ?_
    | refine wE_v (e_ia_vwm rfl rfl (by omega) (by omega) rfl) rfl ?_
    | refine wE_v (e_ia_vwi rfl rfl (by omega) rfl) rfl ?_
    | refine wE_v (e_ia_vwn rfl rfl (by omega) (by omega) rfl) rfl ?_
    | refine wE_n rfl rfl rfl ?_
    | refine wE_u rfl rfl rfl ?_
    | refine wE_new (o_mks rfl rfl (by omega) (by decide)) rfl ?_))
    refine wG_pure (o_ldt_pt rfl (dtH_out (by omega) (hg_skip ne1 hg_here)) rfl rfl rfl) ?_
    repeat (first
    | refine wC_a rfl ?_
    | refine q_s rfl ?_
    | refine q_b rfl ?_
    | refine wG_nil ?_
    | refine wG_g rfl ?_
    | refine wG_pure (o_len_vwm rfl) ?_
    | refine wG_pure (o_not_d rfl) ?_
    | refine wG_p rfl (by first | exact rfl | omega) ?_
    | refine wG_pure (o_str2 rfl rfl rfl) ?_
    | refine wG_pure (e_istr rfl rfl (by omega)) ?_
    | refine wG_pure (e_istr0 rfl rfl (by omega)) ?_
    | refine wG_pure (o_not rfl) ?_
    | refine wG_pure (e_ia_vw0 rfl rfl (by omega) rfl) ?_
    | refine wG_pure (e_ia_vwp rfl rfl (by omega) rfl) ?_
    | refine wG_pure (e_ia_vwm rfl rfl (by omega) (by omega) rfl) ?_
    | refine wG_pure (e_ia_vwi rfl rfl (by omega) rfl) ?_
    | refine wG_pure (e_ia_vwn rfl rfl (by omega) (by omega) rfl) ?_
    | refine wG_n rfl rfl ?_
    | refine wG_u rfl rfl ?_
    | refine wG_new (o_mks rfl rfl (by omega) (by decide)) ?_)
    refine wG_callS (sM (m := y1 + 1) (h' := [(b0 + 1, some (vs.map iRow)), (y1, some (vs.map iRow)), (0, some [dtR a b c r xs])]) (fun i rows hi => hx1 i rows hi) (by omega) (wfH_cons (by omega) (ltrI _ _) (wfH_cons (by omega) (ltrI _ _) (wfH_cons (by omega) (dtR_ltr1 _) wfH_nil))) (fun q rows hq => ?_)) rfl ?_
    · by_cases e1 : q = b0 + 1
      · subst e1
        exact ⟨dtH_out (by omega) (hg_here.trans (hg_here.symm.trans hq)), .inr (by omega)⟩
      by_cases e2 : q = y1
      · subst e2
        have h0 : hg [(b0 + 1, some (vs.map iRow)), (q, some (vs.map iRow)), (0, some [dtR a b c r xs])] q = some (vs.map iRow) := hg_skip e1 hg_here
        rw [h0] at hq
        exact ⟨dtH_out (by omega) (hg_skip (by omega) (hg_skip (by omega) (hg_skip (by omega) (dtH_out (by omega) (hg_here.trans hq))))), .inl (by omega)⟩
      by_cases e3 : q = 0
      · subst e3
        have h0 : hg [(b0 + 1, some (vs.map iRow)), (y1, some (vs.map iRow)), (0, some [dtR a b c r xs])] 0 = some [dtR a b c r xs] := hg_skip e1 (hg_skip e2 hg_here)
        rw [h0] at hq
        exact ⟨dtH_out (by omega) (hg_skip (by omega) (hg_skip (by omega) (hg_skip (by omega) (dtH_out (by omega) (hg_skip (by omega) (dtH_out (by omega) (Eq.trans rfl hq))))))), .inl (by omega)⟩
      · simp [Ab.hg, upd, e1, e2, e3] at hq
    obtain ⟨c0, hc0, hbc⟩ : ∃ c0, b0 + 1 + 1 + (dtO r xs).length + 2 = c0 ∧ b0 + 1 < c0 := ⟨_, rfl, by omega⟩
    rw [hc0]
    have ney : y1 ≠ b0 + 1 := by omega
    have ne0 : 0 ≠ b0 + 1 := by omega
    have ne00 : 0 ≠ y1 := by omega
    repeat (first
    | refine wC_a rfl ?_
    | refine q_s rfl ?_
    | refine q_b rfl ?_
    | refine wG_nil ?_
    | refine wG_g rfl ?_
    | refine wG_pure (o_len_vwm rfl) ?_
    | refine wG_pure (o_not_d rfl) ?_
    | refine wG_p rfl (by first | exact rfl | omega) ?_
    | refine wG_pure (o_str2 rfl rfl rfl) ?_
    | refine wG_pure (e_istr rfl rfl (by omega)) ?_
    | refine wG_pure (e_istr0 rfl rfl (by omega)) ?_
    | refine wG_pure (o_not rfl) ?_
    | refine wG_pure (e_ia_vw0 rfl rfl (by omega) rfl) ?_
    | refine wG_pure (e_ia_vwp rfl rfl (by omega) rfl) ?_
    | refine wG_pure (e_ia_vwm rfl rfl (by omega) (by omega) rfl) ?_
    | refine wG_pure (e_ia_vwi rfl rfl (by omega) rfl) ?_
    | refine wG_pure (e_ia_vwn rfl rfl (by omega) (by omega) rfl) ?_
    | refine wG_n rfl rfl ?_
    | refine wG_u rfl rfl ?_
    | refine wG_new (o_mks rfl rfl (by omega) (by decide)) ?_)
    simp only [dK]
    repeat (first | refine wG_call cQ (ag_sl rfl hg_here rfl iRow_plain (ag_sl rfl (hg_skip ney hg_here) rfl iRow_plain ag_nil)) rfl ?_ | (first
    | refine wC_a rfl ?_
    | refine q_s rfl ?_
    | refine q_b rfl ?_
    | refine wG_nil ?_
    | refine wG_g rfl ?_
    | refine wG_pure (o_len_vwm rfl) ?_
    | refine wG_pure (o_not_d rfl) ?_
    | refine wG_p rfl (by first | exact rfl | omega) ?_
    | refine wG_pure (o_str2 rfl rfl rfl) ?_
    | refine wG_pure (e_istr rfl rfl (by omega)) ?_
    | refine wG_pure (e_istr0 rfl rfl (by omega)) ?_
    | refine wG_pure (o_not rfl) ?_
    | refine wG_pure (e_ia_vw0 rfl rfl (by omega) rfl) ?_
    | refine wG_pure (e_ia_vwp rfl rfl (by omega) rfl) ?_
    | refine wG_pure (e_ia_vwm rfl rfl (by omega) (by omega) rfl) ?_
    | refine wG_pure (e_ia_vwi rfl rfl (by omega) rfl) ?_
    | refine wG_pure (e_ia_vwn rfl rfl (by omega) (by omega) rfl) ?_
    | refine wG_n rfl rfl ?_
    | refine wG_u rfl rfl ?_
    | refine wG_new (o_mks rfl rfl (by omega) (by decide)) ?_))
    simp only [dz]
    repeat (first
    | refine wC_a rfl ?_
    | refine q_s rfl ?_
    | refine q_b rfl ?_
    | refine wG_nil ?_
    | refine wG_g rfl ?_
    | refine wG_pure (o_len_vwm rfl) ?_
    | refine wG_pure (o_not_d rfl) ?_
    | refine wG_p rfl (by first | exact rfl | omega) ?_
    | refine wG_pure (o_str2 rfl rfl rfl) ?_
    | refine wG_pure (e_istr rfl rfl (by omega)) ?_
    | refine wG_pure (e_istr0 rfl rfl (by omega)) ?_
    | refine wG_pure (o_not rfl) ?_
    | refine wG_pure (e_ia_vw0 rfl rfl (by omega) rfl) ?_
    | refine wG_pure (e_ia_vwp rfl rfl (by omega) rfl) ?_
    | refine wG_pure (e_ia_vwm rfl rfl (by omega) (by omega) rfl) ?_
    | refine wG_pure (e_ia_vwi rfl rfl (by omega) rfl) ?_
    | refine wG_pure (e_ia_vwn rfl rfl (by omega) (by omega) rfl) ?_
    | refine wG_n rfl rfl ?_
    | refine wG_u rfl rfl ?_
    | refine wG_new (o_mks rfl rfl (by omega) (by decide)) ?_)
    simp only [dp]
    have dM : decide (1 + (vs.length : Int) < 0) = false := decide_eq_false (by omega)
    have dN : decide (1 + (vs.length : Int) ≠ 1 + (vs.length : Int)) = false := decide_eq_false (fun h => h rfl)
    repeat (first | (refine wG_callS (f := 35) (sV _ _ _ hg_here (wfH_cons hbc (ltrI _ _) (wfH_cons (by omega) (ltrI _ _) (wfH_cons (by omega) (dtR_ltr1 _) wfH_nil)))) rfl ?_) | refine wG_call cH (ag_sl rfl hg_here (mks_len _ _).symm iRow_plain (ag_int rfl ag_nil)) rfl ?_ | (first
    | refine wC_a rfl ?_
    | refine q_s rfl ?_
    | refine q_b rfl ?_
    | refine wG_nil ?_
    | refine wG_g rfl ?_
    | refine wG_pure (o_len_vwm rfl) ?_
    | refine wG_pure (o_not_d rfl) ?_
    | refine wG_p rfl (by first | exact rfl | omega) ?_
    | refine wG_pure (o_str2 rfl rfl rfl) ?_
    | refine wG_pure (e_istr rfl rfl (by omega)) ?_
    | refine wG_pure (e_istr0 rfl rfl (by omega)) ?_
    | refine wG_pure (o_not rfl) ?_
    | refine wG_pure (e_ia_vw0 rfl rfl (by omega) rfl) ?_
    | refine wG_pure (e_ia_vwp rfl rfl (by omega) rfl) ?_
    | refine wG_pure (e_ia_vwm rfl rfl (by omega) (by omega) rfl) ?_
    | refine wG_pure (e_ia_vwi rfl rfl (by omega) rfl) ?_
    | refine wG_pure (e_ia_vwn rfl rfl (by omega) (by omega) rfl) ?_
    | refine wG_n rfl rfl ?_
    | refine wG_u rfl rfl ?_
    | refine wG_new (o_mks rfl rfl (by omega) (by decide)) ?_))
    simp only [dM]
    repeat (first
    | refine wC_a rfl ?_
    | refine q_s rfl ?_
    | refine q_b rfl ?_
    | refine wG_nil ?_
    | refine wG_g rfl ?_
    | refine wG_pure (o_len_vwm rfl) ?_
    | refine wG_pure (o_not_d rfl) ?_
    | refine wG_p rfl (by first | exact rfl | omega) ?_
    | refine wG_pure (o_str2 rfl rfl rfl) ?_
    | refine wG_pure (e_istr rfl rfl (by omega)) ?_
    | refine wG_pure (e_istr0 rfl rfl (by omega)) ?_
    | refine wG_pure (o_not rfl) ?_
    | refine wG_pure (e_ia_vw0 rfl rfl (by omega) rfl) ?_
    | refine wG_pure (e_ia_vwp rfl rfl (by omega) rfl) ?_
    | refine wG_pure (e_ia_vwm rfl rfl (by omega) (by omega) rfl) ?_
    | refine wG_pure (e_ia_vwi rfl rfl (by omega) rfl) ?_
    | refine wG_pure (e_ia_vwn rfl rfl (by omega) (by omega) rfl) ?_
    | refine wG_n rfl rfl ?_
    | refine wG_u rfl rfl ?_
    | refine wG_new (o_mks rfl rfl (by omega) (by decide)) ?_)
    simp only [dN]
    repeat (first
    | refine wC_a rfl ?_
    | refine q_s rfl ?_
    | refine q_b rfl ?_
    | refine wG_nil ?_
    | refine wG_g rfl ?_
    | refine wG_pure (o_len_vwm rfl) ?_
    | refine wG_pure (o_not_d rfl) ?_
    | refine wG_p rfl (by first | exact rfl | omega) ?_
    | refine wG_pure (o_str2 rfl rfl rfl) ?_
    | refine wG_pure (e_istr rfl rfl (by omega)) ?_
    | refine wG_pure (e_istr0 rfl rfl (by omega)) ?_
    | refine wG_pure (o_not rfl) ?_
    | refine wG_pure (e_ia_vw0 rfl rfl (by omega) rfl) ?_
    | refine wG_pure (e_ia_vwp rfl rfl (by omega) rfl) ?_
    | refine wG_pure (e_ia_vwm rfl rfl (by omega) (by omega) rfl) ?_
    | refine wG_pure (e_ia_vwi rfl rfl (by omega) rfl) ?_
    | refine wG_pure (e_ia_vwn rfl rfl (by omega) (by omega) rfl) ?_
    | refine wG_n rfl rfl ?_
    | refine wG_u rfl rfl ?_
    | refine wG_new (o_mks rfl rfl (by omega) (by decide)) ?_)
    refine wG_pure (o_ldt_pt rfl (hg_skip ne0 (hg_skip ne0 (hg_skip ne00 hg_here))) rfl rfl rfl) ?_
    refine wG_callG (v' := dtV c0 r xs) cT rfl rfl rfl ?_
    change wpG _ _ _ ⟨_, dtH c0 r xs _, _⟩ _
    obtain ⟨d1, hd1⟩ : ∃ d1, c0 + (dtO r xs).length = d1 := ⟨_, rfl⟩
    rw [hd1]
    have ned : b0 + 1 ≠ d1 := by omega
    repeat (first | refine wG_call1 cI (ag_any (dr_dt r xs (fun i rows hi => dtH_in hi)) ag_nil) rfl ?_ | refine wG_call cQ (ag_sl rfl hg_here rfl iRow_plain (ag_sl rfl (hg_skip (by omega) (dtH_out (by omega) (hg_skip ney (hg_skip ney hg_here)))) rfl iRow_plain ag_nil)) rfl ?_ | (first
    | refine wC_a rfl ?_
    | refine q_s rfl ?_
    | refine q_b rfl ?_
    | refine wG_nil ?_
    | refine wG_g rfl ?_
    | refine wG_pure (o_len_vwm rfl) ?_
    | refine wG_pure (o_not_d rfl) ?_
    | refine wG_p rfl (by first | exact rfl | omega) ?_
    | refine wG_pure (o_str2 rfl rfl rfl) ?_
    | refine wG_pure (e_istr rfl rfl (by omega)) ?_
    | refine wG_pure (e_istr0 rfl rfl (by omega)) ?_
    | refine wG_pure (o_not rfl) ?_
    | refine wG_pure (e_ia_vw0 rfl rfl (by omega) rfl) ?_
    | refine wG_pure (e_ia_vwp rfl rfl (by omega) rfl) ?_
    | refine wG_pure (e_ia_vwm rfl rfl (by omega) (by omega) rfl) ?_
    | refine wG_pure (e_ia_vwi rfl rfl (by omega) rfl) ?_
    | refine wG_pure (e_ia_vwn rfl rfl (by omega) (by omega) rfl) ?_
    | refine wG_n rfl rfl ?_
    | refine wG_u rfl rfl ?_
    | refine wG_new (o_mks rfl rfl (by omega) (by decide)) ?_))
    simp only [dz]
    repeat (first
    | refine wC_a rfl ?_
    | refine q_s rfl ?_
    | refine q_b rfl ?_
    | refine wG_nil ?_
    | refine wG_g rfl ?_
    | refine wG_pure (o_len_vwm rfl) ?_
    | refine wG_pure (o_not_d rfl) ?_
    | refine wG_p rfl (by first | exact rfl | omega) ?_
    | refine wG_pure (o_str2 rfl rfl rfl) ?_
    | refine wG_pure (e_istr rfl rfl (by omega)) ?_
    | refine wG_pure (e_istr0 rfl rfl (by omega)) ?_
    | refine wG_pure (o_not rfl) ?_
    | refine wG_pure (e_ia_vw0 rfl rfl (by omega) rfl) ?_
    | refine wG_pure (e_ia_vwp rfl rfl (by omega) rfl) ?_
    | refine wG_pure (e_ia_vwm rfl rfl (by omega) (by omega) rfl) ?_
    | refine wG_pure (e_ia_vwi rfl rfl (by omega) rfl) ?_
    | refine wG_pure (e_ia_vwn rfl rfl (by omega) (by omega) rfl) ?_
    | refine wG_n rfl rfl ?_
    | refine wG_u rfl rfl ?_
    | refine wG_new (o_mks rfl rfl (by omega) (by decide)) ?_)
    simp only [dp]
    repeat (first | refine wG_call cH (ag_sl rfl (hg_skip ned (dtH_out (by omega) hg_here)) (mks_len _ _).symm iRow_plain (ag_int rfl ag_nil)) rfl ?_ | (first
    | refine wC_a rfl ?_
    | refine q_s rfl ?_
    | refine q_b rfl ?_
    | refine wG_nil ?_
    | refine wG_g rfl ?_
    | refine wG_pure (o_len_vwm rfl) ?_
    | refine wG_pure (o_not_d rfl) ?_
    | refine wG_p rfl (by first | exact rfl | omega) ?_
    | refine wG_pure (o_str2 rfl rfl rfl) ?_
    | refine wG_pure (e_istr rfl rfl (by omega)) ?_
    | refine wG_pure (e_istr0 rfl rfl (by omega)) ?_
    | refine wG_pure (o_not rfl) ?_
    | refine wG_pure (e_ia_vw0 rfl rfl (by omega) rfl) ?_
    | refine wG_pure (e_ia_vwp rfl rfl (by omega) rfl) ?_
    | refine wG_pure (e_ia_vwm rfl rfl (by omega) (by omega) rfl) ?_
    | refine wG_pure (e_ia_vwi rfl rfl (by omega) rfl) ?_
    | refine wG_pure (e_ia_vwn rfl rfl (by omega) (by omega) rfl) ?_
    | refine wG_n rfl rfl ?_
    | refine wG_u rfl rfl ?_
    | refine wG_new (o_mks rfl rfl (by omega) (by decide)) ?_))
    simp only [dM]
    repeat (first
    | refine wC_a rfl ?_
    | refine q_s rfl ?_
    | refine q_b rfl ?_
    | refine wG_nil ?_
    | refine wG_g rfl ?_
    | refine wG_pure (o_len_vwm rfl) ?_
    | refine wG_pure (o_not_d rfl) ?_
    | refine wG_p rfl (by first | exact rfl | omega) ?_
    | refine wG_pure (o_str2 rfl rfl rfl) ?_
    | refine wG_pure (e_istr rfl rfl (by omega)) ?_
    | refine wG_pure (e_istr0 rfl rfl (by omega)) ?_
    | refine wG_pure (o_not rfl) ?_
    | refine wG_pure (e_ia_vw0 rfl rfl (by omega) rfl) ?_
    | refine wG_pure (e_ia_vwp rfl rfl (by omega) rfl) ?_
    | refine wG_pure (e_ia_vwm rfl rfl (by omega) (by omega) rfl) ?_
    | refine wG_pure (e_ia_vwi rfl rfl (by omega) rfl) ?_
    | refine wG_pure (e_ia_vwn rfl rfl (by omega) (by omega) rfl) ?_
    | refine wG_n rfl rfl ?_
    | refine wG_u rfl rfl ?_
    | refine wG_new (o_mks rfl rfl (by omega) (by decide)) ?_)
    simp only [dN]
    repeat (first
    | refine wC_a rfl ?_
    | refine q_s rfl ?_
    | refine q_b rfl ?_
    | refine wG_nil ?_
    | refine wG_g rfl ?_
    | refine wG_pure (o_len_vwm rfl) ?_
    | refine wG_pure (o_not_d rfl) ?_
    | refine wG_p rfl (by first | exact rfl | omega) ?_
    | refine wG_pure (o_str2 rfl rfl rfl) ?_
    | refine wG_pure (e_istr rfl rfl (by omega)) ?_
    | refine wG_pure (e_istr0 rfl rfl (by omega)) ?_
    | refine wG_pure (o_not rfl) ?_
    | refine wG_pure (e_ia_vw0 rfl rfl (by omega) rfl) ?_
    | refine wG_pure (e_ia_vwp rfl rfl (by omega) rfl) ?_
    | refine wG_pure (e_ia_vwm rfl rfl (by omega) (by omega) rfl) ?_
    | refine wG_pure (e_ia_vwi rfl rfl (by omega) rfl) ?_
    | refine wG_pure (e_ia_vwn rfl rfl (by omega) (by omega) rfl) ?_
    | refine wG_n rfl rfl ?_
    | refine wG_u rfl rfl ?_
    | refine wG_new (o_mks rfl rfl (by omega) (by decide)) ?_)
    exact ret_boolE (.inr rfl) ⟨_, retV_mv rfl, rfl⟩
  · have cQ : Con Try.prog 28 true [.nilS, .vw true (([] : List Int).map iRow)] (.bool true) [] := con_nil (con28_same false true [] (by decide))
    have cH : Con Try.prog 36 true [.nilS, .int .i64 1] (.int .i64 1) [] := con_nil (con36 false 0 1 (by decide) (by decide) (by decide))
    have cM := con35_nil 1
    repeat (first | refine wG_call1 cS (ag_any (dr_dt r xs (fun i rows hi => dtH_in hi)) ag_nil) rfl ?_ | (first
    | refine wC_a rfl ?_
    | refine q_s rfl ?_
    | refine q_b rfl ?_
    | refine wG_nil ?_
    | refine wG_g rfl ?_
    | refine wG_pure (o_len_vwm rfl) ?_
    | refine wG_pure (o_not_d rfl) ?_
    | refine wG_p rfl (by first | exact rfl | omega) ?_
    | refine wG_pure (o_str2 rfl rfl rfl) ?_
    | refine wG_pure (e_istr rfl rfl (by omega)) ?_
    | refine wG_pure (e_istr0 rfl rfl (by omega)) ?_
    | refine wG_pure (o_not rfl) ?_
    | refine wG_pure (e_ia_vw0 rfl rfl (by omega) rfl) ?_
    | refine wG_pure (e_ia_vwp rfl rfl (by omega) rfl) ?_
    | refine wG_pure (e_ia_vwm rfl rfl (by omega) (by omega) rfl) ?_
    | refine wG_pure (e_ia_vwi rfl rfl (by omega) rfl) ?_
    | refine wG_pure (e_ia_vwn rfl rfl (by omega) (by omega) rfl) ?_
    | refine wG_n rfl rfl ?_
    | refine wG_u rfl rfl ?_
    | refine wG_new (o_mks rfl rfl (by omega) (by decide)) ?_))
    refine wG_pure (o_ldt_pt rfl (hg_skip (by omega) (dtH_out (by omega) rfl)) rfl rfl rfl) ?_
    refine wG_callG (v' := dtV (y1 + 1) r xs) cT rfl rfl rfl ?_
    change wpG _ _ _ ⟨_, dtH (y1 + 1) r xs _, _⟩ _
    obtain ⟨b0, hb0⟩ : ∃ b0, y1 + 1 + (dtO r xs).length = b0 := ⟨_, rfl⟩
    rw [hb0]
    have hx0 : ∀ {v1 v2 : Option Ab.Rows} {h : List (Nat × Option Ab.Rows)} (i : Nat) (rows : Ab.Rows), (dtO r xs)[i]? = some rows → hg ((b0, v1) :: (b0, v2) :: dtH (y1 + 1) r xs h) (y1 + 1 + i) = some (shR (y1 + 1) rows) := fun i rows hi => by
      have := dtO_lt hi
      exact hg_skip (by omega) (hg_skip (by omega) (dtH_in hi))
    have hx1 : ∀ {v1 v2 : Option Ab.Rows} {h : List (Nat × Option Ab.Rows)} (i : Nat) (rows : Ab.Rows), (dtO r xs)[i]? = some rows → hg (dtH (b0 + 1) r xs ((b0, v1) :: (b0, v2) :: dtH (y1 + 1) r xs h)) (y1 + 1 + i) = some (shR (y1 + 1) rows) := fun i rows hi => by
      have := dtO_lt hi
      exact dtH_out (by omega) (hx0 i rows hi)
    repeat (first | refine wC_dregE ?_ | refine wG_upd (o_st_agg rfl hg_here rfl rfl rfl rfl rfl) ?_ | refine wG_pure (o_ldt_pt rfl hg_here rfl rfl rfl) ?_ | refine wG_call cI (ag_any (dr_dt r xs hx0) ag_nil) rfl ?_ | refine wG_call cQ (ag_any rfl (ag_sl rfl (hg_skip (by omega) (hg_skip (by omega) (dtH_out (by omega) hg_here))) rfl iRow_plain ag_nil)) rfl ?_ | refine wE_v (o_ldt_pt rfl hg_here rfl rfl rfl) rfl ?_ | refine wE_v (o_ldt_pt rfl (hg_skip (by omega) (hg_skip (by omega) (dtH_out (by omega) (hg_skip (by omega) (dtH_out (by omega) rfl))))) rfl rfl rfl) rfl ?_ | refine wE_callG (v' := dtV (b0 + 1) r xs) cT rfl rfl rfl rfl ?_ | refine wE_call cE (ag_any (dr_dt r xs hx1) (ag_any (dr_dt r xs (fun i rows hi => dtH_in hi)) ag_nil)) rfl rfl ?_ | refine wE_nil (hok5 (djB_mkh (by omega))) ?_ | (first
    | refine wC_a rfl ?_
    | refine q_s rfl ?_
    | refine q_b rfl ?_
    | refine wG_nil ?_
    | refine wG_g rfl ?_
    | refine wG_pure (o_len_vwm rfl) ?_
    | refine wG_pure (o_not_d rfl) ?_
    | refine wG_p rfl (by first | exact rfl | omega) ?_
    | refine wG_pure (o_str2 rfl rfl rfl) ?_
    | refine wG_pure (e_istr rfl rfl (by omega)) ?_
    | refine wG_pure (e_istr0 rfl rfl (by omega)) ?_
    | refine wG_pure (o_not rfl) ?_
    | refine wG_pure (e_ia_vw0 rfl rfl (by omega) rfl) ?_
    | refine wG_pure (e_ia_vwp rfl rfl (by omega) rfl) ?_
    | refine wG_pure (e_ia_vwm rfl rfl (by omega) (by omega) rfl) ?_
    | refine wG_pure (e_ia_vwi rfl rfl (by omega) rfl) ?_
    | refine wG_pure (e_ia_vwn rfl rfl (by omega) (by omega) rfl) ?_
    | refine wG_n rfl rfl ?_
    | refine wG_u rfl rfl ?_
    | refine wG_new (o_mks rfl rfl (by omega) (by decide)) ?_) | (first
    | refine wE_nil (by kernel_rfl) ?_
    | refine wE_gy rfl ?_
    | refine wE_gn rfl rfl rfl ?_
    | refine wE_gu rfl rfl ?_
    | refine wE_gnn rfl rfl rfl ?_
    | refine wE_v (o_len_vwm rfl) rfl ?_
    | refine wE_v (o_not_d rfl) rfl ?_
    | refine wE_p rfl (by first | exact rfl | omega) rfl ?_
    | refine wE_v (o_str2 rfl rfl rfl) rfl ?_
    | refine wE_v (e_istr rfl rfl (by omega)) rfl ?_
    | refine wE_v (e_istr0 rfl rfl (by omega)) rfl ?_
    | refine wE_v (o_not rfl) rfl ?_
    | refine wE_v (e_ia_vw0 rfl rfl (by omega) rfl) rfl ?_
    | refine wE_v (e_ia_vwp rfl rfl (by omega) rfl) rfl ?_
    | refine wE_v (e_ia_vwm rfl rfl (by omega) (by omega) rfl) rfl ?_
    | refine wE_v (e_ia_vwi rfl rfl (by omega) rfl) rfl ?_
    | refine wE_v (e_ia_vwn rfl rfl (by omega) (by omega) rfl) rfl ?_
    | refine wE_n rfl rfl rfl ?_
    | refine wE_u rfl rfl rfl ?_
    | refine wE_new (o_mks rfl rfl (by omega) (by decide)) rfl ?_))
    refine wG_pure (o_ldt_pt rfl (dtH_out (by omega) hg_here) rfl rfl rfl) ?_
    repeat (first
    | refine wC_a rfl ?_
    | refine q_s rfl ?_
    | refine q_b rfl ?_
    | refine wG_nil ?_
    | refine wG_g rfl ?_
    | refine wG_pure (o_len_vwm rfl) ?_
    | refine wG_pure (o_not_d rfl) ?_
    | refine wG_p rfl (by first | exact rfl | omega) ?_
    | refine wG_pure (o_str2 rfl rfl rfl) ?_
    | refine wG_pure (e_istr rfl rfl (by omega)) ?_
    | refine wG_pure (e_istr0 rfl rfl (by omega)) ?_
    | refine wG_pure (o_not rfl) ?_
    | refine wG_pure (e_ia_vw0 rfl rfl (by omega) rfl) ?_
    | refine wG_pure (e_ia_vwp rfl rfl (by omega) rfl) ?_
    | refine wG_pure (e_ia_vwm rfl rfl (by omega) (by omega) rfl) ?_
    | refine wG_pure (e_ia_vwi rfl rfl (by omega) rfl) ?_
    | refine wG_pure (e_ia_vwn rfl rfl (by omega) (by omega) rfl) ?_
    | refine wG_n rfl rfl ?_
    | refine wG_u rfl rfl ?_
    | refine wG_new (o_mks rfl rfl (by omega) (by decide)) ?_)
    refine wG_callS (sM (m := y1 + 1) (h' := [(y1, some (([] : List Int).map iRow)), (0, some [dtR a b c r xs])]) (fun i rows hi => hx1 i rows hi) (by omega) (wfH_cons (by omega) (ltrI _ _) (wfH_cons (by omega) (dtR_ltr1 _) wfH_nil)) (fun q rows hq => ?_)) rfl ?_
    · by_cases e2 : q = y1
      · subst e2
        have h0 : hg [(q, some (([] : List Int).map iRow)), (0, some [dtR a b c r xs])] q = some (([] : List Int).map iRow) := hg_here
        rw [h0] at hq
        exact ⟨dtH_out (by omega) (hg_skip (by omega) (hg_skip (by omega) (dtH_out (by omega) (hg_here.trans hq)))), .inl (by omega)⟩
      by_cases e3 : q = 0
      · subst e3
        have h0 : hg [(y1, some (([] : List Int).map iRow)), (0, some [dtR a b c r xs])] 0 = some [dtR a b c r xs] := hg_skip e2 hg_here
        rw [h0] at hq
        exact ⟨dtH_out (by omega) (hg_skip (by omega) (hg_skip (by omega) (dtH_out (by omega) (hg_skip (by omega) (dtH_out (by omega) (Eq.trans rfl hq)))))), .inl (by omega)⟩
      · simp [Ab.hg, upd, e2, e3] at hq
    obtain ⟨c0, hc0, hbc⟩ : ∃ c0, b0 + 1 + (dtO r xs).length + 2 = c0 ∧ b0 < c0 := ⟨_, rfl, by omega⟩
    rw [hc0]
    have ne00 : 0 ≠ y1 := by omega
    repeat (first
    | refine wC_a rfl ?_
    | refine q_s rfl ?_
    | refine q_b rfl ?_
    | refine wG_nil ?_
    | refine wG_g rfl ?_
    | refine wG_pure (o_len_vwm rfl) ?_
    | refine wG_pure (o_not_d rfl) ?_
    | refine wG_p rfl (by first | exact rfl | omega) ?_
    | refine wG_pure (o_str2 rfl rfl rfl) ?_
    | refine wG_pure (e_istr rfl rfl (by omega)) ?_
    | refine wG_pure (e_istr0 rfl rfl (by omega)) ?_
    | refine wG_pure (o_not rfl) ?_
    | refine wG_pure (e_ia_vw0 rfl rfl (by omega) rfl) ?_
    | refine wG_pure (e_ia_vwp rfl rfl (by omega) rfl) ?_
    | refine wG_pure (e_ia_vwm rfl rfl (by omega) (by omega) rfl) ?_
    | refine wG_pure (e_ia_vwi rfl rfl (by omega) rfl) ?_
    | refine wG_pure (e_ia_vwn rfl rfl (by omega) (by omega) rfl) ?_
    | refine wG_n rfl rfl ?_
    | refine wG_u rfl rfl ?_
    | refine wG_new (o_mks rfl rfl (by omega) (by decide)) ?_)
    simp only [dK]
    repeat (first | refine wG_call cQ (ag_any rfl (ag_sl rfl hg_here rfl iRow_plain ag_nil)) rfl ?_ | refine wG_call cH rfl rfl ?_ | refine wG_call cM rfl rfl ?_ | (first
    | refine wC_a rfl ?_
    | refine q_s rfl ?_
    | refine q_b rfl ?_
    | refine wG_nil ?_
    | refine wG_g rfl ?_
    | refine wG_pure (o_len_vwm rfl) ?_
    | refine wG_pure (o_not_d rfl) ?_
    | refine wG_p rfl (by first | exact rfl | omega) ?_
    | refine wG_pure (o_str2 rfl rfl rfl) ?_
    | refine wG_pure (e_istr rfl rfl (by omega)) ?_
    | refine wG_pure (e_istr0 rfl rfl (by omega)) ?_
    | refine wG_pure (o_not rfl) ?_
    | refine wG_pure (e_ia_vw0 rfl rfl (by omega) rfl) ?_
    | refine wG_pure (e_ia_vwp rfl rfl (by omega) rfl) ?_
    | refine wG_pure (e_ia_vwm rfl rfl (by omega) (by omega) rfl) ?_
    | refine wG_pure (e_ia_vwi rfl rfl (by omega) rfl) ?_
    | refine wG_pure (e_ia_vwn rfl rfl (by omega) (by omega) rfl) ?_
    | refine wG_n rfl rfl ?_
    | refine wG_u rfl rfl ?_
    | refine wG_new (o_mks rfl rfl (by omega) (by decide)) ?_))
    refine wG_pure (o_ldt_pt rfl (hg_skip ne00 hg_here) rfl rfl rfl) ?_
    refine wG_callG (v' := dtV c0 r xs) cT rfl rfl rfl ?_
    change wpG _ _ _ ⟨_, dtH c0 r xs _, _⟩ _
    repeat (first | refine wG_call cI (ag_any (dr_dt r xs (fun i rows hi => dtH_in hi)) ag_nil) rfl ?_ | refine wG_call cQ (ag_any rfl (ag_sl rfl (dtH_out (by omega) hg_here) rfl iRow_plain ag_nil)) rfl ?_ | refine wG_call cH rfl rfl ?_ | (first
    | refine wC_a rfl ?_
    | refine q_s rfl ?_
    | refine q_b rfl ?_
    | refine wG_nil ?_
    | refine wG_g rfl ?_
    | refine wG_pure (o_len_vwm rfl) ?_
    | refine wG_pure (o_not_d rfl) ?_
    | refine wG_p rfl (by first | exact rfl | omega) ?_
    | refine wG_pure (o_str2 rfl rfl rfl) ?_
    | refine wG_pure (e_istr rfl rfl (by omega)) ?_
    | refine wG_pure (e_istr0 rfl rfl (by omega)) ?_
    | refine wG_pure (o_not rfl) ?_
    | refine wG_pure (e_ia_vw0 rfl rfl (by omega) rfl) ?_
    | refine wG_pure (e_ia_vwp rfl rfl (by omega) rfl) ?_
    | refine wG_pure (e_ia_vwm rfl rfl (by omega) (by omega) rfl) ?_
    | refine wG_pure (e_ia_vwi rfl rfl (by omega) rfl) ?_
    | refine wG_pure (e_ia_vwn rfl rfl (by omega) (by omega) rfl) ?_
    | refine wG_n rfl rfl ?_
    | refine wG_u rfl rfl ?_
    | refine wG_new (o_mks rfl rfl (by omega) (by decide)) ?_))
    exact ret_boolE (.inr rfl) ⟨_, retV_mv rfl, rfl⟩
end Go.Proofs.Ytkeobnaehgcloaa.Dst
