/- Reduced weights: the specification's side. -/
import Derived.Test.YtkkcplcgafndgaaMkdA
import Derived.Test.YtkkcplcgafndgaaAb1
namespace Go.Proofs.Ytkkcplcgafndgaa.Dst
open Go Go.Proofs.Ytkkcplcgafndgaa.Ab Go.Proofs.Ytkkcplcgafndgaa.Il
attribute [local irreducible] wpO wpC wpDr wpQ wpG wpE stepA seqQ blkQ Ret ev
set_option maxRecDepth 10000
set_option maxHeartbeats 8000000
set_option linter.unusedSimpArgs false
set_option linter.unusedVariables false
def ac28 : AC := (.seq (.reg [⟨(some 4), none, (.alloc [(.int .i64 0), .nilS])⟩, ⟨(some 5), none, (.mv (.c (.bool false)))⟩]) (.seq (.reg [⟨(some 13), none, (.build [(.int .i64 0), .nilS] [])⟩, ⟨(some 6), none, (.alloc [(.int .i64 0), .nilS])⟩, ⟨none, none, (.st 2 (.t 6) (.t 13))⟩]) (.seq (.reg [⟨(some 14), none, (.mv (.t 1))⟩, ⟨(some 15), none, (.len (.t 14))⟩, ⟨(some 7), none, (.mv (.c (.int .i64 0)))⟩, ⟨(some 8), none, (.mv (.t 15))⟩]) (.seq (.blk 0 (.loop (.seq (.seq (.reg [⟨(some 16), none, (.mv (.t 7))⟩, ⟨(some 17), none, (.mv (.t 8))⟩, ⟨(some 18), none, (.bin .lss (.t 16) (.t 17))⟩, ⟨(some 19), none, (.mv (.t 18))⟩, ⟨(some 20), (some (19, true)), (.mv (.t 1))⟩, ⟨(some 21), (some (19, true)), (.mv (.t 7))⟩, ⟨(some 22), (some (19, true)), (.ia 1 (.t 20) (.t 21))⟩, ⟨(some 23), (some (19, true)), (.ld false 1 (.t 22))⟩, ⟨(some 24), (some (19, true)), (.bin .eql (.t 23) (.c (.int .i64 0)))⟩, ⟨(some 25), none, (.pick (.t 19) (.t 24) (.c (.bool false)))⟩]) (.cond (.t 25) .skip (.exit 0))) (.blk 1 (.reg [⟨(some 26), none, (.mv (.t 7))⟩, ⟨(some 27), none, (.bin .add (.t 26) (.c (.int .i64 1)))⟩, ⟨(some 7), none, (.mv (.t 27))⟩]))))) (.seq (.blk 2 (.loop (.seq (.seq (.reg [⟨(some 28), none, (.mv (.t 8))⟩, ⟨(some 29), none, (.mv (.t 7))⟩, ⟨(some 30), none, (.bin .gtr (.t 28) (.t 29))⟩, ⟨(some 31), none, (.mv (.t 30))⟩, ⟨(some 32), (some (31, true)), (.mv (.t 1))⟩, ⟨(some 33), (some (31, true)), (.mv (.t 8))⟩, ⟨(some 34), (some (31, true)), (.bin .sub (.t 33) (.c (.int .i64 1)))⟩, ⟨(some 35), (some (31, true)), (.ia 1 (.t 32) (.t 34))⟩, ⟨(some 36), (some (31, true)), (.ld false 1 (.t 35))⟩, ⟨(some 37), (some (31, true)), (.bin .eql (.t 36) (.c (.int .i64 0)))⟩, ⟨(some 38), none, (.pick (.t 31) (.t 37) (.c (.bool false)))⟩]) (.cond (.t 38) .skip (.exit 2))) (.blk 3 (.reg [⟨(some 39), none, (.mv (.t 8))⟩, ⟨(some 40), none, (.bin .sub (.t 39) (.c (.int .i64 1)))⟩, ⟨(some 8), none, (.mv (.t 40))⟩]))))) (.seq (.reg [⟨(some 9), none, (.mv (.c (.int .i64 0)))⟩]) (.seq (.seq (.reg [⟨(some 41), none, (.mv (.t 7))⟩, ⟨(some 10), none, (.mv (.t 41))⟩]) (.blk 4 (.loop (.seq (.seq (.reg [⟨(some 42), none, (.mv (.t 10))⟩, ⟨(some 43), none, (.mv (.t 8))⟩, ⟨(some 44), none, (.bin .lss (.t 42) (.t 43))⟩]) (.cond (.t 44) .skip (.exit 4))) (.seq (.blk 5 (.reg [⟨(some 47), none, (.mv (.t 9))⟩, ⟨(some 48), none, (.mv (.t 1))⟩, ⟨(some 49), none, (.mv (.t 10))⟩, ⟨(some 50), none, (.ia 1 (.t 48) (.t 49))⟩, ⟨(some 51), none, (.ld false 1 (.t 50))⟩, ⟨(some 52), none, (.call 52 [(.t 47), (.t 51)])⟩, ⟨(some 9), none, (.mv (.t 52))⟩])) (.reg [⟨(some 45), none, (.mv (.t 10))⟩, ⟨(some 46), none, (.bin .add (.t 45) (.c (.int .i64 1)))⟩, ⟨(some 10), none, (.mv (.t 46))⟩])))))) (.seq (.seq (.reg [⟨(some 53), none, (.mv (.t 7))⟩, ⟨(some 54), none, (.mv (.t 8))⟩, ⟨(some 55), none, (.bin .eql (.t 53) (.t 54))⟩]) (.cond (.t 55) (.seq (.reg [⟨(some 56), none, (.ld true 2 (.t 6))⟩, ⟨none, none, (.st 2 (.t 4) (.t 56))⟩, ⟨(some 5), none, (.mv (.c (.bool false)))⟩]) .ret) .skip)) (.seq (.reg [⟨(some 57), none, (.mv (.t 0))⟩, ⟨(some 58), none, (.mv (.t 7))⟩, ⟨(some 59), none, (.bin .add (.t 57) (.t 58))⟩, ⟨(some 60), none, (.bsl 1 [(.int .i64 0)] 0 [])⟩, ⟨(some 61), none, (.build [(.int .i64 0), .nilS] [(0, (1, (.t 59))), (1, (1, (.t 60)))])⟩, ⟨(some 11), none, (.alloc [(.int .i64 0), .nilS])⟩, ⟨none, none, (.st 2 (.t 11) (.t 61))⟩]) (.seq (.seq (.reg [⟨(some 62), none, (.mv (.t 7))⟩, ⟨(some 12), none, (.mv (.t 62))⟩]) (.blk 6 (.loop (.seq (.seq (.reg [⟨(some 63), none, (.mv (.t 12))⟩, ⟨(some 64), none, (.mv (.t 8))⟩, ⟨(some 65), none, (.bin .lss (.t 63) (.t 64))⟩]) (.cond (.t 65) .skip (.exit 6))) (.seq (.blk 7 (.dreg [⟨(some 68), none, (.fa 1 (.t 11))⟩, ⟨(some 69), none, (.ld false 1 (.t 68))⟩, ⟨(some 70), none, (.mv (.t 1))⟩, ⟨(some 71), none, (.mv (.t 12))⟩, ⟨(some 72), none, (.ia 1 (.t 70) (.t 71))⟩, ⟨(some 73), none, (.ld false 1 (.t 72))⟩, ⟨(some 74), none, (.mv (.t 9))⟩, ⟨(some 75), none, (.bin .quo (.t 73) (.t 74))⟩, ⟨(some 76), none, (.bsl 1 [(.int .i64 0)] 1 [(0, (.t 75))])⟩, ⟨(some 77), none, (.app 1 8 [(.int .i64 0)] (.t 69) (.t 76))⟩, ⟨(some 78), none, (.fa 1 (.t 11))⟩, ⟨none, none, (.st 1 (.t 78) (.t 77))⟩] [[], [0], [], [], [2, 3], [2, 3, 4], [], [2, 3, 4, 5, 6], [2, 3, 4, 5, 6, 7], [0, 1, 2, 3, 4, 5, 6, 7, 8], [0, 1, 2, 3, 4, 5, 6, 7, 8, 9], [0, 1, 2, 3, 4, 5, 6, 7, 8, 9, 10]])) (.reg [⟨(some 66), none, (.mv (.t 12))⟩, ⟨(some 67), none, (.bin .add (.t 66) (.c (.int .i64 1)))⟩, ⟨(some 12), none, (.mv (.t 67))⟩])))))) (.seq (.seq (.reg [⟨(some 79), none, (.ld true 2 (.t 11))⟩, ⟨(some 80), none, (.call 53 [(.t 79)])⟩, ⟨(some 81), none, (.un .not (.t 80))⟩]) (.cond (.t 81) (.seq (.reg [⟨(some 82), none, (.ld true 2 (.t 6))⟩, ⟨none, none, (.st 2 (.t 4) (.t 82))⟩, ⟨(some 5), none, (.mv (.c (.bool false)))⟩]) .ret) .skip)) (.seq (.reg [⟨(some 83), none, (.ld true 2 (.t 11))⟩, ⟨none, none, (.st 2 (.t 4) (.t 83))⟩, ⟨(some 5), none, (.mv (.c (.bool true)))⟩]) .ret))))))))))))
def ro28 : List AOp := [(.ld true 2 (.t 4)), (.mv (.t 5))]
theorem fun28 : Fun Try.prog 28 84 ac28 ro28 := ⟨Try.f28, _, Try.func28, by kernel_rfl, rfl, rfl, by kernel_rfl, by kernel_rfl, by decide⟩

theorem con28_all (nn : Bool) (first : Int) (ws : List Int) (hlen : ws.length ≤ 100000) {B : Int} (hb : bnd ws B) (hB : B ≤ 9000000000000000000) (hf1 : -1000000 ≤ first) (hf2 : first ≤ 1000000) (v : AV) (rs : List Nat) (objs : List Ab.Rows) (hv : v.nvf = true) (hp : PlainObjs objs)
    (hend : (mkOK first ws → v = .tup [.agg [.int .i64 (mkO first ws).f, .sl 0 1 0 (mkO first ws).ws.length], .bool true] ∧ rs = [2] ∧ objs = [(mkO first ws).ws.map iRow]) ∧ (¬ mkOK first ws → v = .tup [.agg [.int .i64 0, .nilS], .bool false] ∧ rs = [] ∧ objs = [])) :
    Con Try.prog 28 true [.int .i64 first, .vw nn (ws.map iRow)] v objs := by
  classical
  suffices key : Con Try.prog 28 v.nvf [.int .i64 first, .vw nn (ws.map iRow)] v objs by rwa [hv] at key
  refine con_of_wp mixed fun28 (by simp) rs hp ?_
  unfold ac28 ro28
  simp only [zipT]
  have T := tr ws
  have hmo : mkO first ws = ⟨first + trF ws, ow ws (gd ws ws.length : Int) (trF ws) (trT ws - trF ws)⟩ := rfl
  have hok : mkOK first ws ↔ gd ws ws.length ≠ 0 ∧ GoodD (mkO first ws) := Iff.rfl
  generalize trF ws = fr at *
  generalize trT ws = to at *
  have T1 := T.le
  have T2 := T.lt
  have hg0 := T.none
  by_cases he : fr < to
  · obtain ⟨_, hnf, hnt⟩ : fr < to ∧ ws.getD fr default ≠ 0 ∧ ws.getD (to - 1) default ≠ 0 := by
      rcases T.ends with h | ⟨h1, h2⟩
      · exact h
      · omega
    have hgn : gd ws ws.length ≠ 0 := fun h => by have := hg0.1 h; omega
    repeat (first
    | refine wC_a rfl ?_
    | refine q_s rfl ?_
    | refine q_b rfl ?_
    | refine wG_nil ?_
    | refine wG_g rfl ?_
    | refine wG_pure (o_len_vwm rfl) ?_
    | refine wG_pure (o_not_d rfl) ?_
    | refine wG_p rfl (by first | exact rfl | omega) ?_
    | refine wG_pure (o_not rfl) ?_
    | refine wG_pure (e_ia_vw0 rfl rfl (by omega) rfl) ?_
    | refine wG_pure (e_ia_vwp rfl rfl (by omega) rfl) ?_
    | refine wG_pure (e_ia_vwm rfl rfl (by omega) (by omega) rfl) ?_
    | refine wG_pure (e_ia_vwi rfl rfl (by omega) rfl) ?_
    | refine wG_pure (e_ia_vwn rfl rfl (by omega) (by omega) rfl) ?_
    | refine wG_n rfl rfl ?_
    | refine wG_u rfl rfl ?_
    | refine wG_new (o_mks rfl rfl (by omega) (by decide)) ?_)
    refine wC_loop Nat (fun i => ⟨[(0, .int .i64 first), (1, .vw nn (ws.map iRow)), (4, .pt 0 0 0), (6, .pt 1 0 0), (7, .int .i64 (i : Int)), (8, .int .i64 (ws.length : Int))], [(1, some [[.int .i64 0, .nilS]]), (0, some [[.int .i64 0, .nilS]])], 2⟩) (fun i => i ≤ fr) (fun i => fr - i) 0 (Nat.zero_le _) ?_ (fun _ _ => Nat.zero_le _) ?_
    · simp [LeP, leT, leH, lk, AV.ltr, ltrL, Ab.hg, upd, -List.getD_eq_getElem?_getD, -Int.default_eq_zero]
      try rfl
    intro i hi
    by_cases hc : i < fr
    · have hz : ws.getD i default = 0 := T.lo i hc
      repeat' (first | (first
    | refine wC_a rfl ?_
    | refine q_s rfl ?_
    | refine q_b rfl ?_
    | refine wG_nil ?_
    | refine wG_g rfl ?_
    | refine wG_pure (o_len_vwm rfl) ?_
    | refine wG_pure (o_not_d rfl) ?_
    | refine wG_p rfl (by first | exact rfl | omega) ?_
    | refine wG_pure (o_not rfl) ?_
    | refine wG_pure (e_ia_vw0 rfl rfl (by omega) rfl) ?_
    | refine wG_pure (e_ia_vwp rfl rfl (by omega) rfl) ?_
    | refine wG_pure (e_ia_vwm rfl rfl (by omega) (by omega) rfl) ?_
    | refine wG_pure (e_ia_vwi rfl rfl (by omega) rfl) ?_
    | refine wG_pure (e_ia_vwn rfl rfl (by omega) (by omega) rfl) ?_
    | refine wG_n rfl rfl ?_
    | refine wG_u rfl rfl ?_
    | refine wG_new (o_mks rfl rfl (by omega) (by decide)) ?_) | (refine wG_gd rfl (fun hgt => ?_) (fun hgf => ?_) <;> (first | simp only [eq_true hgt, decide_true] | simp only [eq_false hgf, decide_false])) | refine wC_cond_d rfl (fun hg => ?_) (fun hg => ?_))
      any_goals (exfalso; omega)
      exact ⟨i + 1, by omega, by omega, by simp [LeP, leT, leH, lk, AV.ltr, ltrL, Ab.hg, upd, -List.getD_eq_getElem?_getD, -Int.default_eq_zero]⟩
    have hif : i = fr := by omega
    subst hif
    repeat' (first | (first
    | refine wC_a rfl ?_
    | refine q_s rfl ?_
    | refine q_b rfl ?_
    | refine wG_nil ?_
    | refine wG_g rfl ?_
    | refine wG_pure (o_len_vwm rfl) ?_
    | refine wG_pure (o_not_d rfl) ?_
    | refine wG_p rfl (by first | exact rfl | omega) ?_
    | refine wG_pure (o_not rfl) ?_
    | refine wG_pure (e_ia_vw0 rfl rfl (by omega) rfl) ?_
    | refine wG_pure (e_ia_vwp rfl rfl (by omega) rfl) ?_
    | refine wG_pure (e_ia_vwm rfl rfl (by omega) (by omega) rfl) ?_
    | refine wG_pure (e_ia_vwi rfl rfl (by omega) rfl) ?_
    | refine wG_pure (e_ia_vwn rfl rfl (by omega) (by omega) rfl) ?_
    | refine wG_n rfl rfl ?_
    | refine wG_u rfl rfl ?_
    | refine wG_new (o_mks rfl rfl (by omega) (by decide)) ?_) | (refine wG_gd rfl (fun hgt => ?_) (fun hgf => ?_) <;> (first | simp only [eq_true hgt, decide_true] | simp only [eq_false hgf, decide_false])) | refine wC_cond_d rfl (fun hg => ?_) (fun hg => ?_))
    any_goals (exfalso; omega)
    refine wC_loop Nat (fun t => ⟨[(0, .int .i64 first), (1, .vw nn (ws.map iRow)), (4, .pt 0 0 0), (6, .pt 1 0 0), (7, .int .i64 (i : Int)), (8, .int .i64 (t : Int))], [(1, some [[.int .i64 0, .nilS]]), (0, some [[.int .i64 0, .nilS]])], 2⟩) (fun t => to ≤ t ∧ t ≤ ws.length) (fun t => t) ws.length ⟨T2, Nat.le_refl _⟩ ?_ (fun _ _ => Nat.zero_le _) ?_
    · simp [LeP, leT, leH, lk, AV.ltr, ltrL, Ab.hg, upd, -List.getD_eq_getElem?_getD, -Int.default_eq_zero]
    rintro t ⟨ht1, ht2⟩
    by_cases hd : to < t
    · have hz : ws.getD (t - 1) default = 0 := T.hi (t - 1) (by omega) (by omega)
      repeat' (first | (first
    | refine wC_a rfl ?_
    | refine q_s rfl ?_
    | refine q_b rfl ?_
    | refine wG_nil ?_
    | refine wG_g rfl ?_
    | refine wG_pure (o_len_vwm rfl) ?_
    | refine wG_pure (o_not_d rfl) ?_
    | refine wG_p rfl (by first | exact rfl | omega) ?_
    | refine wG_pure (o_not rfl) ?_
    | refine wG_pure (e_ia_vw0 rfl rfl (by omega) rfl) ?_
    | refine wG_pure (e_ia_vwp rfl rfl (by omega) rfl) ?_
    | refine wG_pure (e_ia_vwm rfl rfl (by omega) (by omega) rfl) ?_
    | refine wG_pure (e_ia_vwi rfl rfl (by omega) rfl) ?_
    | refine wG_pure (e_ia_vwn rfl rfl (by omega) (by omega) rfl) ?_
    | refine wG_n rfl rfl ?_
    | refine wG_u rfl rfl ?_
    | refine wG_new (o_mks rfl rfl (by omega) (by decide)) ?_) | (refine wG_gd rfl (fun hgt => ?_) (fun hgf => ?_) <;> (first | simp only [eq_true hgt, decide_true] | simp only [eq_false hgf, decide_false])) | refine wC_cond_d rfl (fun hg => ?_) (fun hg => ?_))
      any_goals (exfalso; omega)
      exact ⟨t - 1, by omega, by omega, by simp [LeP, leT, leH, lk, AV.ltr, ltrL, Ab.hg, upd, -List.getD_eq_getElem?_getD, -Int.default_eq_zero]; omega⟩
    have htt : t = to := by omega
    subst htt
    repeat' (first | (first
    | refine wC_a rfl ?_
    | refine q_s rfl ?_
    | refine q_b rfl ?_
    | refine wG_nil ?_
    | refine wG_g rfl ?_
    | refine wG_pure (o_len_vwm rfl) ?_
    | refine wG_pure (o_not_d rfl) ?_
    | refine wG_p rfl (by first | exact rfl | omega) ?_
    | refine wG_pure (o_not rfl) ?_
    | refine wG_pure (e_ia_vw0 rfl rfl (by omega) rfl) ?_
    | refine wG_pure (e_ia_vwp rfl rfl (by omega) rfl) ?_
    | refine wG_pure (e_ia_vwm rfl rfl (by omega) (by omega) rfl) ?_
    | refine wG_pure (e_ia_vwi rfl rfl (by omega) rfl) ?_
    | refine wG_pure (e_ia_vwn rfl rfl (by omega) (by omega) rfl) ?_
    | refine wG_n rfl rfl ?_
    | refine wG_u rfl rfl ?_
    | refine wG_new (o_mks rfl rfl (by omega) (by decide)) ?_) | (refine wG_gd rfl (fun hgt => ?_) (fun hgf => ?_) <;> (first | simp only [eq_true hgt, decide_true] | simp only [eq_false hgf, decide_false])) | refine wC_cond_d rfl (fun hg => ?_) (fun hg => ?_))
    any_goals (exfalso; omega)
    refine wC_loop Nat (fun j => ⟨[(0, .int .i64 first), (1, .vw nn (ws.map iRow)), (4, .pt 0 0 0), (6, .pt 1 0 0), (7, .int .i64 (i : Int)), (8, .int .i64 (t : Int)), (9, .int .i64 (gd ws j : Int)), (10, .int .i64 (j : Int))], [(1, some [[.int .i64 0, .nilS]]), (0, some [[.int .i64 0, .nilS]])], 2⟩) (fun j => i ≤ j ∧ j ≤ t) (fun j => t - j) i ⟨Nat.le_refl _, T1⟩ ?_ (fun _ _ => Nat.zero_le _) ?_
    · have := T.gd0
      simp [LeP, leT, leH, lk, AV.ltr, ltrL, Ab.hg, upd, -List.getD_eq_getElem?_getD, -Int.default_eq_zero]
      omega
    rintro j ⟨hj1, hj2⟩
    repeat (first
    | refine wC_a rfl ?_
    | refine q_s rfl ?_
    | refine q_b rfl ?_
    | refine wG_nil ?_
    | refine wG_g rfl ?_
    | refine wG_pure (o_len_vwm rfl) ?_
    | refine wG_pure (o_not_d rfl) ?_
    | refine wG_p rfl (by first | exact rfl | omega) ?_
    | refine wG_pure (o_not rfl) ?_
    | refine wG_pure (e_ia_vw0 rfl rfl (by omega) rfl) ?_
    | refine wG_pure (e_ia_vwp rfl rfl (by omega) rfl) ?_
    | refine wG_pure (e_ia_vwm rfl rfl (by omega) (by omega) rfl) ?_
    | refine wG_pure (e_ia_vwi rfl rfl (by omega) rfl) ?_
    | refine wG_pure (e_ia_vwn rfl rfl (by omega) (by omega) rfl) ?_
    | refine wG_n rfl rfl ?_
    | refine wG_u rfl rfl ?_
    | refine wG_new (o_mks rfl rfl (by omega) (by decide)) ?_)
    refine wC_cond_d rfl (fun h5 => ?_) (fun h5 => ?_)
    · have hj3 : j < t := by omega
      have hw := (hb j (by omega)).1
      repeat (first | refine wG_call (con52 (Int.natCast_nonneg _) hw) rfl rfl ?_ | (first
    | refine wC_a rfl ?_
    | refine q_s rfl ?_
    | refine q_b rfl ?_
    | refine wG_nil ?_
    | refine wG_g rfl ?_
    | refine wG_pure (o_len_vwm rfl) ?_
    | refine wG_pure (o_not_d rfl) ?_
    | refine wG_p rfl (by first | exact rfl | omega) ?_
    | refine wG_pure (o_not rfl) ?_
    | refine wG_pure (e_ia_vw0 rfl rfl (by omega) rfl) ?_
    | refine wG_pure (e_ia_vwp rfl rfl (by omega) rfl) ?_
    | refine wG_pure (e_ia_vwm rfl rfl (by omega) (by omega) rfl) ?_
    | refine wG_pure (e_ia_vwi rfl rfl (by omega) rfl) ?_
    | refine wG_pure (e_ia_vwn rfl rfl (by omega) (by omega) rfl) ?_
    | refine wG_n rfl rfl ?_
    | refine wG_u rfl rfl ?_
    | refine wG_new (o_mks rfl rfl (by omega) (by decide)) ?_))
      exact ⟨j + 1, by omega, by omega, by simp [LeP, leT, leH, lk, AV.ltr, ltrL, Ab.hg, upd, -List.getD_eq_getElem?_getD, -Int.default_eq_zero]; rfl⟩
    have hjt : j = t := by omega
    subst hjt
    rw [T.gdE]
    generalize hgv : gd ws ws.length = gv at *
    have hgv1 : (1 : Int) ≤ (gv : Int) := by omega
    repeat' (first | (first
    | refine wC_a rfl ?_
    | refine q_s rfl ?_
    | refine q_b rfl ?_
    | refine wG_nil ?_
    | refine wG_g rfl ?_
    | refine wG_pure (o_len_vwm rfl) ?_
    | refine wG_pure (o_not_d rfl) ?_
    | refine wG_p rfl (by first | exact rfl | omega) ?_
    | refine wG_pure (o_not rfl) ?_
    | refine wG_pure (e_ia_vw0 rfl rfl (by omega) rfl) ?_
    | refine wG_pure (e_ia_vwp rfl rfl (by omega) rfl) ?_
    | refine wG_pure (e_ia_vwm rfl rfl (by omega) (by omega) rfl) ?_
    | refine wG_pure (e_ia_vwi rfl rfl (by omega) rfl) ?_
    | refine wG_pure (e_ia_vwn rfl rfl (by omega) (by omega) rfl) ?_
    | refine wG_n rfl rfl ?_
    | refine wG_u rfl rfl ?_
    | refine wG_new (o_mks rfl rfl (by omega) (by decide)) ?_) | (refine wG_gd rfl (fun hgt => ?_) (fun hgf => ?_) <;> (first | simp only [eq_true hgt, decide_true] | simp only [eq_false hgf, decide_false])) | refine wC_cond_d rfl (fun hg => ?_) (fun hg => ?_))
    any_goals (exfalso; omega)
    refine wC_loopR Nat (fun k => ⟨[(0, .int .i64 first), (1, .vw nn (ws.map iRow)), (4, .pt 0 0 0), (6, .pt 1 0 0), (8, .int .i64 (j : Int)), (9, .int .i64 (gv : Int)), (11, .pt 3 0 0), (12, .int .i64 ((i + k : Nat) : Int))], [(3, some [[.int .i64 (first + (i : Int)), .sl 2 1 0 (ow ws gv i k).length]]), (2, some ((ow ws gv i k).map iRow)), (1, some [[.int .i64 0, .nilS]]), (0, some [[.int .i64 0, .nilS]])], 4⟩) (fun k => k ≤ j - i) (fun k => j - i - k) 0 (Nat.zero_le _) ⟨[0, 1, 2, 3], ?_⟩ ?_
    · exact ⟨⟨⟨rfl, rfl⟩, ⟨rfl, rfl⟩, ⟨rfl, rfl⟩, ⟨rfl, rfl⟩, ⟨rfl, rfl⟩, ⟨rfl, rfl⟩, ⟨rfl, rfl⟩, ⟨rfl, rfl⟩, trivial⟩, ⟨⟨⟨_, rfl, rfl⟩, (by show 3 < 4; decide), by simp [AV.ltr]⟩, ⟨⟨_, rfl, rfl⟩, (by show 2 < 4; decide), ltrI _ _⟩, ⟨⟨_, rfl, rfl⟩, (by show 1 < 4; decide), by simp [AV.ltr]⟩, ⟨⟨_, rfl, rfl⟩, (by show 0 < 4; decide), by simp [AV.ltr]⟩, trivial⟩, rfl, by decide⟩
    intro k hk
    have hl := ow_len ws gv i k
    repeat (first
    | refine wC_a rfl ?_
    | refine q_s rfl ?_
    | refine q_b rfl ?_
    | refine wG_nil ?_
    | refine wG_g rfl ?_
    | refine wG_pure (o_len_vwm rfl) ?_
    | refine wG_pure (o_not_d rfl) ?_
    | refine wG_p rfl (by first | exact rfl | omega) ?_
    | refine wG_pure (o_not rfl) ?_
    | refine wG_pure (e_ia_vw0 rfl rfl (by omega) rfl) ?_
    | refine wG_pure (e_ia_vwp rfl rfl (by omega) rfl) ?_
    | refine wG_pure (e_ia_vwm rfl rfl (by omega) (by omega) rfl) ?_
    | refine wG_pure (e_ia_vwi rfl rfl (by omega) rfl) ?_
    | refine wG_pure (e_ia_vwn rfl rfl (by omega) (by omega) rfl) ?_
    | refine wG_n rfl rfl ?_
    | refine wG_u rfl rfl ?_
    | refine wG_new (o_mks rfl rfl (by omega) (by decide)) ?_)
    refine wC_cond_d rfl (fun h6 => ?_) (fun h6 => ?_)
    · have hw := hb (i + k) (by omega)
      have hq := quo_b hw.1 hw.2 hgv1
      repeat (first | refine wE_pure0 (o_quo rfl rfl (by omega) (by omega) (by omega)) rfl ?_ | refine wE_app rfl rfl (by simp) (rows_sl rfl rfl rfl) (by simp) (by simp; omega) (by decide) rfl ?_ | (first
    | refine wC_a rfl ?_
    | refine q_s rfl ?_
    | refine q_b rfl ?_
    | refine wG_nil ?_
    | refine wG_g rfl ?_
    | refine wG_pure (o_len_vwm rfl) ?_
    | refine wG_pure (o_not_d rfl) ?_
    | refine wG_p rfl (by first | exact rfl | omega) ?_
    | refine wG_pure (o_not rfl) ?_
    | refine wG_pure (e_ia_vw0 rfl rfl (by omega) rfl) ?_
    | refine wG_pure (e_ia_vwp rfl rfl (by omega) rfl) ?_
    | refine wG_pure (e_ia_vwm rfl rfl (by omega) (by omega) rfl) ?_
    | refine wG_pure (e_ia_vwi rfl rfl (by omega) rfl) ?_
    | refine wG_pure (e_ia_vwn rfl rfl (by omega) (by omega) rfl) ?_
    | refine wG_n rfl rfl ?_
    | refine wG_u rfl rfl ?_
    | refine wG_new (o_mks rfl rfl (by omega) (by decide)) ?_) | (first
    | refine wE_nil (by kernel_rfl) ?_
    | refine wE_gy rfl ?_
    | refine wE_gn rfl rfl rfl ?_
    | refine wE_gu rfl rfl ?_
    | refine wE_gnn rfl rfl rfl ?_
    | refine wE_v (o_len_vwm rfl) rfl ?_
    | refine wE_v (o_not_d rfl) rfl ?_
    | refine wE_p rfl (by first | exact rfl | omega) rfl ?_
    | refine wE_v (o_not rfl) rfl ?_
    | refine wE_v (e_ia_vw0 rfl rfl (by omega) rfl) rfl ?_
    | refine wE_v (e_ia_vwp rfl rfl (by omega) rfl) rfl ?_
    | refine wE_v (e_ia_vwm rfl rfl (by omega) (by omega) rfl) rfl ?_
    | refine wE_v (e_ia_vwi rfl rfl (by omega) rfl) rfl ?_
    | refine wE_v (e_ia_vwn rfl rfl (by omega) (by omega) rfl) rfl ?_
    | refine wE_n rfl rfl rfl ?_
    | refine wE_u rfl rfl rfl ?_
    | refine wE_new (o_mks rfl rfl (by omega) (by decide)) rfl ?_))
      refine ⟨k + 1, by omega, by omega, [0, 1, 5, 3], ?_⟩
      simp only [ow]
      refine ⟨⟨⟨rfl, rfl⟩, ⟨rfl, rfl⟩, ⟨rfl, rfl⟩, ⟨rfl, rfl⟩, ⟨rfl, rfl⟩, ⟨rfl, rfl⟩, ⟨rfl, rfl⟩, ⟨rfl, rfl⟩, trivial⟩, ⟨⟨⟨_, rfl, ?_⟩, (by show 3 < 4; decide), by simp [AV.ltr]⟩, ⟨⟨_, rfl, ?_⟩, (by show 2 < 4; decide), ltrI _ _⟩, ⟨⟨_, rfl, rfl⟩, (by show 1 < 4; decide), by simp [AV.ltr]⟩, ⟨⟨_, rfl, rfl⟩, (by show 0 < 4; decide), by simp [AV.ltr]⟩, trivial⟩, rfl, by decide⟩
      · rw [List.length_append]; rfl
      · rw [← rn_rows (rowsP _), List.map_append]; rfl
    · have hk2 : k = j - i := by omega
      subst hk2
      rw [hmo] at hok hend
      have c5 := con53 true ⟨first + (i : Int), ow ws gv i (j - i)⟩ (by rw [ow_len]; omega)
      unfold dRow at c5
      simp only at c5 hend
      by_cases hgo : GoodD ⟨first + (i : Int), ow ws gv i (j - i)⟩
      · rw [decide_eq_true hgo] at c5
        obtain ⟨rfl, rfl, rfl⟩ := hend.1 (hok.2 ⟨hgn, hgo⟩)
        repeat (first | refine wG_call c5 (ag_is rfl rfl rfl iRow_plain ag_nil) rfl ?_ | (first
    | refine wC_a rfl ?_
    | refine q_s rfl ?_
    | refine q_b rfl ?_
    | refine wG_nil ?_
    | refine wG_g rfl ?_
    | refine wG_pure (o_len_vwm rfl) ?_
    | refine wG_pure (o_not_d rfl) ?_
    | refine wG_p rfl (by first | exact rfl | omega) ?_
    | refine wG_pure (o_not rfl) ?_
    | refine wG_pure (e_ia_vw0 rfl rfl (by omega) rfl) ?_
    | refine wG_pure (e_ia_vwp rfl rfl (by omega) rfl) ?_
    | refine wG_pure (e_ia_vwm rfl rfl (by omega) (by omega) rfl) ?_
    | refine wG_pure (e_ia_vwi rfl rfl (by omega) rfl) ?_
    | refine wG_pure (e_ia_vwn rfl rfl (by omega) (by omega) rfl) ?_
    | refine wG_n rfl rfl ?_
    | refine wG_u rfl rfl ?_
    | refine wG_new (o_mks rfl rfl (by omega) (by decide)) ?_))
        exact ret_db (.inr rfl) rfl (retV_ldt rfl rfl rfl rfl rfl) (retV_mv rfl) rfl
      · rw [decide_eq_false hgo] at c5
        obtain ⟨rfl, rfl, rfl⟩ := hend.2 (fun h => hgo (hok.1 h).2)
        repeat (first | refine wG_call c5 (ag_is rfl rfl rfl iRow_plain ag_nil) rfl ?_ | (first
    | refine wC_a rfl ?_
    | refine q_s rfl ?_
    | refine q_b rfl ?_
    | refine wG_nil ?_
    | refine wG_g rfl ?_
    | refine wG_pure (o_len_vwm rfl) ?_
    | refine wG_pure (o_not_d rfl) ?_
    | refine wG_p rfl (by first | exact rfl | omega) ?_
    | refine wG_pure (o_not rfl) ?_
    | refine wG_pure (e_ia_vw0 rfl rfl (by omega) rfl) ?_
    | refine wG_pure (e_ia_vwp rfl rfl (by omega) rfl) ?_
    | refine wG_pure (e_ia_vwm rfl rfl (by omega) (by omega) rfl) ?_
    | refine wG_pure (e_ia_vwi rfl rfl (by omega) rfl) ?_
    | refine wG_pure (e_ia_vwn rfl rfl (by omega) (by omega) rfl) ?_
    | refine wG_n rfl rfl ?_
    | refine wG_u rfl rfl ?_
    | refine wG_new (o_mks rfl rfl (by omega) (by decide)) ?_))
        exact ret_d0 (.inr rfl) rfl (retV_ldt rfl rfl rfl rfl rfl) (retV_mv rfl)
  · have he2 : fr = ws.length ∧ to = ws.length := by
      rcases T.ends with h | h
      · omega
      · exact h
    obtain ⟨rfl, rfl⟩ := he2
    have hno : ¬ mkOK first ws := fun h => h.1 (hg0.2 rfl)
    obtain ⟨rfl, rfl, rfl⟩ := hend.2 hno
    repeat (first
    | refine wC_a rfl ?_
    | refine q_s rfl ?_
    | refine q_b rfl ?_
    | refine wG_nil ?_
    | refine wG_g rfl ?_
    | refine wG_pure (o_len_vwm rfl) ?_
    | refine wG_pure (o_not_d rfl) ?_
    | refine wG_p rfl (by first | exact rfl | omega) ?_
    | refine wG_pure (o_not rfl) ?_
    | refine wG_pure (e_ia_vw0 rfl rfl (by omega) rfl) ?_
    | refine wG_pure (e_ia_vwp rfl rfl (by omega) rfl) ?_
    | refine wG_pure (e_ia_vwm rfl rfl (by omega) (by omega) rfl) ?_
    | refine wG_pure (e_ia_vwi rfl rfl (by omega) rfl) ?_
    | refine wG_pure (e_ia_vwn rfl rfl (by omega) (by omega) rfl) ?_
    | refine wG_n rfl rfl ?_
    | refine wG_u rfl rfl ?_
    | refine wG_new (o_mks rfl rfl (by omega) (by decide)) ?_)
    refine wC_loop Nat (fun i => ⟨[(0, .int .i64 first), (1, .vw nn (ws.map iRow)), (4, .pt 0 0 0), (6, .pt 1 0 0), (7, .int .i64 (i : Int)), (8, .int .i64 (ws.length : Int))], [(1, some [[.int .i64 0, .nilS]]), (0, some [[.int .i64 0, .nilS]])], 2⟩) (fun i => i ≤ ws.length) (fun i => ws.length - i) 0 (Nat.zero_le _) ?_ (fun _ _ => Nat.zero_le _) ?_
    · simp [LeP, leT, leH, lk, AV.ltr, ltrL, Ab.hg, upd, -List.getD_eq_getElem?_getD, -Int.default_eq_zero]
      try rfl
    intro i hi
    by_cases hc : i < ws.length
    · have hz : ws.getD i default = 0 := T.lo i hc
      repeat' (first | (first
    | refine wC_a rfl ?_
    | refine q_s rfl ?_
    | refine q_b rfl ?_
    | refine wG_nil ?_
    | refine wG_g rfl ?_
    | refine wG_pure (o_len_vwm rfl) ?_
    | refine wG_pure (o_not_d rfl) ?_
    | refine wG_p rfl (by first | exact rfl | omega) ?_
    | refine wG_pure (o_not rfl) ?_
    | refine wG_pure (e_ia_vw0 rfl rfl (by omega) rfl) ?_
    | refine wG_pure (e_ia_vwp rfl rfl (by omega) rfl) ?_
    | refine wG_pure (e_ia_vwm rfl rfl (by omega) (by omega) rfl) ?_
    | refine wG_pure (e_ia_vwi rfl rfl (by omega) rfl) ?_
    | refine wG_pure (e_ia_vwn rfl rfl (by omega) (by omega) rfl) ?_
    | refine wG_n rfl rfl ?_
    | refine wG_u rfl rfl ?_
    | refine wG_new (o_mks rfl rfl (by omega) (by decide)) ?_) | (refine wG_gd rfl (fun hgt => ?_) (fun hgf => ?_) <;> (first | simp only [eq_true hgt, decide_true] | simp only [eq_false hgf, decide_false])) | refine wC_cond_d rfl (fun hg => ?_) (fun hg => ?_))
      any_goals (exfalso; omega)
      exact ⟨i + 1, by omega, by omega, by simp [LeP, leT, leH, lk, AV.ltr, ltrL, Ab.hg, upd, -List.getD_eq_getElem?_getD, -Int.default_eq_zero]⟩
    have hif : i = ws.length := by omega
    subst hif
    repeat' (first | (first
    | refine wC_a rfl ?_
    | refine q_s rfl ?_
    | refine q_b rfl ?_
    | refine wG_nil ?_
    | refine wG_g rfl ?_
    | refine wG_pure (o_len_vwm rfl) ?_
    | refine wG_pure (o_not_d rfl) ?_
    | refine wG_p rfl (by first | exact rfl | omega) ?_
    | refine wG_pure (o_not rfl) ?_
    | refine wG_pure (e_ia_vw0 rfl rfl (by omega) rfl) ?_
    | refine wG_pure (e_ia_vwp rfl rfl (by omega) rfl) ?_
    | refine wG_pure (e_ia_vwm rfl rfl (by omega) (by omega) rfl) ?_
    | refine wG_pure (e_ia_vwi rfl rfl (by omega) rfl) ?_
    | refine wG_pure (e_ia_vwn rfl rfl (by omega) (by omega) rfl) ?_
    | refine wG_n rfl rfl ?_
    | refine wG_u rfl rfl ?_
    | refine wG_new (o_mks rfl rfl (by omega) (by decide)) ?_) | (refine wG_gd rfl (fun hgt => ?_) (fun hgf => ?_) <;> (first | simp only [eq_true hgt, decide_true] | simp only [eq_false hgf, decide_false])) | refine wC_cond_d rfl (fun hg => ?_) (fun hg => ?_))
    any_goals (exfalso; omega)
    refine wC_loop Unit (fun _ => ⟨[(0, .int .i64 first), (1, .vw nn (ws.map iRow)), (4, .pt 0 0 0), (6, .pt 1 0 0), (7, .int .i64 (ws.length : Int)), (8, .int .i64 (ws.length : Int))], [(1, some [[.int .i64 0, .nilS]]), (0, some [[.int .i64 0, .nilS]])], 2⟩) (fun _ => True) (fun _ => 0) () trivial ?_ (fun _ _ => Nat.zero_le _) ?_
    · simp [LeP, leT, leH, lk, AV.ltr, ltrL, Ab.hg, upd, -List.getD_eq_getElem?_getD, -Int.default_eq_zero]
    intro _ _
    repeat' (first | (first
    | refine wC_a rfl ?_
    | refine q_s rfl ?_
    | refine q_b rfl ?_
    | refine wG_nil ?_
    | refine wG_g rfl ?_
    | refine wG_pure (o_len_vwm rfl) ?_
    | refine wG_pure (o_not_d rfl) ?_
    | refine wG_p rfl (by first | exact rfl | omega) ?_
    | refine wG_pure (o_not rfl) ?_
    | refine wG_pure (e_ia_vw0 rfl rfl (by omega) rfl) ?_
    | refine wG_pure (e_ia_vwp rfl rfl (by omega) rfl) ?_
    | refine wG_pure (e_ia_vwm rfl rfl (by omega) (by omega) rfl) ?_
    | refine wG_pure (e_ia_vwi rfl rfl (by omega) rfl) ?_
    | refine wG_pure (e_ia_vwn rfl rfl (by omega) (by omega) rfl) ?_
    | refine wG_n rfl rfl ?_
    | refine wG_u rfl rfl ?_
    | refine wG_new (o_mks rfl rfl (by omega) (by decide)) ?_) | (refine wG_gd rfl (fun hgt => ?_) (fun hgf => ?_) <;> (first | simp only [eq_true hgt, decide_true] | simp only [eq_false hgf, decide_false])) | refine wC_cond_d rfl (fun hg => ?_) (fun hg => ?_))
    any_goals (exfalso; omega)
    refine wC_loop Unit (fun _ => ⟨[(0, .int .i64 first), (1, .vw nn (ws.map iRow)), (4, .pt 0 0 0), (6, .pt 1 0 0), (7, .int .i64 (ws.length : Int)), (8, .int .i64 (ws.length : Int)), (10, .int .i64 (ws.length : Int))], [(1, some [[.int .i64 0, .nilS]]), (0, some [[.int .i64 0, .nilS]])], 2⟩) (fun _ => True) (fun _ => 0) () trivial ?_ (fun _ _ => Nat.zero_le _) ?_
    · simp [LeP, leT, leH, lk, AV.ltr, ltrL, Ab.hg, upd, -List.getD_eq_getElem?_getD, -Int.default_eq_zero]
    intro _ _
    repeat' (first | (first
    | refine wC_a rfl ?_
    | refine q_s rfl ?_
    | refine q_b rfl ?_
    | refine wG_nil ?_
    | refine wG_g rfl ?_
    | refine wG_pure (o_len_vwm rfl) ?_
    | refine wG_pure (o_not_d rfl) ?_
    | refine wG_p rfl (by first | exact rfl | omega) ?_
    | refine wG_pure (o_not rfl) ?_
    | refine wG_pure (e_ia_vw0 rfl rfl (by omega) rfl) ?_
    | refine wG_pure (e_ia_vwp rfl rfl (by omega) rfl) ?_
    | refine wG_pure (e_ia_vwm rfl rfl (by omega) (by omega) rfl) ?_
    | refine wG_pure (e_ia_vwi rfl rfl (by omega) rfl) ?_
    | refine wG_pure (e_ia_vwn rfl rfl (by omega) (by omega) rfl) ?_
    | refine wG_n rfl rfl ?_
    | refine wG_u rfl rfl ?_
    | refine wG_new (o_mks rfl rfl (by omega) (by decide)) ?_) | (refine wG_gd rfl (fun hgt => ?_) (fun hgf => ?_) <;> (first | simp only [eq_true hgt, decide_true] | simp only [eq_false hgf, decide_false])) | refine wC_cond_d rfl (fun hg => ?_) (fun hg => ?_))
    any_goals (exfalso; omega)
    exact ret_d0 (.inr rfl) rfl (retV_ldt rfl rfl rfl rfl rfl) (retV_mv rfl)
end Go.Proofs.Ytkkcplcgafndgaa.Dst
