/- Reduced weights: the implementation's side. -/
import Derived.Test.YtkkcplcgafndgaaMkdA
import Derived.Test.YtkkcplcgafndgaaAb1
namespace Go.Proofs.Ytkkcplcgafndgaa.Dst
open Go Go.Proofs.Ytkkcplcgafndgaa.Ab Go.Proofs.Ytkkcplcgafndgaa.Il
attribute [local irreducible] wpO wpC wpDr wpQ wpG wpE stepA seqQ blkQ Ret ev
set_option maxRecDepth 10000
set_option maxHeartbeats 8000000
set_option linter.unusedSimpArgs false
set_option linter.unusedVariables false
def ac33 : AC := (.seq (.reg [⟨(some 4), none, (.alloc [(.int .i64 0), .nilS])⟩, ⟨(some 5), none, (.mv (.c (.bool false)))⟩]) (.seq (.reg [⟨(some 12), none, (.mv (.t 1))⟩, ⟨(some 13), none, (.call 55 [(.t 12)])⟩, ⟨(some 6), none, (.mv (.t 13))⟩]) (.seq (.seq (.reg [⟨(some 14), none, (.mv (.t 6))⟩, ⟨(some 15), none, (.bin .eql (.t 14) (.c (.int .i64 0)))⟩]) (.cond (.t 15) (.seq (.reg [⟨(some 16), none, (.build [(.int .i64 0), .nilS] [])⟩, ⟨none, none, (.st 2 (.t 4) (.t 16))⟩, ⟨(some 5), none, (.mv (.c (.bool false)))⟩]) .ret) .skip)) (.seq (.reg [⟨(some 17), none, (.mv (.t 1))⟩, ⟨(some 18), none, (.len (.t 17))⟩, ⟨(some 7), none, (.mv (.c (.int .i64 0)))⟩, ⟨(some 8), none, (.mv (.t 18))⟩]) (.seq (.blk 0 (.loop (.seq (.seq (.reg [⟨(some 19), none, (.mv (.t 1))⟩, ⟨(some 20), none, (.mv (.t 7))⟩, ⟨(some 21), none, (.ia 1 (.t 19) (.t 20))⟩, ⟨(some 22), none, (.ld false 1 (.t 21))⟩, ⟨(some 23), none, (.bin .eql (.t 22) (.c (.int .i64 0)))⟩]) (.cond (.t 23) .skip (.exit 0))) (.blk 1 (.reg [⟨(some 24), none, (.mv (.t 7))⟩, ⟨(some 25), none, (.bin .add (.t 24) (.c (.int .i64 1)))⟩, ⟨(some 7), none, (.mv (.t 25))⟩]))))) (.seq (.blk 2 (.loop (.seq (.seq (.reg [⟨(some 26), none, (.mv (.t 1))⟩, ⟨(some 27), none, (.mv (.t 8))⟩, ⟨(some 28), none, (.bin .sub (.t 27) (.c (.int .i64 1)))⟩, ⟨(some 29), none, (.ia 1 (.t 26) (.t 28))⟩, ⟨(some 30), none, (.ld false 1 (.t 29))⟩, ⟨(some 31), none, (.bin .eql (.t 30) (.c (.int .i64 0)))⟩]) (.cond (.t 31) .skip (.exit 2))) (.blk 3 (.reg [⟨(some 32), none, (.mv (.t 8))⟩, ⟨(some 33), none, (.bin .sub (.t 32) (.c (.int .i64 1)))⟩, ⟨(some 8), none, (.mv (.t 33))⟩]))))) (.seq (.reg [⟨(some 34), none, (.mv (.t 0))⟩, ⟨(some 35), none, (.mv (.t 7))⟩, ⟨(some 36), none, (.bin .add (.t 34) (.t 35))⟩, ⟨(some 37), none, (.build [(.int .i64 0), .nilS] [(0, (1, (.t 36)))])⟩, ⟨(some 9), none, (.alloc [(.int .i64 0), .nilS])⟩, ⟨none, none, (.st 2 (.t 9) (.t 37))⟩]) (.seq (.seq (.reg [⟨(some 38), none, (.mv (.t 1))⟩, ⟨(some 39), none, (.mv (.t 7))⟩, ⟨(some 40), none, (.mv (.t 8))⟩, ⟨(some 41), none, (.slc 1 (.t 38) (some (.t 39)) (some (.t 40)))⟩, ⟨(some 42), none, (.len (.t 41))⟩, ⟨(some 43), none, (.mv (.c (.int .i64 0)))⟩]) (.blk 4 (.loop (.seq (.reg [⟨(some 44), none, (.bin .lss (.t 43) (.t 42))⟩]) (.seq (.cond (.t 44) .skip (.exit 4)) (.seq (.blk 5 (.seq (.reg [⟨(some 45), none, (.ia 1 (.t 41) (.t 43))⟩, ⟨(some 46), none, (.ld false 1 (.t 45))⟩, ⟨(some 11), none, (.mv (.t 46))⟩]) (.dreg [⟨(some 47), none, (.fa 1 (.t 9))⟩, ⟨(some 48), none, (.ld false 1 (.t 47))⟩, ⟨(some 49), none, (.mv (.t 11))⟩, ⟨(some 50), none, (.mv (.t 6))⟩, ⟨(some 51), none, (.bin .quo (.t 49) (.t 50))⟩, ⟨(some 52), none, (.bsl 1 [(.int .i64 0)] 1 [(0, (.t 51))])⟩, ⟨(some 53), none, (.app 1 8 [(.int .i64 0)] (.t 48) (.t 52))⟩, ⟨(some 54), none, (.fa 1 (.t 9))⟩, ⟨none, none, (.st 1 (.t 54) (.t 53))⟩] [[], [0], [], [], [2, 3], [2, 3, 4], [0, 1, 2, 3, 4, 5], [0, 1, 2, 3, 4, 5, 6], [0, 1, 2, 3, 4, 5, 6, 7]]))) (.reg [⟨(some 55), none, (.bin .add (.t 43) (.c (.int .i64 1)))⟩, ⟨(some 43), none, (.mv (.t 55))⟩]))))))) (.seq (.seq (.reg [⟨(some 56), none, (.ld true 2 (.t 9))⟩, ⟨(some 57), none, (.call 56 [(.t 56)])⟩, ⟨(some 58), none, (.un .not (.t 57))⟩]) (.cond (.t 58) (.seq (.reg [⟨(some 59), none, (.build [(.int .i64 0), .nilS] [])⟩, ⟨none, none, (.st 2 (.t 4) (.t 59))⟩, ⟨(some 5), none, (.mv (.c (.bool false)))⟩]) .ret) .skip)) (.seq (.reg [⟨(some 60), none, (.ld true 2 (.t 9))⟩, ⟨none, none, (.st 2 (.t 4) (.t 60))⟩, ⟨(some 5), none, (.mv (.c (.bool true)))⟩]) .ret))))))))))
def ro33 : List AOp := [(.ld true 2 (.t 4)), (.mv (.t 5))]
theorem fun33 : Fun Try.prog 33 61 ac33 ro33 := ⟨Try.f33, _, Try.func33, by kernel_rfl, rfl, rfl, by kernel_rfl, by kernel_rfl, by decide⟩

theorem part_map (ws : List Int) (i n : Nat) : ((ws.map iRow).drop i).take n = ((ws.drop i).take n).map iRow := by rw [← List.map_drop, ← List.map_take]
theorem part_get {ws : List Int} {i n k : Nat} (h : k < n) (h2 : i + k < ws.length) : ((ws.drop i).take n).getD k default = ws.getD (i + k) default := by
  simp [List.getD_eq_getElem?_getD, h]
theorem part_len {ws : List Int} {i n : Nat} (h2 : i + n ≤ ws.length) : ((ws.drop i).take n).length = n := by simp; omega

theorem con33_all (nn : Bool) (first : Int) (ws : List Int) (hlen : ws.length ≤ 100000) {B : Int} (hb : bnd ws B) (hB : B ≤ 9000000000000000000) (hf1 : -1000000 ≤ first) (hf2 : first ≤ 1000000) (v : AV) (rs : List Nat) (objs : List Ab.Rows) (hv : v.nvf = true) (hp : PlainObjs objs)
    (hend : (mkOK first ws → v = .tup [.agg [.int .i64 (mkO first ws).f, .sl 0 1 0 (mkO first ws).ws.length], .bool true] ∧ rs = [2] ∧ objs = [(mkO first ws).ws.map iRow]) ∧ (¬ mkOK first ws → v = .tup [.agg [.int .i64 0, .nilS], .bool false] ∧ rs = [] ∧ objs = [])) :
    Con Try.prog 33 true [.int .i64 first, .vw nn (ws.map iRow)] v objs := by
  classical
  suffices key : Con Try.prog 33 v.nvf [.int .i64 first, .vw nn (ws.map iRow)] v objs by rwa [hv] at key
  refine con_of_wp mixed fun33 (by simp) rs hp ?_
  unfold ac33 ro33
  simp only [zipT]
  have T := tr ws
  have hmo : mkO first ws = ⟨first + trF ws, ow ws (gd ws ws.length : Int) (trF ws) (trT ws - trF ws)⟩ := rfl
  have hok : mkOK first ws ↔ gd ws ws.length ≠ 0 ∧ GoodD (mkO first ws) := Iff.rfl
  have c0 := con55 nn ws (by omega) hb
  generalize trF ws = fr at *
  generalize trT ws = to at *
  have T1 := T.le
  have T2 := T.lt
  have hg0 := T.none
  generalize hgv : gd ws ws.length = gv at *
  by_cases he : fr < to
  · obtain ⟨_, hnf, hnt⟩ : fr < to ∧ ws.getD fr default ≠ 0 ∧ ws.getD (to - 1) default ≠ 0 := by
      rcases T.ends with h | ⟨h1, h2⟩
      · exact h
      · omega
    have hgn : gv ≠ 0 := fun h => by have := hg0.1 h; omega
    have hgv1 : (1 : Int) ≤ (gv : Int) := by omega
    repeat' (first | refine wG_call c0 rfl rfl ?_ | (first
    | refine wC_a rfl ?_
    | refine q_s rfl ?_
    | refine q_b rfl ?_
    | refine wG_nil ?_
    | refine wG_g rfl ?_
    | refine wG_pure (o_len_vwm rfl) ?_
    | refine wG_pure (o_not_d rfl) ?_
    | refine wG_p rfl (by first | exact rfl | omega) ?_
    | refine wG_pure (o_not rfl) ?_
    | refine wG_pure (e_ia_vw0 rfl rfl (by omega) rfl) ?_
    | refine wG_pure (e_ia_vwp rfl rfl (by omega) rfl) ?_
    | refine wG_pure (e_ia_vwm rfl rfl (by omega) (by omega) rfl) ?_
    | refine wG_pure (e_ia_vwi rfl rfl (by omega) rfl) ?_
    | refine wG_pure (e_ia_vwn rfl rfl (by omega) (by omega) rfl) ?_
    | refine wG_n rfl rfl ?_
    | refine wG_u rfl rfl ?_
    | refine wG_new (o_mks rfl rfl (by omega) (by decide)) ?_) | (refine wG_gd rfl (fun hgt => ?_) (fun hgf => ?_) <;> (first | simp only [eq_true hgt, decide_true] | simp only [eq_false hgf, decide_false])) | refine wC_cond_d rfl (fun hg => ?_) (fun hg => ?_))
    any_goals (exfalso; omega)
    refine wC_loop Nat (fun i => ⟨[(0, .int .i64 first), (1, .vw nn (ws.map iRow)), (4, .pt 0 0 0), (6, .int .i64 (gv : Int)), (7, .int .i64 (i : Int)), (8, .int .i64 (ws.length : Int))], [(0, some [[.int .i64 0, .nilS]])], 1⟩) (fun i => i ≤ fr) (fun i => fr - i) 0 (Nat.zero_le _) ?_ (fun _ _ => Nat.zero_le _) ?_
    · simp [LeP, leT, leH, lk, AV.ltr, ltrL, Ab.hg, upd, -List.getD_eq_getElem?_getD, -Int.default_eq_zero]
    intro i hi
    by_cases hc : i < fr
    · have hz : ws.getD i default = 0 := T.lo i hc
      repeat' (first | (first
    | refine wC_a rfl ?_
    | refine q_s rfl ?_
    | refine q_b rfl ?_
    | refine wG_nil ?_
    | refine wG_g rfl ?_
    | refine wG_pure (o_len_vwm rfl) ?_
    | refine wG_pure (o_not_d rfl) ?_
    | refine wG_p rfl (by first | exact rfl | omega) ?_
    | refine wG_pure (o_not rfl) ?_
    | refine wG_pure (e_ia_vw0 rfl rfl (by omega) rfl) ?_
    | refine wG_pure (e_ia_vwp rfl rfl (by omega) rfl) ?_
    | refine wG_pure (e_ia_vwm rfl rfl (by omega) (by omega) rfl) ?_
    | refine wG_pure (e_ia_vwi rfl rfl (by omega) rfl) ?_
    | refine wG_pure (e_ia_vwn rfl rfl (by omega) (by omega) rfl) ?_
    | refine wG_n rfl rfl ?_
    | refine wG_u rfl rfl ?_
    | refine wG_new (o_mks rfl rfl (by omega) (by decide)) ?_) | (refine wG_gd rfl (fun hgt => ?_) (fun hgf => ?_) <;> (first | simp only [eq_true hgt, decide_true] | simp only [eq_false hgf, decide_false])) | refine wC_cond_d rfl (fun hg => ?_) (fun hg => ?_))
      any_goals (exfalso; omega)
      exact ⟨i + 1, by omega, by omega, by simp [LeP, leT, leH, lk, AV.ltr, ltrL, Ab.hg, upd, -List.getD_eq_getElem?_getD, -Int.default_eq_zero]⟩
    have hif : i = fr := by omega
    subst hif
    repeat' (first | (first
    | refine wC_a rfl ?_
    | refine q_s rfl ?_
    | refine q_b rfl ?_
    | refine wG_nil ?_
    | refine wG_g rfl ?_
    | refine wG_pure (o_len_vwm rfl) ?_
    | refine wG_pure (o_not_d rfl) ?_
    | refine wG_p rfl (by first | exact rfl | omega) ?_
    | refine wG_pure (o_not rfl) ?_
    | refine wG_pure (e_ia_vw0 rfl rfl (by omega) rfl) ?_
    | refine wG_pure (e_ia_vwp rfl rfl (by omega) rfl) ?_
    | refine wG_pure (e_ia_vwm rfl rfl (by omega) (by omega) rfl) ?_
    | refine wG_pure (e_ia_vwi rfl rfl (by omega) rfl) ?_
    | refine wG_pure (e_ia_vwn rfl rfl (by omega) (by omega) rfl) ?_
    | refine wG_n rfl rfl ?_
    | refine wG_u rfl rfl ?_
    | refine wG_new (o_mks rfl rfl (by omega) (by decide)) ?_) | (refine wG_gd rfl (fun hgt => ?_) (fun hgf => ?_) <;> (first | simp only [eq_true hgt, decide_true] | simp only [eq_false hgf, decide_false])) | refine wC_cond_d rfl (fun hg => ?_) (fun hg => ?_))
    any_goals (exfalso; omega)
    refine wC_loop Nat (fun t => ⟨[(0, .int .i64 first), (1, .vw nn (ws.map iRow)), (4, .pt 0 0 0), (6, .int .i64 (gv : Int)), (7, .int .i64 (i : Int)), (8, .int .i64 (t : Int))], [(0, some [[.int .i64 0, .nilS]])], 1⟩) (fun t => to ≤ t ∧ t ≤ ws.length) (fun t => t) ws.length ⟨T2, Nat.le_refl _⟩ ?_ (fun _ _ => Nat.zero_le _) ?_
    · simp [LeP, leT, leH, lk, AV.ltr, ltrL, Ab.hg, upd, -List.getD_eq_getElem?_getD, -Int.default_eq_zero]
    rintro t ⟨ht1, ht2⟩
    by_cases hd : to < t
    · have hz : ws.getD (t - 1) default = 0 := T.hi (t - 1) (by omega) (by omega)
      repeat' (first | (first
    | refine wC_a rfl ?_
    | refine q_s rfl ?_
    | refine q_b rfl ?_
    | refine wG_nil ?_
    | refine wG_g rfl ?_
    | refine wG_pure (o_len_vwm rfl) ?_
    | refine wG_pure (o_not_d rfl) ?_
    | refine wG_p rfl (by first | exact rfl | omega) ?_
    | refine wG_pure (o_not rfl) ?_
    | refine wG_pure (e_ia_vw0 rfl rfl (by omega) rfl) ?_
    | refine wG_pure (e_ia_vwp rfl rfl (by omega) rfl) ?_
    | refine wG_pure (e_ia_vwm rfl rfl (by omega) (by omega) rfl) ?_
    | refine wG_pure (e_ia_vwi rfl rfl (by omega) rfl) ?_
    | refine wG_pure (e_ia_vwn rfl rfl (by omega) (by omega) rfl) ?_
    | refine wG_n rfl rfl ?_
    | refine wG_u rfl rfl ?_
    | refine wG_new (o_mks rfl rfl (by omega) (by decide)) ?_) | (refine wG_gd rfl (fun hgt => ?_) (fun hgf => ?_) <;> (first | simp only [eq_true hgt, decide_true] | simp only [eq_false hgf, decide_false])) | refine wC_cond_d rfl (fun hg => ?_) (fun hg => ?_))
      any_goals (exfalso; omega)
      exact ⟨t - 1, by omega, by omega, by simp [LeP, leT, leH, lk, AV.ltr, ltrL, Ab.hg, upd, -List.getD_eq_getElem?_getD, -Int.default_eq_zero]; omega⟩
    have htt : t = to := by omega
    subst htt
    repeat' (first | refine wG_pure (o_slc_m rfl (bd_i rfl) (bd_i rfl) T1 T2 (okI ws)) ?_ | (first
    | refine wC_a rfl ?_
    | refine q_s rfl ?_
    | refine q_b rfl ?_
    | refine wG_nil ?_
    | refine wG_g rfl ?_
    | refine wG_pure (o_len_vwm rfl) ?_
    | refine wG_pure (o_not_d rfl) ?_
    | refine wG_p rfl (by first | exact rfl | omega) ?_
    | refine wG_pure (o_not rfl) ?_
    | refine wG_pure (e_ia_vw0 rfl rfl (by omega) rfl) ?_
    | refine wG_pure (e_ia_vwp rfl rfl (by omega) rfl) ?_
    | refine wG_pure (e_ia_vwm rfl rfl (by omega) (by omega) rfl) ?_
    | refine wG_pure (e_ia_vwi rfl rfl (by omega) rfl) ?_
    | refine wG_pure (e_ia_vwn rfl rfl (by omega) (by omega) rfl) ?_
    | refine wG_n rfl rfl ?_
    | refine wG_u rfl rfl ?_
    | refine wG_new (o_mks rfl rfl (by omega) (by decide)) ?_) | (refine wG_gd rfl (fun hgt => ?_) (fun hgf => ?_) <;> (first | simp only [eq_true hgt, decide_true] | simp only [eq_false hgf, decide_false])) | refine wC_cond_d rfl (fun hg => ?_) (fun hg => ?_))
    any_goals (exfalso; omega)
    have hpl : ((ws.drop i).take (t - i)).length = t - i := part_len (by omega)
    refine wC_loopR Nat (fun k => ⟨[(4, .pt 0 0 0), (6, .int .i64 (gv : Int)), (9, .pt 1 0 0), (41, .vw nn (((ws.drop i).take (t - i)).map iRow)), (42, .int .i64 (((ws.drop i).take (t - i)).length : Int)), (43, .int .i64 (k : Int))],
        (match k with
          | 0 => [(1, some [[.int .i64 (first + (i : Int)), .nilS]]), (0, some [[.int .i64 0, .nilS]])]
          | k' + 1 => [(1, some [[.int .i64 (first + (i : Int)), .sl 2 1 0 (ow ws gv i (k' + 1)).length]]), (2, some ((ow ws gv i (k' + 1)).map iRow)), (0, some [[.int .i64 0, .nilS]])]),
        (match k with
          | 0 => 2
          | _ + 1 => 3)⟩) (fun k => k ≤ t - i) (fun k => t - i - k) 0 (Nat.zero_le _) ⟨[0, 1], ?_⟩ ?_
    · exact ⟨⟨⟨rfl, rfl⟩, ⟨rfl, rfl⟩, ⟨rfl, rfl⟩, ⟨rfl, rfl⟩, ⟨rfl, rfl⟩, ⟨rfl, rfl⟩, trivial⟩, ⟨⟨⟨_, rfl, rfl⟩, (by show 1 < 2; decide), by simp [AV.ltr]⟩, ⟨⟨_, rfl, rfl⟩, (by show 0 < 2; decide), by simp [AV.ltr]⟩, trivial⟩, rfl, by decide⟩
    intro k hk
    have hl := ow_len ws gv i k
    rw [hpl]
    cases k with
    | zero =>
      dsimp only
      have hw := hb (i + 0) (by omega)
      have hq := quo_b hw.1 hw.2 hgv1
      have hpg : ((ws.drop i).take (t - i)).getD 0 default = ws.getD (i + 0) default := part_get (by omega) (by omega)
      rw [← hpg] at hq
      repeat' (first | refine wE_pure0 (o_quo rfl rfl (by omega) (by omega) (by omega)) rfl ?_ | refine wE_appn rfl (rows_sl rfl rfl rfl) (by simp) (by simp) (by decide) rfl ?_ | (first
    | refine wC_a rfl ?_
    | refine q_s rfl ?_
    | refine q_b rfl ?_
    | refine wG_nil ?_
    | refine wG_g rfl ?_
    | refine wG_pure (o_len_vwm rfl) ?_
    | refine wG_pure (o_not_d rfl) ?_
    | refine wG_p rfl (by first | exact rfl | omega) ?_
    | refine wG_pure (o_not rfl) ?_
    | refine wG_pure (e_ia_vw0 rfl rfl (by omega) rfl) ?_
    | refine wG_pure (e_ia_vwp rfl rfl (by omega) rfl) ?_
    | refine wG_pure (e_ia_vwm rfl rfl (by omega) (by omega) rfl) ?_
    | refine wG_pure (e_ia_vwi rfl rfl (by omega) rfl) ?_
    | refine wG_pure (e_ia_vwn rfl rfl (by omega) (by omega) rfl) ?_
    | refine wG_n rfl rfl ?_
    | refine wG_u rfl rfl ?_
    | refine wG_new (o_mks rfl rfl (by omega) (by decide)) ?_) | (first
    | refine wE_nil (by kernel_rfl) ?_
    | refine wE_gy rfl ?_
    | refine wE_gn rfl rfl rfl ?_
    | refine wE_gu rfl rfl ?_
    | refine wE_gnn rfl rfl rfl ?_
    | refine wE_v (o_len_vwm rfl) rfl ?_
    | refine wE_v (o_not_d rfl) rfl ?_
    | refine wE_p rfl (by first | exact rfl | omega) rfl ?_
    | refine wE_v (o_not rfl) rfl ?_
    | refine wE_v (e_ia_vw0 rfl rfl (by omega) rfl) rfl ?_
    | refine wE_v (e_ia_vwp rfl rfl (by omega) rfl) rfl ?_
    | refine wE_v (e_ia_vwm rfl rfl (by omega) (by omega) rfl) rfl ?_
    | refine wE_v (e_ia_vwi rfl rfl (by omega) rfl) rfl ?_
    | refine wE_v (e_ia_vwn rfl rfl (by omega) (by omega) rfl) rfl ?_
    | refine wE_n rfl rfl rfl ?_
    | refine wE_u rfl rfl rfl ?_
    | refine wE_new (o_mks rfl rfl (by omega) (by decide)) rfl ?_) | (refine wG_gd rfl (fun hgt => ?_) (fun hgf => ?_) <;> (first | simp only [eq_true hgt, decide_true] | simp only [eq_false hgf, decide_false])) | refine wC_cond_d rfl (fun hg => ?_) (fun hg => ?_))
      any_goals (exfalso; omega)
      refine ⟨1, by omega, by omega, [0, 1, 3], ?_⟩
      have e1 : ow ws gv i 1 = [(((ws.drop i).take (t - i)).getD 0 default).tdiv gv] := by simp only [ow, hpg]; rfl
      dsimp only
      rw [e1]
      exact ⟨⟨⟨rfl, rfl⟩, ⟨rfl, rfl⟩, ⟨rfl, rfl⟩, ⟨rfl, rfl⟩, ⟨rfl, rfl⟩, ⟨rfl, rfl⟩, trivial⟩, ⟨⟨⟨_, rfl, rfl⟩, (by show 1 < 3; decide), by simp [AV.ltr]⟩, ⟨⟨_, rfl, rfl⟩, (by show 2 < 3; decide), ltrI _ _⟩, ⟨⟨_, rfl, rfl⟩, (by show 0 < 3; decide), by simp [AV.ltr]⟩, trivial⟩, rfl, by decide⟩
    | succ k =>
      dsimp only
      rcases Nat.lt_or_ge (k + 1) (t - i) with hkt | hkt
      · have hw := hb (i + (k + 1)) (by omega)
        have hq := quo_b hw.1 hw.2 hgv1
        have hpg : ((ws.drop i).take (t - i)).getD (k + 1) default = ws.getD (i + (k + 1)) default := part_get (by omega) (by omega)
        rw [← hpg] at hq
        repeat' (first | refine wE_pure0 (o_quo rfl rfl (by omega) (by omega) (by omega)) rfl ?_ | refine wE_app rfl rfl (by simp) (rows_sl rfl rfl rfl) (by simp) (by simp; omega) (by decide) rfl ?_ | (first
    | refine wC_a rfl ?_
    | refine q_s rfl ?_
    | refine q_b rfl ?_
    | refine wG_nil ?_
    | refine wG_g rfl ?_
    | refine wG_pure (o_len_vwm rfl) ?_
    | refine wG_pure (o_not_d rfl) ?_
    | refine wG_p rfl (by first | exact rfl | omega) ?_
    | refine wG_pure (o_not rfl) ?_
    | refine wG_pure (e_ia_vw0 rfl rfl (by omega) rfl) ?_
    | refine wG_pure (e_ia_vwp rfl rfl (by omega) rfl) ?_
    | refine wG_pure (e_ia_vwm rfl rfl (by omega) (by omega) rfl) ?_
    | refine wG_pure (e_ia_vwi rfl rfl (by omega) rfl) ?_
    | refine wG_pure (e_ia_vwn rfl rfl (by omega) (by omega) rfl) ?_
    | refine wG_n rfl rfl ?_
    | refine wG_u rfl rfl ?_
    | refine wG_new (o_mks rfl rfl (by omega) (by decide)) ?_) | (first
    | refine wE_nil (by kernel_rfl) ?_
    | refine wE_gy rfl ?_
    | refine wE_gn rfl rfl rfl ?_
    | refine wE_gu rfl rfl ?_
    | refine wE_gnn rfl rfl rfl ?_
    | refine wE_v (o_len_vwm rfl) rfl ?_
    | refine wE_v (o_not_d rfl) rfl ?_
    | refine wE_p rfl (by first | exact rfl | omega) rfl ?_
    | refine wE_v (o_not rfl) rfl ?_
    | refine wE_v (e_ia_vw0 rfl rfl (by omega) rfl) rfl ?_
    | refine wE_v (e_ia_vwp rfl rfl (by omega) rfl) rfl ?_
    | refine wE_v (e_ia_vwm rfl rfl (by omega) (by omega) rfl) rfl ?_
    | refine wE_v (e_ia_vwi rfl rfl (by omega) rfl) rfl ?_
    | refine wE_v (e_ia_vwn rfl rfl (by omega) (by omega) rfl) rfl ?_
    | refine wE_n rfl rfl rfl ?_
    | refine wE_u rfl rfl rfl ?_
    | refine wE_new (o_mks rfl rfl (by omega) (by decide)) rfl ?_) | (refine wG_gd rfl (fun hgt => ?_) (fun hgf => ?_) <;> (first | simp only [eq_true hgt, decide_true] | simp only [eq_false hgf, decide_false])) | refine wC_cond_d rfl (fun hg => ?_) (fun hg => ?_))
        any_goals (exfalso; omega)
        refine ⟨k + 1 + 1, by omega, by omega, [0, 1, 4], ?_⟩
        have e1 : ow ws gv i (k + 1 + 1) = ow ws gv i (k + 1) ++ [(((ws.drop i).take (t - i)).getD (k + 1) default).tdiv gv] := by rw [hpg]; rfl
        dsimp only
        rw [e1]
        refine ⟨⟨⟨rfl, rfl⟩, ⟨rfl, rfl⟩, ⟨rfl, rfl⟩, ⟨rfl, rfl⟩, ⟨rfl, rfl⟩, ⟨rfl, rfl⟩, trivial⟩, ⟨⟨⟨_, rfl, ?_⟩, (by show 1 < 3; decide), by simp [AV.ltr]⟩, ⟨⟨_, rfl, ?_⟩, (by show 2 < 3; decide), ltrI _ _⟩, ⟨⟨_, rfl, rfl⟩, (by show 0 < 3; decide), by simp [AV.ltr]⟩, trivial⟩, rfl, by decide⟩
        · rw [List.length_append]; rfl
        · rw [← rn_rows (rowsP _), List.map_append]; rfl
      · have hk2 : t - i = k + 1 := by omega
        rw [hmo] at hok hend
        rw [hk2] at hok hend
        have c5 := con56 true ⟨first + (i : Int), ow ws gv i (k + 1)⟩ (by rw [ow_len]; omega)
        unfold dRow at c5
        simp only at c5 hend
        by_cases hgo : GoodD ⟨first + (i : Int), ow ws gv i (k + 1)⟩
        · rw [decide_eq_true hgo] at c5
          obtain ⟨rfl, rfl, rfl⟩ := hend.1 (hok.2 ⟨hgn, hgo⟩)
          repeat' (first | refine wG_call c5 (ag_is rfl rfl rfl iRow_plain ag_nil) rfl ?_ | (first
    | refine wC_a rfl ?_
    | refine q_s rfl ?_
    | refine q_b rfl ?_
    | refine wG_nil ?_
    | refine wG_g rfl ?_
    | refine wG_pure (o_len_vwm rfl) ?_
    | refine wG_pure (o_not_d rfl) ?_
    | refine wG_p rfl (by first | exact rfl | omega) ?_
    | refine wG_pure (o_not rfl) ?_
    | refine wG_pure (e_ia_vw0 rfl rfl (by omega) rfl) ?_
    | refine wG_pure (e_ia_vwp rfl rfl (by omega) rfl) ?_
    | refine wG_pure (e_ia_vwm rfl rfl (by omega) (by omega) rfl) ?_
    | refine wG_pure (e_ia_vwi rfl rfl (by omega) rfl) ?_
    | refine wG_pure (e_ia_vwn rfl rfl (by omega) (by omega) rfl) ?_
    | refine wG_n rfl rfl ?_
    | refine wG_u rfl rfl ?_
    | refine wG_new (o_mks rfl rfl (by omega) (by decide)) ?_) | (refine wG_gd rfl (fun hgt => ?_) (fun hgf => ?_) <;> (first | simp only [eq_true hgt, decide_true] | simp only [eq_false hgf, decide_false])) | refine wC_cond_d rfl (fun hg => ?_) (fun hg => ?_))
          any_goals (exfalso; omega)
          exact ret_db (.inr rfl) rfl (retV_ldt rfl rfl rfl rfl rfl) (retV_mv rfl) rfl
        · rw [decide_eq_false hgo] at c5
          obtain ⟨rfl, rfl, rfl⟩ := hend.2 (fun h => hgo (hok.1 h).2)
          repeat' (first | refine wG_call c5 (ag_is rfl rfl rfl iRow_plain ag_nil) rfl ?_ | (first
    | refine wC_a rfl ?_
    | refine q_s rfl ?_
    | refine q_b rfl ?_
    | refine wG_nil ?_
    | refine wG_g rfl ?_
    | refine wG_pure (o_len_vwm rfl) ?_
    | refine wG_pure (o_not_d rfl) ?_
    | refine wG_p rfl (by first | exact rfl | omega) ?_
    | refine wG_pure (o_not rfl) ?_
    | refine wG_pure (e_ia_vw0 rfl rfl (by omega) rfl) ?_
    | refine wG_pure (e_ia_vwp rfl rfl (by omega) rfl) ?_
    | refine wG_pure (e_ia_vwm rfl rfl (by omega) (by omega) rfl) ?_
    | refine wG_pure (e_ia_vwi rfl rfl (by omega) rfl) ?_
    | refine wG_pure (e_ia_vwn rfl rfl (by omega) (by omega) rfl) ?_
    | refine wG_n rfl rfl ?_
    | refine wG_u rfl rfl ?_
    | refine wG_new (o_mks rfl rfl (by omega) (by decide)) ?_) | (refine wG_gd rfl (fun hgt => ?_) (fun hgf => ?_) <;> (first | simp only [eq_true hgt, decide_true] | simp only [eq_false hgf, decide_false])) | refine wC_cond_d rfl (fun hg => ?_) (fun hg => ?_))
          any_goals (exfalso; omega)
          exact ret_d0 (.inr rfl) rfl (retV_ldt rfl rfl rfl rfl rfl) (retV_mv rfl)
  · have he2 : fr = ws.length ∧ to = ws.length := by
      rcases T.ends with h | h
      · omega
      · exact h
    obtain ⟨rfl, rfl⟩ := he2
    have hno : ¬ mkOK first ws := fun h => (hok.1 h).1 (hg0.2 rfl)
    obtain ⟨rfl, rfl, rfl⟩ := hend.2 hno
    have hgz : gv = 0 := hg0.2 rfl
    repeat' (first | refine wG_call c0 rfl rfl ?_ | (first
    | refine wC_a rfl ?_
    | refine q_s rfl ?_
    | refine q_b rfl ?_
    | refine wG_nil ?_
    | refine wG_g rfl ?_
    | refine wG_pure (o_len_vwm rfl) ?_
    | refine wG_pure (o_not_d rfl) ?_
    | refine wG_p rfl (by first | exact rfl | omega) ?_
    | refine wG_pure (o_not rfl) ?_
    | refine wG_pure (e_ia_vw0 rfl rfl (by omega) rfl) ?_
    | refine wG_pure (e_ia_vwp rfl rfl (by omega) rfl) ?_
    | refine wG_pure (e_ia_vwm rfl rfl (by omega) (by omega) rfl) ?_
    | refine wG_pure (e_ia_vwi rfl rfl (by omega) rfl) ?_
    | refine wG_pure (e_ia_vwn rfl rfl (by omega) (by omega) rfl) ?_
    | refine wG_n rfl rfl ?_
    | refine wG_u rfl rfl ?_
    | refine wG_new (o_mks rfl rfl (by omega) (by decide)) ?_) | (refine wG_gd rfl (fun hgt => ?_) (fun hgf => ?_) <;> (first | simp only [eq_true hgt, decide_true] | simp only [eq_false hgf, decide_false])) | refine wC_cond_d rfl (fun hg => ?_) (fun hg => ?_))
    any_goals (exfalso; omega)
    exact ret_d0 (.inr rfl) rfl (retV_ldt rfl rfl rfl rfl rfl) (retV_mv rfl)
end Go.Proofs.Ytkkcplcgafndgaa.Dst
