/- Calibrated ages: both sides. -/
import Derived.Test.YtkkcplcgafndgaaCalA
import Derived.Test.YtkkcplcgafndgaaAb1
namespace Go.Proofs.Ytkkcplcgafndgaa.Cal
open Go Go.Proofs.Ytkkcplcgafndgaa Go.Proofs.Ytkkcplcgafndgaa.Ab Go.Proofs.Ytkkcplcgafndgaa.Il Go.Proofs.Ytkkcplcgafndgaa.Msr Go.Proofs.Ytkkcplcgafndgaa.Dst
attribute [local irreducible] wpO wpC wpDr wpQ wpG wpE stepA seqQ blkQ Ret ev
set_option maxRecDepth 10000
set_option maxHeartbeats 8000000
set_option linter.unusedSimpArgs false
set_option linter.unusedVariables false
def ac15 : AC := (.seq (.reg [⟨(some 3), none, (.box 2 true (.t 1))⟩, ⟨(some 4), none, (.alloc [(.int .i64 0), .nilS])⟩, ⟨(some 5), none, (.mv (.c (.bool false)))⟩]) (.seq (.seq (.reg [⟨(some 8), none, (.mv (.t 0))⟩, ⟨(some 9), none, (.call 35 [(.t 8)])⟩, ⟨(some 10), none, (.un .not (.t 9))⟩, ⟨(some 11), none, (.mv (.t 10))⟩, ⟨(some 12), (some (11, false)), (.ld true 2 (.t 3))⟩, ⟨(some 13), (some (11, false)), (.call 36 [(.t 12)])⟩, ⟨(some 14), (some (11, false)), (.un .not (.t 13))⟩, ⟨(some 15), none, (.pick (.t 11) (.c (.bool true)) (.t 14))⟩]) (.cond (.t 15) (.seq (.reg [⟨(some 16), none, (.build [(.int .i64 0), .nilS] [])⟩, ⟨none, none, (.st 2 (.t 4) (.t 16))⟩, ⟨(some 5), none, (.mv (.c (.bool false)))⟩]) .ret) .skip)) (.seq (.reg [⟨(some 17), none, (.bsl 1 [(.int .i64 0)] 0 [])⟩, ⟨(some 6), none, (.mv (.t 17))⟩]) (.seq (.seq (.reg [⟨(some 18), none, (.mv (.t 0))⟩, ⟨(some 19), none, (.ia 3 (.t 18) (.c (.int .i64 0)))⟩, ⟨(some 20), none, (.fa 0 (.t 19))⟩, ⟨(some 21), none, (.ld false 1 (.t 20))⟩, ⟨(some 7), none, (.mv (.t 21))⟩]) (.blk 0 (.loop (.seq (.seq (.reg [⟨(some 22), none, (.mv (.t 7))⟩, ⟨(some 23), none, (.mv (.t 0))⟩, ⟨(some 24), none, (.mv (.t 0))⟩, ⟨(some 25), none, (.len (.t 24))⟩, ⟨(some 26), none, (.bin .sub (.t 25) (.c (.int .i64 1)))⟩, ⟨(some 27), none, (.ia 3 (.t 23) (.t 26))⟩, ⟨(some 28), none, (.fa 0 (.t 27))⟩, ⟨(some 29), none, (.ld false 1 (.t 28))⟩, ⟨(some 30), none, (.bin .leq (.t 22) (.t 29))⟩]) (.cond (.t 30) .skip (.exit 0))) (.seq (.blk 1 (.reg [⟨(some 33), none, (.mv (.t 6))⟩, ⟨(some 34), none, (.mv (.t 0))⟩, ⟨(some 35), none, (.ld true 2 (.t 3))⟩, ⟨(some 36), none, (.mv (.t 7))⟩, ⟨(some 37), none, (.call 37 [(.t 34), (.t 35), (.t 36)])⟩, ⟨(some 38), none, (.bsl 1 [(.int .i64 0)] 1 [(0, (.t 37))])⟩, ⟨(some 39), none, (.app 1 8 [(.int .i64 0)] (.t 33) (.t 38))⟩, ⟨(some 6), none, (.mv (.t 39))⟩])) (.reg [⟨(some 31), none, (.mv (.t 7))⟩, ⟨(some 32), none, (.bin .add (.t 31) (.c (.int .i64 1)))⟩, ⟨(some 7), none, (.mv (.t 32))⟩])))))) (.seq (.reg [⟨(some 40), none, (.mv (.t 0))⟩, ⟨(some 41), none, (.ia 3 (.t 40) (.c (.int .i64 0)))⟩, ⟨(some 42), none, (.fa 0 (.t 41))⟩, ⟨(some 43), none, (.ld false 1 (.t 42))⟩, ⟨(some 44), none, (.mv (.t 6))⟩, ⟨(some 45), none, (.call 28 [(.t 43), (.t 44)])⟩, ⟨(some 46), none, (.ext (.t 45) 0)⟩, ⟨(some 47), none, (.ext (.t 45) 1)⟩, ⟨none, none, (.st 2 (.t 4) (.t 46))⟩, ⟨(some 5), none, (.mv (.t 47))⟩]) .ret)))))
def ro15 : List AOp := [(.ld true 2 (.t 4)), (.mv (.t 5))]
theorem fun15 : Fun Try.prog 15 48 ac15 ro15 := ⟨Try.f15, _, Try.func15, by kernel_rfl, rfl, rfl, by kernel_rfl, by kernel_rfl, by decide⟩
def ac18 : AC := (.seq (.reg [⟨(some 2), none, (.box 1 false (.t 0))⟩, ⟨(some 3), none, (.box 2 true (.t 1))⟩, ⟨(some 4), none, (.alloc [(.int .i64 0), .nilS])⟩, ⟨(some 5), none, (.mv (.c (.bool false)))⟩]) (.seq (.seq (.reg [⟨(some 8), none, (.ld false 1 (.t 2))⟩, ⟨(some 9), none, (.call 39 [(.t 8)])⟩, ⟨(some 10), none, (.un .not (.t 9))⟩, ⟨(some 11), none, (.mv (.t 10))⟩, ⟨(some 12), (some (11, false)), (.ld true 2 (.t 3))⟩, ⟨(some 13), (some (11, false)), (.call 40 [(.t 12)])⟩, ⟨(some 14), (some (11, false)), (.un .not (.t 13))⟩, ⟨(some 15), none, (.pick (.t 11) (.c (.bool true)) (.t 14))⟩]) (.cond (.t 15) (.seq (.reg [⟨(some 16), none, (.build [(.int .i64 0), .nilS] [])⟩, ⟨none, none, (.st 2 (.t 4) (.t 16))⟩, ⟨(some 5), none, (.mv (.c (.bool false)))⟩]) .ret) .skip)) (.seq (.reg [⟨(some 18), none, (.ld false 1 (.t 2))⟩, ⟨(some 19), none, (.call 41 [(.t 18)])⟩, ⟨(some 17), none, (.mv (.t 19))⟩, ⟨(some 20), none, (.ext (.t 17) 0)⟩, ⟨(some 21), none, (.ext (.t 17) 1)⟩, ⟨(some 6), none, (.mv (.t 20))⟩, ⟨(some 7), none, (.mv (.t 21))⟩]) (.seq (.reg [⟨(some 22), none, (.mv (.t 6))⟩, ⟨(some 23), none, (.mv (.t 7))⟩, ⟨(some 24), none, (.mkf 43 [(.t 2), (.t 3)])⟩, ⟨(some 25), none, (.call 42 [(.t 22), (.t 23), (.t 24)])⟩, ⟨(some 26), none, (.ext (.t 25) 0)⟩, ⟨(some 27), none, (.ext (.t 25) 1)⟩, ⟨none, none, (.st 2 (.t 4) (.t 26))⟩, ⟨(some 5), none, (.mv (.t 27))⟩]) .ret))))
def ro18 : List AOp := [(.ld true 2 (.t 4)), (.mv (.t 5))]
theorem fun18 : Fun Try.prog 18 28 ac18 ro18 := ⟨Try.f18, _, Try.func18, by kernel_rfl, rfl, rfl, by kernel_rfl, by kernel_rfl, by decide⟩
def ac43 : AC := (.seq (.reg [⟨(some 4), none, (.mv (.c (.int .i64 0)))⟩]) (.seq (.reg [⟨(some 5), none, (.ld false 1 (.t 1))⟩, ⟨(some 6), none, (.ld true 2 (.t 2))⟩, ⟨(some 7), none, (.mv (.t 0))⟩, ⟨(some 8), none, (.call 44 [(.t 5), (.t 6), (.t 7)])⟩, ⟨(some 4), none, (.mv (.t 8))⟩]) .ret))
def ro43 : List AOp := [(.mv (.t 4))]
theorem fun43 : Fun Try.prog 43 9 ac43 ro43 := ⟨Try.f43, _, Try.func43, by kernel_rfl, rfl, rfl, by kernel_rfl, by kernel_rfl, by decide⟩

def y0 (xs : List CP) : Int := yr xs 0
def y1 (xs : List CP) : Int := yr xs (xs.length - 1)
def calL (xs : List CP) (m : Ms) : List Int := tab (y0 xs) (wgt xs m) (nY (y0 xs) (y1 xs))
def calOK (xs : List CP) (m : Ms) : Prop := (Good xs ∧ okM m) ∧ mkOK (y0 xs) (calL xs m)
theorem y_b {xs : List CP} (hG : Good xs) : (-20000 ≤ y0 xs ∧ y0 xs ≤ 2100) ∧ (-20000 ≤ y1 xs ∧ y1 xs ≤ 2100) ∧ nY (y0 xs) (y1 xs) ≤ 400 := by
  have h2 := hG.1
  have a := (hG.at (i := 0) (by omega)).1
  have b := (hG.at (i := xs.length - 1) (by omega)).1
  have c : yr xs (xs.length - 1) - yr xs 0 < 400 := hG.2.2
  unfold y0 y1 nY
  omega
theorem con43 (nn : Bool) (xs : List CP) (hG : Good xs) (m : Ms) (hm : okM m) (y : Int) : Con Try.prog 43 true [.int .i64 y, .vp [.vw nn (xs.map cpRow)], .vp (msRow m)] (.int .i64 (wgt xs m y)) [] := by
  refine con_of_wp mixed fun43 (by simp) [] plain_nil ?_
  unfold ac43 ro43
  simp only [zipT]
  have c1 := con44 nn xs hG m hm y
  unfold msRow at *
  repeat (first | refine wG_call c1 rfl rfl ?_ | (first
    | refine wC_a rfl ?_
    | refine q_s rfl ?_
    | refine q_b rfl ?_
    | refine wG_nil ?_
    | refine wG_g rfl ?_
    | refine wG_pure (o_len_vwm rfl) ?_
    | refine wG_pure (o_not_d rfl) ?_
    | refine wG_p rfl (by first | exact rfl | omega) ?_
    | refine wG_pure (o_not rfl) ?_
    | refine wG_pure (e_ia_vw0 rfl rfl (by omega) rfl) ?_
    | refine wG_pure (e_ia_vwp rfl rfl (by omega) rfl) ?_
    | refine wG_pure (e_ia_vwm rfl rfl (by omega) (by omega) rfl) ?_
    | refine wG_pure (e_ia_vwi rfl rfl (by omega) rfl) ?_
    | refine wG_pure (e_ia_vwn rfl rfl (by omega) (by omega) rfl) ?_
    | refine wG_n rfl rfl ?_
    | refine wG_u rfl rfl ?_
    | refine wG_new (o_mks rfl rfl (by omega) (by decide)) ?_))
  exact ret_intE (.inr rfl) ⟨_, retV_mv rfl, rfl⟩
theorem con18_all (nn : Bool) (xs : List CP) (hlen : xs.length ≤ 1048576) (m : Ms) (v : AV) (rs : List Nat) (objs : List Ab.Rows) (hv : v.nvf = true) (hp : PlainObjs objs)
    (hend : (calOK xs m → v = dYes (mkO (y0 xs) (calL xs m)) ∧ rs = [3] ∧ objs = [(mkO (y0 xs) (calL xs m)).ws.map iRow]) ∧ (¬ calOK xs m → v = dNo ∧ rs = [] ∧ objs = [])) :
    Con Try.prog 18 true [.vw nn (xs.map cpRow), .agg (msRow m)] v objs := by
  classical
  suffices key : Con Try.prog 18 v.nvf [.vw nn (xs.map cpRow), .agg (msRow m)] v objs by rwa [hv] at key
  refine con_of_wp mixed fun18 (by simp) rs hp ?_
  unfold ac18 ro18
  simp only [zipT]
  have c1 := con39 nn xs hlen
  have c2 := con40 m
  by_cases hA : Good xs
  · rw [decide_eq_true hA] at c1
    by_cases hB : okM m
    · rw [decide_eq_true hB] at c2
      have hy := y_b hA
      have c3 := con41 nn xs hA
      have ct := fun v rs objs hv hp hend => con42_all (y0 xs) (y1 xs) (by omega) (by omega) (by omega) (wgt xs m) (fun y _ _ => con43 nn xs hA m hB y) (fun _ _ => rfl) rfl (fun _ => rfl) (fun _ => rfl) (B := 20000000) (by decide) (fun i _ => wgt_b hA hB _) v rs objs hv hp hend
      have hcl : calL xs m = tab (y0 xs) (wgt xs m) (nY (y0 xs) (y1 xs)) := rfl
      rw [← hcl] at ct
      change Con _ _ _ _ (.tup [.int .i64 (y0 xs), .int .i64 (y1 xs)]) _ at c3
      by_cases hm : mkOK (y0 xs) (calL xs m)
      · obtain ⟨rfl, rfl, rfl⟩ := hend.1 ⟨⟨hA, hB⟩, hm⟩
        have c4 := ct (dYes (mkO (y0 xs) (calL xs m))) [2] [(mkO (y0 xs) (calL xs m)).ws.map iRow] rfl (plain_map iRow_plain _) ⟨fun _ => ⟨rfl, rfl, rfl⟩, fun h => absurd hm h⟩
        unfold msRow dYes at *
        repeat (first | refine wG_call c1 rfl rfl ?_ | refine wG_call c2 rfl rfl ?_ | refine wG_call c3 rfl rfl ?_ | refine wG_call1 c4 (ag_int rfl (ag_int rfl (ag_any rfl ag_nil))) rfl ?_ | (first
    | refine wC_a rfl ?_
    | refine q_s rfl ?_
    | refine q_b rfl ?_
    | refine wG_nil ?_
    | refine wG_g rfl ?_
    | refine wG_pure (o_len_vwm rfl) ?_
    | refine wG_pure (o_not_d rfl) ?_
    | refine wG_p rfl (by first | exact rfl | omega) ?_
    | refine wG_pure (o_not rfl) ?_
    | refine wG_pure (e_ia_vw0 rfl rfl (by omega) rfl) ?_
    | refine wG_pure (e_ia_vwp rfl rfl (by omega) rfl) ?_
    | refine wG_pure (e_ia_vwm rfl rfl (by omega) (by omega) rfl) ?_
    | refine wG_pure (e_ia_vwi rfl rfl (by omega) rfl) ?_
    | refine wG_pure (e_ia_vwn rfl rfl (by omega) (by omega) rfl) ?_
    | refine wG_n rfl rfl ?_
    | refine wG_u rfl rfl ?_
    | refine wG_new (o_mks rfl rfl (by omega) (by decide)) ?_))
        exact ret_db (.inr rfl) rfl (retV_ldt rfl rfl rfl rfl rfl) (retV_mv rfl) rfl
      · obtain ⟨rfl, rfl, rfl⟩ := hend.2 (fun h => hm h.2)
        have c4 := ct dNo [] [] rfl plain_nil ⟨fun h => absurd h hm, fun _ => ⟨rfl, rfl, rfl⟩⟩
        unfold msRow dNo at *
        repeat (first | refine wG_call c1 rfl rfl ?_ | refine wG_call c2 rfl rfl ?_ | refine wG_call c3 rfl rfl ?_ | refine wG_call c4 (ag_int rfl (ag_int rfl (ag_any rfl ag_nil))) rfl ?_ | (first
    | refine wC_a rfl ?_
    | refine q_s rfl ?_
    | refine q_b rfl ?_
    | refine wG_nil ?_
    | refine wG_g rfl ?_
    | refine wG_pure (o_len_vwm rfl) ?_
    | refine wG_pure (o_not_d rfl) ?_
    | refine wG_p rfl (by first | exact rfl | omega) ?_
    | refine wG_pure (o_not rfl) ?_
    | refine wG_pure (e_ia_vw0 rfl rfl (by omega) rfl) ?_
    | refine wG_pure (e_ia_vwp rfl rfl (by omega) rfl) ?_
    | refine wG_pure (e_ia_vwm rfl rfl (by omega) (by omega) rfl) ?_
    | refine wG_pure (e_ia_vwi rfl rfl (by omega) rfl) ?_
    | refine wG_pure (e_ia_vwn rfl rfl (by omega) (by omega) rfl) ?_
    | refine wG_n rfl rfl ?_
    | refine wG_u rfl rfl ?_
    | refine wG_new (o_mks rfl rfl (by omega) (by decide)) ?_))
        exact ret_d0 (.inr rfl) rfl (retV_ldt rfl rfl rfl rfl rfl) (retV_mv rfl)
    · rw [decide_eq_false hB] at c2
      obtain ⟨rfl, rfl, rfl⟩ := hend.2 (fun h => hB h.1.2)
      unfold msRow dNo at *
      repeat (first | refine wG_call c1 rfl rfl ?_ | refine wG_call c2 rfl rfl ?_ | (first
    | refine wC_a rfl ?_
    | refine q_s rfl ?_
    | refine q_b rfl ?_
    | refine wG_nil ?_
    | refine wG_g rfl ?_
    | refine wG_pure (o_len_vwm rfl) ?_
    | refine wG_pure (o_not_d rfl) ?_
    | refine wG_p rfl (by first | exact rfl | omega) ?_
    | refine wG_pure (o_not rfl) ?_
    | refine wG_pure (e_ia_vw0 rfl rfl (by omega) rfl) ?_
    | refine wG_pure (e_ia_vwp rfl rfl (by omega) rfl) ?_
    | refine wG_pure (e_ia_vwm rfl rfl (by omega) (by omega) rfl) ?_
    | refine wG_pure (e_ia_vwi rfl rfl (by omega) rfl) ?_
    | refine wG_pure (e_ia_vwn rfl rfl (by omega) (by omega) rfl) ?_
    | refine wG_n rfl rfl ?_
    | refine wG_u rfl rfl ?_
    | refine wG_new (o_mks rfl rfl (by omega) (by decide)) ?_))
      exact ret_d0 (.inr rfl) rfl (retV_ldt rfl rfl rfl rfl rfl) (retV_mv rfl)
  · rw [decide_eq_false hA] at c1
    obtain ⟨rfl, rfl, rfl⟩ := hend.2 (fun h => hA h.1.1)
    unfold msRow dNo at *
    repeat (first | refine wG_call c1 rfl rfl ?_ | (first
    | refine wC_a rfl ?_
    | refine q_s rfl ?_
    | refine q_b rfl ?_
    | refine wG_nil ?_
    | refine wG_g rfl ?_
    | refine wG_pure (o_len_vwm rfl) ?_
    | refine wG_pure (o_not_d rfl) ?_
    | refine wG_p rfl (by first | exact rfl | omega) ?_
    | refine wG_pure (o_not rfl) ?_
    | refine wG_pure (e_ia_vw0 rfl rfl (by omega) rfl) ?_
    | refine wG_pure (e_ia_vwp rfl rfl (by omega) rfl) ?_
    | refine wG_pure (e_ia_vwm rfl rfl (by omega) (by omega) rfl) ?_
    | refine wG_pure (e_ia_vwi rfl rfl (by omega) rfl) ?_
    | refine wG_pure (e_ia_vwn rfl rfl (by omega) (by omega) rfl) ?_
    | refine wG_n rfl rfl ?_
    | refine wG_u rfl rfl ?_
    | refine wG_new (o_mks rfl rfl (by omega) (by decide)) ?_))
    exact ret_d0 (.inr rfl) rfl (retV_ldt rfl rfl rfl rfl rfl) (retV_mv rfl)

theorem con15_all (nn : Bool) (xs : List CP) (hlen : xs.length ≤ 1048576) (m : Ms) (v : AV) (rs : List Nat) (objs : List Ab.Rows) (hv : v.nvf = true) (hp : PlainObjs objs)
    (hend : (calOK xs m → v = dYes (mkO (y0 xs) (calL xs m)) ∧ rs = [3] ∧ objs = [(mkO (y0 xs) (calL xs m)).ws.map iRow]) ∧ (¬ calOK xs m → v = dNo ∧ rs = [] ∧ objs = [])) :
    Con Try.prog 15 true [.vw nn (xs.map cpRow), .agg (msRow m)] v objs := by
  classical
  suffices key : Con Try.prog 15 v.nvf [.vw nn (xs.map cpRow), .agg (msRow m)] v objs by rwa [hv] at key
  refine con_of_wp mixed fun15 (by simp) rs hp ?_
  unfold ac15 ro15
  simp only [zipT]
  have c1 := con35 nn xs hlen
  have c2 := con36 m
  by_cases hA : Good xs
  · rw [decide_eq_true hA] at c1
    by_cases hB : okM m
    · rw [decide_eq_true hB] at c2
      have h2 := hA.1
      have hy := y_b hA
      have hbd : bnd (calL xs m) 20000000 := tab_bnd (fun i _ => wgt_b hA hB _)
      have hlc : (calL xs m).length = nY (y0 xs) (y1 xs) := tab_len _ _ _
      have cw := fun y => con37 nn xs hA m hB y
      have cy := fun h => con28_yes true (y0 xs) (calL xs m) (by omega) hbd (by decide) (by omega) (by omega) h
      have cn := fun h => con28_no true (y0 xs) (calL xs m) (by omega) hbd (by decide) (by omega) (by omega) h
      have hok : calOK xs m ↔ mkOK (y0 xs) (calL xs m) := ⟨fun h => h.2, fun h => ⟨⟨hA, hB⟩, h⟩⟩
      have hcl : calL xs m = tab (y0 xs) (wgt xs m) (nY (y0 xs) (y1 xs)) := rfl
      have hN : nY (y0 xs) (y1 xs) = (y1 xs - y0 xs + 1).toNat := rfl
      have e0 : (xs.getD 0 default).y = y0 xs := rfl
      have e1 : (xs.getD (xs.length - 1) default).y = y1 xs := rfl
      rw [hcl] at hend hbd hlc cy cn hok
      generalize nY (y0 xs) (y1 xs) = N at *
      unfold msRow dYes dNo at *
      repeat (first | refine wG_call c1 rfl rfl ?_ | refine wG_call c2 rfl rfl ?_ | (first
    | refine wC_a rfl ?_
    | refine q_s rfl ?_
    | refine q_b rfl ?_
    | refine wG_nil ?_
    | refine wG_g rfl ?_
    | refine wG_pure (o_len_vwm rfl) ?_
    | refine wG_pure (o_not_d rfl) ?_
    | refine wG_p rfl (by first | exact rfl | omega) ?_
    | refine wG_pure (o_not rfl) ?_
    | refine wG_pure (e_ia_vw0 rfl rfl (by omega) rfl) ?_
    | refine wG_pure (e_ia_vwp rfl rfl (by omega) rfl) ?_
    | refine wG_pure (e_ia_vwm rfl rfl (by omega) (by omega) rfl) ?_
    | refine wG_pure (e_ia_vwi rfl rfl (by omega) rfl) ?_
    | refine wG_pure (e_ia_vwn rfl rfl (by omega) (by omega) rfl) ?_
    | refine wG_n rfl rfl ?_
    | refine wG_u rfl rfl ?_
    | refine wG_new (o_mks rfl rfl (by omega) (by decide)) ?_))
      refine wC_loopR Nat (fun k => ⟨[(0, .vw nn (xs.map cpRow)), (3, .pt 0 0 0), (4, .pt 1 0 0), (6, .sl 2 1 0 (tab (y0 xs) (wgt xs m) k).length), (7, .int .i64 (y0 xs + (k : Int)))], [(2, some ((tab (y0 xs) (wgt xs m) k).map iRow)), (1, some [[.int .i64 0, .nilS]]), (0, some [[.int .i64 m.a, .int .i64 m.e]])], 3⟩) (fun k => k ≤ N) (fun k => N - k) 0 (Nat.zero_le _) ⟨[0, 1, 2], ?_⟩ ?_
      · exact ⟨⟨⟨rfl, rfl⟩, ⟨rfl, rfl⟩, ⟨rfl, rfl⟩, ⟨rfl, rfl⟩, ⟨by simp [lk, rn, y0, yr], rfl⟩, trivial⟩, ⟨⟨⟨_, rfl, rfl⟩, (by show 2 < 3; decide), ltrI _ _⟩, ⟨⟨_, rfl, rfl⟩, (by show 1 < 3; decide), by simp [AV.ltr]⟩, ⟨⟨_, rfl, rfl⟩, (by show 0 < 3; decide), by simp [AV.ltr]⟩, trivial⟩, rfl, by decide⟩
      intro k hk
      have hl := tab_len (y0 xs) (wgt xs m) k
      repeat (first
    | refine wC_a rfl ?_
    | refine q_s rfl ?_
    | refine q_b rfl ?_
    | refine wG_nil ?_
    | refine wG_g rfl ?_
    | refine wG_pure (o_len_vwm rfl) ?_
    | refine wG_pure (o_not_d rfl) ?_
    | refine wG_p rfl (by first | exact rfl | omega) ?_
    | refine wG_pure (o_not rfl) ?_
    | refine wG_pure (e_ia_vw0 rfl rfl (by omega) rfl) ?_
    | refine wG_pure (e_ia_vwp rfl rfl (by omega) rfl) ?_
    | refine wG_pure (e_ia_vwm rfl rfl (by omega) (by omega) rfl) ?_
    | refine wG_pure (e_ia_vwi rfl rfl (by omega) rfl) ?_
    | refine wG_pure (e_ia_vwn rfl rfl (by omega) (by omega) rfl) ?_
    | refine wG_n rfl rfl ?_
    | refine wG_u rfl rfl ?_
    | refine wG_new (o_mks rfl rfl (by omega) (by decide)) ?_)
      rw [e1]
      refine wC_cond_d rfl (fun h3 => ?_) (fun h3 => ?_)
      · have hk3 : k + 1 ≤ N := by omega
        have c := cw (y0 xs + (k : Int))
        repeat (first | refine wG_call c rfl rfl ?_ | refine wG_app rfl rfl (by simp) (rows_sl rfl rfl rfl) (by simp) (by simp; omega) (by decide) ?_ | (first
    | refine wC_a rfl ?_
    | refine q_s rfl ?_
    | refine q_b rfl ?_
    | refine wG_nil ?_
    | refine wG_g rfl ?_
    | refine wG_pure (o_len_vwm rfl) ?_
    | refine wG_pure (o_not_d rfl) ?_
    | refine wG_p rfl (by first | exact rfl | omega) ?_
    | refine wG_pure (o_not rfl) ?_
    | refine wG_pure (e_ia_vw0 rfl rfl (by omega) rfl) ?_
    | refine wG_pure (e_ia_vwp rfl rfl (by omega) rfl) ?_
    | refine wG_pure (e_ia_vwm rfl rfl (by omega) (by omega) rfl) ?_
    | refine wG_pure (e_ia_vwi rfl rfl (by omega) rfl) ?_
    | refine wG_pure (e_ia_vwn rfl rfl (by omega) (by omega) rfl) ?_
    | refine wG_n rfl rfl ?_
    | refine wG_u rfl rfl ?_
    | refine wG_new (o_mks rfl rfl (by omega) (by decide)) ?_))
        refine ⟨k + 1, hk3, by omega, [0, 1, 4], ?_⟩
        simp only [tab]
        refine ⟨⟨⟨rfl, rfl⟩, ⟨rfl, rfl⟩, ⟨rfl, rfl⟩, ⟨by simp [lk, rn, πof], rfl⟩, ⟨by simp [lk, rn]; omega, rfl⟩, trivial⟩, ⟨⟨⟨_, rfl, ?_⟩, (by show 2 < 3; decide), ltrI _ _⟩, ⟨⟨_, rfl, rfl⟩, (by show 1 < 3; decide), by simp [AV.ltr]⟩, ⟨⟨_, rfl, rfl⟩, (by show 0 < 3; decide), by simp [AV.ltr]⟩, trivial⟩, rfl, by decide⟩
        rw [← rn_rows (rowsP _), List.map_append]; rfl
      · have hk3 : k = N := by omega
        subst hk3
        by_cases hm : mkOK (y0 xs) (tab (y0 xs) (wgt xs m) k)
        · obtain ⟨rfl, rfl, rfl⟩ := hend.1 (hok.2 hm)
          have c := cy hm
          repeat (first | refine wG_call1 c (ag_int rfl (ag_sl rfl rfl rfl iRow_plain ag_nil)) rfl ?_ | (first
    | refine wC_a rfl ?_
    | refine q_s rfl ?_
    | refine q_b rfl ?_
    | refine wG_nil ?_
    | refine wG_g rfl ?_
    | refine wG_pure (o_len_vwm rfl) ?_
    | refine wG_pure (o_not_d rfl) ?_
    | refine wG_p rfl (by first | exact rfl | omega) ?_
    | refine wG_pure (o_not rfl) ?_
    | refine wG_pure (e_ia_vw0 rfl rfl (by omega) rfl) ?_
    | refine wG_pure (e_ia_vwp rfl rfl (by omega) rfl) ?_
    | refine wG_pure (e_ia_vwm rfl rfl (by omega) (by omega) rfl) ?_
    | refine wG_pure (e_ia_vwi rfl rfl (by omega) rfl) ?_
    | refine wG_pure (e_ia_vwn rfl rfl (by omega) (by omega) rfl) ?_
    | refine wG_n rfl rfl ?_
    | refine wG_u rfl rfl ?_
    | refine wG_new (o_mks rfl rfl (by omega) (by decide)) ?_))
          exact ret_db (.inr rfl) rfl (retV_ldt rfl rfl rfl rfl rfl) (retV_mv rfl) rfl
        · obtain ⟨rfl, rfl, rfl⟩ := hend.2 (fun h => hm (hok.1 h))
          have c := cn hm
          repeat (first | refine wG_call c (ag_int rfl (ag_sl rfl rfl rfl iRow_plain ag_nil)) rfl ?_ | (first
    | refine wC_a rfl ?_
    | refine q_s rfl ?_
    | refine q_b rfl ?_
    | refine wG_nil ?_
    | refine wG_g rfl ?_
    | refine wG_pure (o_len_vwm rfl) ?_
    | refine wG_pure (o_not_d rfl) ?_
    | refine wG_p rfl (by first | exact rfl | omega) ?_
    | refine wG_pure (o_not rfl) ?_
    | refine wG_pure (e_ia_vw0 rfl rfl (by omega) rfl) ?_
    | refine wG_pure (e_ia_vwp rfl rfl (by omega) rfl) ?_
    | refine wG_pure (e_ia_vwm rfl rfl (by omega) (by omega) rfl) ?_
    | refine wG_pure (e_ia_vwi rfl rfl (by omega) rfl) ?_
    | refine wG_pure (e_ia_vwn rfl rfl (by omega) (by omega) rfl) ?_
    | refine wG_n rfl rfl ?_
    | refine wG_u rfl rfl ?_
    | refine wG_new (o_mks rfl rfl (by omega) (by decide)) ?_))
          exact ret_d0 (.inr rfl) rfl (retV_ldt rfl rfl rfl rfl rfl) (retV_mv rfl)
    · rw [decide_eq_false hB] at c2
      obtain ⟨rfl, rfl, rfl⟩ := hend.2 (fun h => hB h.1.2)
      unfold msRow dNo at *
      repeat (first | refine wG_call c1 rfl rfl ?_ | refine wG_call c2 rfl rfl ?_ | (first
    | refine wC_a rfl ?_
    | refine q_s rfl ?_
    | refine q_b rfl ?_
    | refine wG_nil ?_
    | refine wG_g rfl ?_
    | refine wG_pure (o_len_vwm rfl) ?_
    | refine wG_pure (o_not_d rfl) ?_
    | refine wG_p rfl (by first | exact rfl | omega) ?_
    | refine wG_pure (o_not rfl) ?_
    | refine wG_pure (e_ia_vw0 rfl rfl (by omega) rfl) ?_
    | refine wG_pure (e_ia_vwp rfl rfl (by omega) rfl) ?_
    | refine wG_pure (e_ia_vwm rfl rfl (by omega) (by omega) rfl) ?_
    | refine wG_pure (e_ia_vwi rfl rfl (by omega) rfl) ?_
    | refine wG_pure (e_ia_vwn rfl rfl (by omega) (by omega) rfl) ?_
    | refine wG_n rfl rfl ?_
    | refine wG_u rfl rfl ?_
    | refine wG_new (o_mks rfl rfl (by omega) (by decide)) ?_))
      exact ret_d0 (.inr rfl) rfl (retV_ldt rfl rfl rfl rfl rfl) (retV_mv rfl)
  · rw [decide_eq_false hA] at c1
    obtain ⟨rfl, rfl, rfl⟩ := hend.2 (fun h => hA h.1.1)
    unfold msRow dNo at *
    repeat (first | refine wG_call c1 rfl rfl ?_ | (first
    | refine wC_a rfl ?_
    | refine q_s rfl ?_
    | refine q_b rfl ?_
    | refine wG_nil ?_
    | refine wG_g rfl ?_
    | refine wG_pure (o_len_vwm rfl) ?_
    | refine wG_pure (o_not_d rfl) ?_
    | refine wG_p rfl (by first | exact rfl | omega) ?_
    | refine wG_pure (o_not rfl) ?_
    | refine wG_pure (e_ia_vw0 rfl rfl (by omega) rfl) ?_
    | refine wG_pure (e_ia_vwp rfl rfl (by omega) rfl) ?_
    | refine wG_pure (e_ia_vwm rfl rfl (by omega) (by omega) rfl) ?_
    | refine wG_pure (e_ia_vwi rfl rfl (by omega) rfl) ?_
    | refine wG_pure (e_ia_vwn rfl rfl (by omega) (by omega) rfl) ?_
    | refine wG_n rfl rfl ?_
    | refine wG_u rfl rfl ?_
    | refine wG_new (o_mks rfl rfl (by omega) (by decide)) ?_))
    exact ret_d0 (.inr rfl) rfl (retV_ldt rfl rfl rfl rfl rfl) (retV_mv rfl)
theorem con15_yes (nn : Bool) (xs : List CP) (hlen : xs.length ≤ 1048576) (m : Ms) (h : calOK xs m) : Con Try.prog 15 true [.vw nn (xs.map cpRow), .agg (msRow m)] (dYes (mkO (y0 xs) (calL xs m))) [(mkO (y0 xs) (calL xs m)).ws.map iRow] :=
  con15_all nn xs hlen m _ [3] _ rfl (plain_map iRow_plain _) ⟨fun _ => ⟨rfl, rfl, rfl⟩, fun hn => absurd h hn⟩
theorem con15_no (nn : Bool) (xs : List CP) (hlen : xs.length ≤ 1048576) (m : Ms) (h : ¬ calOK xs m) : Con Try.prog 15 true [.vw nn (xs.map cpRow), .agg (msRow m)] dNo [] :=
  con15_all nn xs hlen m _ [] _ rfl plain_nil ⟨fun hy => absurd hy h, fun _ => ⟨rfl, rfl, rfl⟩⟩
theorem con18_yes (nn : Bool) (xs : List CP) (hlen : xs.length ≤ 1048576) (m : Ms) (h : calOK xs m) : Con Try.prog 18 true [.vw nn (xs.map cpRow), .agg (msRow m)] (dYes (mkO (y0 xs) (calL xs m))) [(mkO (y0 xs) (calL xs m)).ws.map iRow] :=
  con18_all nn xs hlen m _ [3] _ rfl (plain_map iRow_plain _) ⟨fun _ => ⟨rfl, rfl, rfl⟩, fun hn => absurd h hn⟩
theorem con18_no (nn : Bool) (xs : List CP) (hlen : xs.length ≤ 1048576) (m : Ms) (h : ¬ calOK xs m) : Con Try.prog 18 true [.vw nn (xs.map cpRow), .agg (msRow m)] dNo [] :=
  con18_all nn xs hlen m _ [] _ rfl plain_nil ⟨fun hy => absurd hy h, fun _ => ⟨rfl, rfl, rfl⟩⟩
end Go.Proofs.Ytkkcplcgafndgaa.Cal
