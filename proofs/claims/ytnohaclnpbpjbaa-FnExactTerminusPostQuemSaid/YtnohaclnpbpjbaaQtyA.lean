/- Quantiles and shortest intervals of a distribution: both sides. -/
import Derived.Test.YtnohaclnpbpjbaaDwaA
import Derived.Test.YtnohaclnpbpjbaaAb1
namespace Go.Proofs.Ytnohaclnpbpjbaa.Dst
open Go Go.Proofs.Ytnohaclnpbpjbaa.Ab Go.Proofs.Ytnohaclnpbpjbaa.Il
attribute [local irreducible] wpO wpC wpDr wpQ wpG wpE stepA seqQ blkQ Ret ev
set_option maxRecDepth 10000
set_option maxHeartbeats 4000000
set_option linter.unusedSimpArgs false
set_option linter.unusedVariables false
def ac60 : AC := (.seq (.reg [⟨(some 3), none, (.box 2 true (.t 0))⟩, ⟨(some 6), none, (.mv (.c (.int .i64 0)))⟩, ⟨(some 7), none, (.mv (.c (.bool false)))⟩]) (.seq (.seq (.reg [⟨(some 11), none, (.ld true 2 (.t 3))⟩, ⟨(some 12), none, (.call 48 [(.t 11)])⟩, ⟨(some 13), none, (.un .not (.t 12))⟩, ⟨(some 14), none, (.mv (.t 13))⟩, ⟨(some 15), (some (14, false)), (.mv (.t 1))⟩, ⟨(some 16), (some (14, false)), (.mv (.t 2))⟩, ⟨(some 17), (some (14, false)), (.call 93 [(.t 15), (.t 16)])⟩, ⟨(some 18), (some (14, false)), (.un .not (.t 17))⟩, ⟨(some 19), none, (.pick (.t 14) (.c (.bool true)) (.t 18))⟩]) (.cond (.t 19) (.seq (.reg [⟨(some 6), none, (.mv (.c (.int .i64 0)))⟩, ⟨(some 7), none, (.mv (.c (.bool false)))⟩]) .ret) .skip)) (.seq (.reg [⟨(some 20), none, (.fa 1 (.t 3))⟩, ⟨(some 21), none, (.ld false 1 (.t 20))⟩, ⟨(some 22), none, (.call 49 [(.t 21)])⟩, ⟨(some 8), none, (.mv (.t 22))⟩]) (.seq (.reg [⟨(some 9), none, (.mv (.c (.int .i64 0)))⟩]) (.seq (.reg [⟨(some 10), none, (.mv (.c (.int .i64 0)))⟩]) (.blk 0 (.loop (.blk 1 (.seq (.reg [⟨(some 23), none, (.mv (.t 9))⟩, ⟨(some 24), none, (.fa 1 (.t 3))⟩, ⟨(some 25), none, (.ld false 1 (.t 24))⟩, ⟨(some 26), none, (.mv (.t 10))⟩, ⟨(some 27), none, (.ia 1 (.t 25) (.t 26))⟩, ⟨(some 28), none, (.ld false 1 (.t 27))⟩, ⟨(some 29), none, (.bin .add (.t 23) (.t 28))⟩, ⟨(some 9), none, (.mv (.t 29))⟩]) (.seq (.seq (.reg [⟨(some 30), none, (.mv (.t 9))⟩, ⟨(some 31), none, (.mv (.t 2))⟩, ⟨(some 32), none, (.bin .mul (.t 30) (.t 31))⟩, ⟨(some 33), none, (.mv (.t 1))⟩, ⟨(some 34), none, (.mv (.t 8))⟩, ⟨(some 35), none, (.bin .mul (.t 33) (.t 34))⟩, ⟨(some 36), none, (.bin .geq (.t 32) (.t 35))⟩]) (.cond (.t 36) (.seq (.reg [⟨(some 37), none, (.fa 0 (.t 3))⟩, ⟨(some 38), none, (.ld false 1 (.t 37))⟩, ⟨(some 39), none, (.mv (.t 10))⟩, ⟨(some 40), none, (.bin .add (.t 38) (.t 39))⟩, ⟨(some 6), none, (.mv (.t 40))⟩, ⟨(some 7), none, (.mv (.c (.bool true)))⟩]) .ret) .skip)) (.reg [⟨(some 41), none, (.mv (.t 10))⟩, ⟨(some 42), none, (.bin .add (.t 41) (.c (.int .i64 1)))⟩, ⟨(some 10), none, (.mv (.t 42))⟩])))))))))))
def ro60 : List AOp := [(.mv (.t 6)), (.mv (.t 7))]
theorem fun60 : Fun Try.prog 60 43 ac60 ro60 := ⟨Try.f60, _, Try.func60, by kernel_rfl, rfl, rfl, by kernel_rfl, by kernel_rfl, by decide⟩
def ac61 : AC := (.seq (.reg [⟨(some 3), none, (.box 2 true (.t 0))⟩, ⟨(some 6), none, (.mv (.c (.int .i64 0)))⟩, ⟨(some 7), none, (.mv (.c (.bool false)))⟩]) (.seq (.seq (.reg [⟨(some 11), none, (.ld true 2 (.t 3))⟩, ⟨(some 12), none, (.call 43 [(.t 11)])⟩, ⟨(some 13), none, (.un .not (.t 12))⟩, ⟨(some 14), none, (.mv (.t 13))⟩, ⟨(some 15), (some (14, false)), (.mv (.t 1))⟩, ⟨(some 16), (some (14, false)), (.mv (.t 2))⟩, ⟨(some 17), (some (14, false)), (.call 94 [(.t 15), (.t 16)])⟩, ⟨(some 18), (some (14, false)), (.un .not (.t 17))⟩, ⟨(some 19), none, (.pick (.t 14) (.c (.bool true)) (.t 18))⟩]) (.cond (.t 19) (.seq (.reg [⟨(some 6), none, (.mv (.c (.int .i64 0)))⟩, ⟨(some 7), none, (.mv (.c (.bool false)))⟩]) .ret) .skip)) (.seq (.reg [⟨(some 8), none, (.mv (.c (.int .i64 0)))⟩]) (.seq (.seq (.reg [⟨(some 20), none, (.fa 1 (.t 3))⟩, ⟨(some 21), none, (.ld false 1 (.t 20))⟩, ⟨(some 22), none, (.len (.t 21))⟩, ⟨(some 23), none, (.mv (.c (.int .i64 0)))⟩]) (.blk 0 (.loop (.seq (.reg [⟨(some 24), none, (.bin .lss (.t 23) (.t 22))⟩]) (.seq (.cond (.t 24) .skip (.exit 0)) (.seq (.blk 1 (.seq (.reg [⟨(some 25), none, (.mv (.t 23))⟩, ⟨(some 26), none, (.ia 1 (.t 21) (.t 23))⟩, ⟨(some 27), none, (.ld false 1 (.t 26))⟩, ⟨(some 9), none, (.mv (.t 25))⟩, ⟨(some 10), none, (.mv (.t 27))⟩]) (.seq (.reg [⟨(some 28), none, (.mv (.t 8))⟩, ⟨(some 29), none, (.mv (.t 10))⟩, ⟨(some 30), none, (.bin .add (.t 28) (.t 29))⟩, ⟨(some 8), none, (.mv (.t 30))⟩]) (.seq (.reg [⟨(some 31), none, (.mv (.t 8))⟩, ⟨(some 32), none, (.mv (.t 2))⟩, ⟨(some 33), none, (.bin .mul (.t 31) (.t 32))⟩, ⟨(some 34), none, (.mv (.t 1))⟩, ⟨(some 35), none, (.ld true 2 (.t 3))⟩, ⟨(some 36), none, (.call 44 [(.t 35)])⟩, ⟨(some 37), none, (.bin .mul (.t 34) (.t 36))⟩, ⟨(some 38), none, (.bin .geq (.t 33) (.t 37))⟩]) (.cond (.t 38) (.seq (.reg [⟨(some 39), none, (.fa 0 (.t 3))⟩, ⟨(some 40), none, (.ld false 1 (.t 39))⟩, ⟨(some 41), none, (.mv (.t 9))⟩, ⟨(some 42), none, (.bin .add (.t 40) (.t 41))⟩, ⟨(some 6), none, (.mv (.t 42))⟩, ⟨(some 7), none, (.mv (.c (.bool true)))⟩]) .ret) .skip))))) (.reg [⟨(some 43), none, (.bin .add (.t 23) (.c (.int .i64 1)))⟩, ⟨(some 23), none, (.mv (.t 43))⟩]))))))) (.seq (.reg [⟨(some 6), none, (.mv (.c (.int .i64 0)))⟩, ⟨(some 7), none, (.mv (.c (.bool false)))⟩]) .ret)))))
def ro61 : List AOp := [(.mv (.t 6)), (.mv (.t 7))]
theorem fun61 : Fun Try.prog 61 44 ac61 ro61 := ⟨Try.f61, _, Try.func61, by kernel_rfl, rfl, rfl, by kernel_rfl, by kernel_rfl, by decide⟩
def ac93 : AC := (.seq (.reg [⟨(some 4), none, (.mv (.c (.bool false)))⟩]) (.seq (.reg [⟨(some 5), none, (.mv (.t 1))⟩, ⟨(some 6), none, (.call 47 [(.t 5), (.c (.int .i64 1)), (.c (.int .i64 1000))])⟩, ⟨(some 7), none, (.mv (.t 6))⟩, ⟨(some 8), (some (7, true)), (.mv (.t 0))⟩, ⟨(some 9), (some (7, true)), (.mv (.t 1))⟩, ⟨(some 10), (some (7, true)), (.call 47 [(.t 8), (.c (.int .i64 1)), (.t 9)])⟩, ⟨(some 11), none, (.pick (.t 7) (.t 10) (.c (.bool false)))⟩, ⟨(some 4), none, (.mv (.t 11))⟩]) .ret))
def ro93 : List AOp := [(.mv (.t 4))]
theorem fun93 : Fun Try.prog 93 12 ac93 ro93 := ⟨Try.f93, _, Try.func93, by kernel_rfl, rfl, rfl, by kernel_rfl, by kernel_rfl, by decide⟩
def ac94 : AC := (.seq (.reg [⟨(some 4), none, (.mv (.c (.bool false)))⟩]) (.seq (.reg [⟨(some 5), none, (.mv (.t 1))⟩, ⟨(some 6), none, (.call 42 [(.t 5), (.c (.int .i64 1)), (.c (.int .i64 1000))])⟩, ⟨(some 7), none, (.mv (.t 6))⟩, ⟨(some 8), (some (7, true)), (.mv (.t 0))⟩, ⟨(some 9), (some (7, true)), (.mv (.t 1))⟩, ⟨(some 10), (some (7, true)), (.call 42 [(.t 8), (.c (.int .i64 1)), (.t 9)])⟩, ⟨(some 11), none, (.pick (.t 7) (.t 10) (.c (.bool false)))⟩, ⟨(some 4), none, (.mv (.t 11))⟩]) .ret))
def ro94 : List AOp := [(.mv (.t 4))]
theorem fun94 : Fun Try.prog 94 12 ac94 ro94 := ⟨Try.f94, _, Try.func94, by kernel_rfl, rfl, rfl, by kernel_rfl, by kernel_rfl, by decide⟩

def frac (num den : Int) : Prop := (1 ≤ den ∧ den ≤ 1000) ∧ (1 ≤ num ∧ num ≤ den)
instance (num den : Int) : Decidable (frac num den) := by unfold frac; infer_instance
theorem con93 (num den : Int) : Con Try.prog 93 true [.int .i64 num, .int .i64 den] (.bool (decide (frac num den))) [] := by
  refine con_of_wp mixed fun93 (by simp) [] plain_nil ?_
  unfold ac93 ro93
  simp only [zipT]
  repeat' (first | refine wG_call (con47 _ _ _) rfl rfl ?_ | (first
    | refine wC_a rfl ?_
    | refine q_s rfl ?_
    | refine q_b rfl ?_
    | refine wG_nil ?_
    | refine wG_g rfl ?_
    | refine wG_pure (o_len_vwm rfl) ?_
    | refine wG_pure (o_not_d rfl) ?_
    | refine wG_p rfl (by first | exact rfl | omega) ?_
    | refine wG_pure (o_not rfl) ?_
    | refine wG_pure (e_ia_vw0 rfl rfl (by omega) rfl) ?_
    | refine wG_pure (e_ia_vwp rfl rfl (by omega) rfl) ?_
    | refine wG_pure (e_ia_vwm rfl rfl (by omega) (by omega) rfl) ?_
    | refine wG_pure (e_ia_vwi rfl rfl (by omega) rfl) ?_
    | refine wG_pure (e_ia_vwn rfl rfl (by omega) (by omega) rfl) ?_
    | refine wG_n rfl rfl ?_
    | refine wG_u rfl rfl ?_
    | refine wG_new (o_mks rfl rfl (by omega) (by decide)) ?_) | (refine wG_gd rfl (fun hgt => ?_) (fun hgf => ?_) <;> (first | simp only [eq_true hgt, decide_true] | simp only [eq_false hgf, decide_false])) | refine wC_cond_d rfl (fun hg => ?_) (fun hg => ?_))
  · exact ret_boolE (.inr rfl) ⟨_, retV_mv rfl, decide_eq_decide.2 ⟨fun h => ⟨‹_›, h⟩, fun h => h.2⟩⟩
  · exact ret_boolE (.inr rfl) ⟨_, retV_mv rfl, Eq.symm (decide_eq_false fun h => ‹¬ (1 ≤ den ∧ den ≤ 1000)› h.1)⟩
theorem con94 (num den : Int) : Con Try.prog 94 true [.int .i64 num, .int .i64 den] (.bool (decide (frac num den))) [] := by
  refine con_of_wp mixed fun94 (by simp) [] plain_nil ?_
  unfold ac94 ro94
  simp only [zipT]
  repeat' (first | refine wG_call (con42 _ _ _) rfl rfl ?_ | (first
    | refine wC_a rfl ?_
    | refine q_s rfl ?_
    | refine q_b rfl ?_
    | refine wG_nil ?_
    | refine wG_g rfl ?_
    | refine wG_pure (o_len_vwm rfl) ?_
    | refine wG_pure (o_not_d rfl) ?_
    | refine wG_p rfl (by first | exact rfl | omega) ?_
    | refine wG_pure (o_not rfl) ?_
    | refine wG_pure (e_ia_vw0 rfl rfl (by omega) rfl) ?_
    | refine wG_pure (e_ia_vwp rfl rfl (by omega) rfl) ?_
    | refine wG_pure (e_ia_vwm rfl rfl (by omega) (by omega) rfl) ?_
    | refine wG_pure (e_ia_vwi rfl rfl (by omega) rfl) ?_
    | refine wG_pure (e_ia_vwn rfl rfl (by omega) (by omega) rfl) ?_
    | refine wG_n rfl rfl ?_
    | refine wG_u rfl rfl ?_
    | refine wG_new (o_mks rfl rfl (by omega) (by decide)) ?_) | (refine wG_gd rfl (fun hgt => ?_) (fun hgf => ?_) <;> (first | simp only [eq_true hgt, decide_true] | simp only [eq_false hgf, decide_false])) | refine wC_cond_d rfl (fun hg => ?_) (fun hg => ?_))
  · exact ret_boolE (.inr rfl) ⟨_, retV_mv rfl, decide_eq_decide.2 ⟨fun h => ⟨‹_›, h⟩, fun h => h.2⟩⟩
  · exact ret_boolE (.inr rfl) ⟨_, retV_mv rfl, Eq.symm (decide_eq_false fun h => ‹¬ (1 ≤ den ∧ den ≤ 1000)› h.1)⟩

theorem mulB {x y X Y : Int} (hx : 0 ≤ x ∧ x ≤ X) (hy : 0 ≤ y ∧ y ≤ Y) : 0 ≤ x * y ∧ x * y ≤ X * Y :=
  ⟨Int.mul_nonneg hx.1 hy.1, Int.mul_le_mul hx.2 hy.2 hy.1 (by omega)⟩
theorem tot_den {t num den : Int} (ht : 0 ≤ t) (h : num ≤ den) : t * den ≥ num * t := by
  rw [Int.mul_comm num t]
  exact Int.mul_le_mul_of_nonneg_left h ht
def qF (ws : List Int) (num den all : Int) : Nat → Nat → Nat
  | 0, i => i
  | f + 1, i => if sm ws (i + 1) * den ≥ num * all then i else qF ws num den all f (i + 1)
def qi (d : Ds) (num den : Int) : Nat := qF d.ws num den (total d) (d.ws.length - 1) 0
theorem qF_stop {ws : List Int} {num den all : Int} (f i : Nat) (h : sm ws (i + 1) * den ≥ num * all) : qF ws num den all f i = i := by
  cases f with
  | zero => rfl
  | succ f => simp only [qF]; rw [if_pos h]
theorem qF_step {ws : List Int} {num den all : Int} {i n : Nat} (hi : i < n - 1) (h : ¬ sm ws (i + 1) * den ≥ num * all) : qF ws num den all (n - 1 - i) i = qF ws num den all (n - 1 - (i + 1)) (i + 1) := by
  rw [show n - 1 - i = (n - 1 - (i + 1)) + 1 by omega]
  simp only [qF]
  rw [if_neg h]
theorem sm_60 {d : Ds} (hG : GoodD d) {i : Nat} (h : i ≤ d.ws.length) : 0 ≤ sm d.ws i ∧ sm d.ws i ≤ 60000000 := by
  have h1 := sm_b hG.bnd i h
  have h2 := hG.1.2
  omega

def qOK (d : Ds) (num den : Int) : Prop := GoodD d ∧ frac num den
open Classical in
noncomputable def qA (d : Ds) (num den : Int) : Int := if qOK d num den then d.f + qi d num den else 0
open Classical in
theorem con60 (nn : Bool) (d : Ds) (hlen : d.ws.length ≤ 1048576) (num den : Int) : Con Try.prog 60 true [.agg (dRow nn d), .int .i64 num, .int .i64 den] (.tup [.int .i64 (qA d num den), .bool (decide (qOK d num den))]) [] := by
  refine con_of_wp mixed fun60 (by simp) [] plain_nil ?_
  unfold ac60 ro60 qA
  simp only [zipT]
  have c1 := con48 nn d hlen
  have c2 := con93 num den
  by_cases hG : GoodD d
  · rw [decide_eq_true hG] at c1
    by_cases hF : frac num den
    · rw [decide_eq_true hF] at c2
      have hw : qOK d num den := ⟨hG, hF⟩
      rw [if_pos hw, decide_eq_true hw]
      have c4 := con49 nn d.ws (by have := hG.1; omega) hG.bnd (by decide) (by have := hG.1; omega)
      have h60 := hG.1
      have hy := hG.2.1
      have ht := hG.total_b
      have hF1 := hF.1
      have hF2 := hF.2
      have hend : sm d.ws (d.ws.length - 1 + 1) * den ≥ num * total d := by
        rw [show d.ws.length - 1 + 1 = d.ws.length by omega]
        exact tot_den ht.1 hF.2.2
      have hq : qF d.ws num den (total d) (d.ws.length - 1 - 0) 0 = qi d num den := rfl
      have hsm := fun i (h : i ≤ d.ws.length) => sm_60 hG h
      have hbd := fun i (h : i < d.ws.length) => hG.bnd i h
      have htd : total d = sm d.ws d.ws.length := rfl
      rw [← htd] at c4
      generalize total d = all at *
      generalize qi d num den = q at *
      obtain ⟨f, ws⟩ := d
      unfold dRow at *
      simp only at *
      repeat (first | refine wG_call c1 rfl rfl ?_ | refine wG_call c2 rfl rfl ?_ | refine wG_call c4 rfl rfl ?_ | (first
    | refine wC_a rfl ?_
    | refine q_s rfl ?_
    | refine q_b rfl ?_
    | refine wG_nil ?_
    | refine wG_g rfl ?_
    | refine wG_pure (o_len_vwm rfl) ?_
    | refine wG_pure (o_not_d rfl) ?_
    | refine wG_p rfl (by first | exact rfl | omega) ?_
    | refine wG_pure (o_not rfl) ?_
    | refine wG_pure (e_ia_vw0 rfl rfl (by omega) rfl) ?_
    | refine wG_pure (e_ia_vwp rfl rfl (by omega) rfl) ?_
    | refine wG_pure (e_ia_vwm rfl rfl (by omega) (by omega) rfl) ?_
    | refine wG_pure (e_ia_vwi rfl rfl (by omega) rfl) ?_
    | refine wG_pure (e_ia_vwn rfl rfl (by omega) (by omega) rfl) ?_
    | refine wG_n rfl rfl ?_
    | refine wG_u rfl rfl ?_
    | refine wG_new (o_mks rfl rfl (by omega) (by decide)) ?_))
      refine wC_loop Nat (fun i => ⟨[(3, .pt 0 0 0), (1, .int .i64 num), (2, .int .i64 den), (8, .int .i64 all), (9, .int .i64 (sm ws i)), (10, .int .i64 (i : Int))], [(0, some [[.int .i64 f, .vw nn (ws.map iRow)]])], 1⟩) (fun i => i < ws.length ∧ qF ws num den all (ws.length - 1 - i) i = q) (fun i => ws.length - i) 0 ⟨by omega, hq⟩ ?_ (fun _ _ => Nat.zero_le _) ?_
      · simp [LeP, leT, leH, lk, AV.ltr, ltrL, Ab.hg, upd, -List.getD_eq_getElem?_getD, -Int.default_eq_zero]
        rfl
      rintro i ⟨hi, hqi⟩
      have s0 := hsm i (by omega)
      have s1 := hsm (i + 1) (by omega)
      have s2 := hbd i hi
      have m1 := mulB s1 (y := den) (Y := 1000) (by omega)
      have m2 := mulB (x := num) (X := 1000) (by omega) ht
      have es : sm ws (i + 1) = sm ws i + ws.getD i default := rfl
      rw [es] at m1 s1
      repeat' (first | (first
    | refine wC_a rfl ?_
    | refine q_s rfl ?_
    | refine q_b rfl ?_
    | refine wG_nil ?_
    | refine wG_g rfl ?_
    | refine wG_pure (o_len_vwm rfl) ?_
    | refine wG_pure (o_not_d rfl) ?_
    | refine wG_p rfl (by first | exact rfl | omega) ?_
    | refine wG_pure (o_not rfl) ?_
    | refine wG_pure (e_ia_vw0 rfl rfl (by omega) rfl) ?_
    | refine wG_pure (e_ia_vwp rfl rfl (by omega) rfl) ?_
    | refine wG_pure (e_ia_vwm rfl rfl (by omega) (by omega) rfl) ?_
    | refine wG_pure (e_ia_vwi rfl rfl (by omega) rfl) ?_
    | refine wG_pure (e_ia_vwn rfl rfl (by omega) (by omega) rfl) ?_
    | refine wG_n rfl rfl ?_
    | refine wG_u rfl rfl ?_
    | refine wG_new (o_mks rfl rfl (by omega) (by decide)) ?_) | (refine wG_gd rfl (fun hgt => ?_) (fun hgf => ?_) <;> (first | simp only [eq_true hgt, decide_true] | simp only [eq_false hgf, decide_false])) | refine wC_cond_d rfl (fun hg => ?_) (fun hg => ?_))
      · have hq2 : q = i := by rw [← hqi]; exact qF_stop _ _ (by rw [es]; assumption)
        subst hq2
        exact ret_2 (.inr rfl) rfl rfl ⟨_, _, retV_mv rfl, retV_mv rfl, rfl, rfl⟩
      · have hne : ¬ sm ws (i + 1) * den ≥ num * all := by rw [es]; assumption
        have hlt : i < ws.length - 1 := by
          rcases Nat.lt_or_ge i (ws.length - 1) with h | h
          · exact h
          · exfalso
            have : i = ws.length - 1 := by omega
            subst this
            exact hne hend
        refine ⟨i + 1, ⟨by omega, by rw [← qF_step hlt hne]; exact hqi⟩, by omega, ?_⟩
        simp [LeP, leT, leH, lk, AV.ltr, ltrL, Ab.hg, upd, -List.getD_eq_getElem?_getD, -Int.default_eq_zero]
        simp only [sm]
    · rw [decide_eq_false hF] at c2
      have hw : ¬ qOK d num den := fun h => hF h.2
      rw [if_neg hw, decide_eq_false hw]
      unfold dRow at *
      repeat (first | refine wG_call c1 rfl rfl ?_ | refine wG_call c2 rfl rfl ?_ | (first
    | refine wC_a rfl ?_
    | refine q_s rfl ?_
    | refine q_b rfl ?_
    | refine wG_nil ?_
    | refine wG_g rfl ?_
    | refine wG_pure (o_len_vwm rfl) ?_
    | refine wG_pure (o_not_d rfl) ?_
    | refine wG_p rfl (by first | exact rfl | omega) ?_
    | refine wG_pure (o_not rfl) ?_
    | refine wG_pure (e_ia_vw0 rfl rfl (by omega) rfl) ?_
    | refine wG_pure (e_ia_vwp rfl rfl (by omega) rfl) ?_
    | refine wG_pure (e_ia_vwm rfl rfl (by omega) (by omega) rfl) ?_
    | refine wG_pure (e_ia_vwi rfl rfl (by omega) rfl) ?_
    | refine wG_pure (e_ia_vwn rfl rfl (by omega) (by omega) rfl) ?_
    | refine wG_n rfl rfl ?_
    | refine wG_u rfl rfl ?_
    | refine wG_new (o_mks rfl rfl (by omega) (by decide)) ?_))
      exact ret_2 (.inr rfl) rfl rfl ⟨_, _, retV_mv rfl, retV_mv rfl, rfl, rfl⟩
  · rw [decide_eq_false hG] at c1
    have hw : ¬ qOK d num den := fun h => hG h.1
    rw [if_neg hw, decide_eq_false hw]
    unfold dRow at *
    repeat (first | refine wG_call c1 rfl rfl ?_ | (first
    | refine wC_a rfl ?_
    | refine q_s rfl ?_
    | refine q_b rfl ?_
    | refine wG_nil ?_
    | refine wG_g rfl ?_
    | refine wG_pure (o_len_vwm rfl) ?_
    | refine wG_pure (o_not_d rfl) ?_
    | refine wG_p rfl (by first | exact rfl | omega) ?_
    | refine wG_pure (o_not rfl) ?_
    | refine wG_pure (e_ia_vw0 rfl rfl (by omega) rfl) ?_
    | refine wG_pure (e_ia_vwp rfl rfl (by omega) rfl) ?_
    | refine wG_pure (e_ia_vwm rfl rfl (by omega) (by omega) rfl) ?_
    | refine wG_pure (e_ia_vwi rfl rfl (by omega) rfl) ?_
    | refine wG_pure (e_ia_vwn rfl rfl (by omega) (by omega) rfl) ?_
    | refine wG_n rfl rfl ?_
    | refine wG_u rfl rfl ?_
    | refine wG_new (o_mks rfl rfl (by omega) (by decide)) ?_))
    exact ret_2 (.inr rfl) rfl rfl ⟨_, _, retV_mv rfl, retV_mv rfl, rfl, rfl⟩
open Classical in
theorem con61 (nn : Bool) (d : Ds) (hlen : d.ws.length ≤ 1048576) (num den : Int) : Con Try.prog 61 true [.agg (dRow nn d), .int .i64 num, .int .i64 den] (.tup [.int .i64 (qA d num den), .bool (decide (qOK d num den))]) [] := by
  refine con_of_wp mixed fun61 (by simp) [] plain_nil ?_
  unfold ac61 ro61 qA
  simp only [zipT]
  have c1 := con43 nn d hlen
  have c2 := con94 num den
  by_cases hG : GoodD d
  · rw [decide_eq_true hG] at c1
    by_cases hF : frac num den
    · rw [decide_eq_true hF] at c2
      have hw : qOK d num den := ⟨hG, hF⟩
      rw [if_pos hw, decide_eq_true hw]
      have c4 := con44 nn d hG
      have h60 := hG.1
      have hy := hG.2.1
      have ht := hG.total_b
      have hF1 := hF.1
      have hF2 := hF.2
      have hend : sm d.ws (d.ws.length - 1 + 1) * den ≥ num * total d := by
        rw [show d.ws.length - 1 + 1 = d.ws.length by omega]
        exact tot_den ht.1 hF.2.2
      have hq : qF d.ws num den (total d) (d.ws.length - 1 - 0) 0 = qi d num den := rfl
      have hsm := fun i (h : i ≤ d.ws.length) => sm_60 hG h
      have hbd := fun i (h : i < d.ws.length) => hG.bnd i h
      generalize total d = all at *
      generalize qi d num den = q at *
      obtain ⟨f, ws⟩ := d
      unfold dRow at *
      simp only at *
      repeat (first | refine wG_call c1 rfl rfl ?_ | refine wG_call c2 rfl rfl ?_ | refine wG_call c4 rfl rfl ?_ | (first
    | refine wC_a rfl ?_
    | refine q_s rfl ?_
    | refine q_b rfl ?_
    | refine wG_nil ?_
    | refine wG_g rfl ?_
    | refine wG_pure (o_len_vwm rfl) ?_
    | refine wG_pure (o_not_d rfl) ?_
    | refine wG_p rfl (by first | exact rfl | omega) ?_
    | refine wG_pure (o_not rfl) ?_
    | refine wG_pure (e_ia_vw0 rfl rfl (by omega) rfl) ?_
    | refine wG_pure (e_ia_vwp rfl rfl (by omega) rfl) ?_
    | refine wG_pure (e_ia_vwm rfl rfl (by omega) (by omega) rfl) ?_
    | refine wG_pure (e_ia_vwi rfl rfl (by omega) rfl) ?_
    | refine wG_pure (e_ia_vwn rfl rfl (by omega) (by omega) rfl) ?_
    | refine wG_n rfl rfl ?_
    | refine wG_u rfl rfl ?_
    | refine wG_new (o_mks rfl rfl (by omega) (by decide)) ?_))
      refine wC_loop Nat (fun i => ⟨[(3, .pt 0 0 0), (1, .int .i64 num), (2, .int .i64 den), (21, .vw nn (ws.map iRow)), (22, .int .i64 (ws.length : Int)), (8, .int .i64 (sm ws i)), (23, .int .i64 (i : Int))], [(0, some [[.int .i64 f, .vw nn (ws.map iRow)]])], 1⟩) (fun i => i < ws.length ∧ qF ws num den all (ws.length - 1 - i) i = q) (fun i => ws.length - i) 0 ⟨by omega, hq⟩ ?_ (fun _ _ => Nat.zero_le _) ?_
      · simp [LeP, leT, leH, lk, AV.ltr, ltrL, Ab.hg, upd, -List.getD_eq_getElem?_getD, -Int.default_eq_zero]
        rfl
      rintro i ⟨hi, hqi⟩
      have s0 := hsm i (by omega)
      have s1 := hsm (i + 1) (by omega)
      have s2 := hbd i hi
      have m1 := mulB s1 (y := den) (Y := 1000) (by omega)
      have m2 := mulB (x := num) (X := 1000) (by omega) ht
      have es : sm ws (i + 1) = sm ws i + ws.getD i default := rfl
      rw [es] at m1 s1
      repeat (first
    | refine wC_a rfl ?_
    | refine q_s rfl ?_
    | refine q_b rfl ?_
    | refine wG_nil ?_
    | refine wG_g rfl ?_
    | refine wG_pure (o_len_vwm rfl) ?_
    | refine wG_pure (o_not_d rfl) ?_
    | refine wG_p rfl (by first | exact rfl | omega) ?_
    | refine wG_pure (o_not rfl) ?_
    | refine wG_pure (e_ia_vw0 rfl rfl (by omega) rfl) ?_
    | refine wG_pure (e_ia_vwp rfl rfl (by omega) rfl) ?_
    | refine wG_pure (e_ia_vwm rfl rfl (by omega) (by omega) rfl) ?_
    | refine wG_pure (e_ia_vwi rfl rfl (by omega) rfl) ?_
    | refine wG_pure (e_ia_vwn rfl rfl (by omega) (by omega) rfl) ?_
    | refine wG_n rfl rfl ?_
    | refine wG_u rfl rfl ?_
    | refine wG_new (o_mks rfl rfl (by omega) (by decide)) ?_)
      refine wC_cond_d rfl (fun h3 => ?_) (fun h3 => ?_)
      · repeat' (first | refine wG_call c4 rfl rfl ?_ | (first
    | refine wC_a rfl ?_
    | refine q_s rfl ?_
    | refine q_b rfl ?_
    | refine wG_nil ?_
    | refine wG_g rfl ?_
    | refine wG_pure (o_len_vwm rfl) ?_
    | refine wG_pure (o_not_d rfl) ?_
    | refine wG_p rfl (by first | exact rfl | omega) ?_
    | refine wG_pure (o_not rfl) ?_
    | refine wG_pure (e_ia_vw0 rfl rfl (by omega) rfl) ?_
    | refine wG_pure (e_ia_vwp rfl rfl (by omega) rfl) ?_
    | refine wG_pure (e_ia_vwm rfl rfl (by omega) (by omega) rfl) ?_
    | refine wG_pure (e_ia_vwi rfl rfl (by omega) rfl) ?_
    | refine wG_pure (e_ia_vwn rfl rfl (by omega) (by omega) rfl) ?_
    | refine wG_n rfl rfl ?_
    | refine wG_u rfl rfl ?_
    | refine wG_new (o_mks rfl rfl (by omega) (by decide)) ?_) | (refine wG_gd rfl (fun hgt => ?_) (fun hgf => ?_) <;> (first | simp only [eq_true hgt, decide_true] | simp only [eq_false hgf, decide_false])) | refine wC_cond_d rfl (fun hg => ?_) (fun hg => ?_))
        · have hq2 : q = i := by rw [← hqi]; exact qF_stop _ _ (by rw [es]; assumption)
          subst hq2
          exact ret_2 (.inr rfl) rfl rfl ⟨_, _, retV_mv rfl, retV_mv rfl, rfl, rfl⟩
        · have hne : ¬ sm ws (i + 1) * den ≥ num * all := by rw [es]; assumption
          have hlt : i < ws.length - 1 := by
            rcases Nat.lt_or_ge i (ws.length - 1) with h | h
            · exact h
            · exfalso
              have : i = ws.length - 1 := by omega
              subst this
              exact hne hend
          refine ⟨i + 1, ⟨by omega, by rw [← qF_step hlt hne]; exact hqi⟩, by omega, ?_⟩
          simp [LeP, leT, leH, lk, AV.ltr, ltrL, Ab.hg, upd, -List.getD_eq_getElem?_getD, -Int.default_eq_zero]
          simp only [sm]
      · omega
    · rw [decide_eq_false hF] at c2
      have hw : ¬ qOK d num den := fun h => hF h.2
      rw [if_neg hw, decide_eq_false hw]
      unfold dRow at *
      repeat (first | refine wG_call c1 rfl rfl ?_ | refine wG_call c2 rfl rfl ?_ | (first
    | refine wC_a rfl ?_
    | refine q_s rfl ?_
    | refine q_b rfl ?_
    | refine wG_nil ?_
    | refine wG_g rfl ?_
    | refine wG_pure (o_len_vwm rfl) ?_
    | refine wG_pure (o_not_d rfl) ?_
    | refine wG_p rfl (by first | exact rfl | omega) ?_
    | refine wG_pure (o_not rfl) ?_
    | refine wG_pure (e_ia_vw0 rfl rfl (by omega) rfl) ?_
    | refine wG_pure (e_ia_vwp rfl rfl (by omega) rfl) ?_
    | refine wG_pure (e_ia_vwm rfl rfl (by omega) (by omega) rfl) ?_
    | refine wG_pure (e_ia_vwi rfl rfl (by omega) rfl) ?_
    | refine wG_pure (e_ia_vwn rfl rfl (by omega) (by omega) rfl) ?_
    | refine wG_n rfl rfl ?_
    | refine wG_u rfl rfl ?_
    | refine wG_new (o_mks rfl rfl (by omega) (by decide)) ?_))
      exact ret_2 (.inr rfl) rfl rfl ⟨_, _, retV_mv rfl, retV_mv rfl, rfl, rfl⟩
  · rw [decide_eq_false hG] at c1
    have hw : ¬ qOK d num den := fun h => hG h.1
    rw [if_neg hw, decide_eq_false hw]
    unfold dRow at *
    repeat (first | refine wG_call c1 rfl rfl ?_ | (first
    | refine wC_a rfl ?_
    | refine q_s rfl ?_
    | refine q_b rfl ?_
    | refine wG_nil ?_
    | refine wG_g rfl ?_
    | refine wG_pure (o_len_vwm rfl) ?_
    | refine wG_pure (o_not_d rfl) ?_
    | refine wG_p rfl (by first | exact rfl | omega) ?_
    | refine wG_pure (o_not rfl) ?_
    | refine wG_pure (e_ia_vw0 rfl rfl (by omega) rfl) ?_
    | refine wG_pure (e_ia_vwp rfl rfl (by omega) rfl) ?_
    | refine wG_pure (e_ia_vwm rfl rfl (by omega) (by omega) rfl) ?_
    | refine wG_pure (e_ia_vwi rfl rfl (by omega) rfl) ?_
    | refine wG_pure (e_ia_vwn rfl rfl (by omega) (by omega) rfl) ?_
    | refine wG_n rfl rfl ?_
    | refine wG_u rfl rfl ?_
    | refine wG_new (o_mks rfl rfl (by omega) (by decide)) ?_))
    exact ret_2 (.inr rfl) rfl rfl ⟨_, _, retV_mv rfl, retV_mv rfl, rfl, rfl⟩
end Go.Proofs.Ytnohaclnpbpjbaa.Dst
