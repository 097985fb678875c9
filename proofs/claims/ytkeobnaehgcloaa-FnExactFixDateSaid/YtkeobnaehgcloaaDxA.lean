/- A date fixed: what becomes of the record; both sides. -/
import Derived.Test.YtkeobnaehgcloaaDnC
import Derived.Test.YtkeobnaehgcloaaDwB
namespace Go.Proofs.Ytkeobnaehgcloaa.Dst
open Go Go.Proofs.Ytkeobnaehgcloaa.Ab Go.Proofs.Ytkeobnaehgcloaa.Il Go.Proofs.Ytkeobnaehgcloaa.Rec
attribute [local irreducible] wpO wpC wpDr wpQ wpG wpE stepA seqQ blkQ Ret RetG ev
set_option maxRecDepth 10000
set_option maxHeartbeats 8000000
set_option linter.unusedSimpArgs false
set_option linter.unusedVariables false

def ac37 : AC := (.seq (.reg [⟨(some 3), none, (.box 3 true (.t 0))⟩, ⟨(some 6), none, (.alloc [.nilS, .nilS, .nilS])⟩, ⟨(some 7), none, (.mv (.c (.bool false)))⟩]) (.seq (.seq (.reg [⟨(some 8), none, (.ld true 3 (.t 3))⟩, ⟨(some 9), none, (.call 47 [(.t 8)])⟩, ⟨(some 10), none, (.un .not (.t 9))⟩, ⟨(some 11), none, (.mv (.t 10))⟩, ⟨(some 12), (some (11, false)), (.fa 0 (.t 3))⟩, ⟨(some 13), (some (11, false)), (.ld true 2 (.t 12))⟩, ⟨(some 14), (some (11, false)), (.mv (.t 1))⟩, ⟨(some 15), (some (11, false)), (.call 48 [(.t 13), (.t 14)])⟩, ⟨(some 16), (some (11, false)), (.bin .lss (.t 15) (.c (.int .i64 0)))⟩, ⟨(some 17), none, (.pick (.t 11) (.c (.bool true)) (.t 16))⟩, ⟨(some 18), none, (.mv (.t 17))⟩, ⟨(some 19), (some (18, false)), (.mv (.t 2))⟩, ⟨(some 20), (some (18, false)), (.call 74 [(.t 19), (.c (.int .i64 (-20000))), (.c (.int .i64 2100))])⟩, ⟨(some 21), (some (18, false)), (.un .not (.t 20))⟩, ⟨(some 22), none, (.pick (.t 18) (.c (.bool true)) (.t 21))⟩]) (.cond (.t 22) (.seq (.reg [⟨(some 23), none, (.build [.nilS, .nilS, .nilS] [])⟩, ⟨none, none, (.st 3 (.t 6) (.t 23))⟩, ⟨(some 7), none, (.mv (.c (.bool false)))⟩]) .ret) .skip)) (.seq (.dreg [⟨(some 24), none, (.ld true 3 (.t 3))⟩, ⟨(some 25), none, (.fa 0 (.t 3))⟩, ⟨(some 26), none, (.ld true 2 (.t 25))⟩, ⟨(some 27), none, (.mv (.t 1))⟩, ⟨(some 28), none, (.call 48 [(.t 26), (.t 27)])⟩, ⟨(some 29), none, (.mv (.t 2))⟩, ⟨(some 30), none, (.bsl 1 [(.int .i64 0)] 1 [(0, (.c (.int .i64 1)))])⟩, ⟨(some 31), none, (.build [(.int .i64 0), .nilS] [(0, (1, (.t 29))), (1, (1, (.t 30)))])⟩, ⟨(some 32), none, (.call 50 [(.t 24), (.t 28), (.t 31)])⟩, ⟨none, none, (.st 3 (.t 6) (.t 32))⟩, ⟨(some 7), none, (.mv (.c (.bool true)))⟩] [[], [], [1], [], [1, 2, 3], [], [], [5, 6], [0, 1, 2, 3, 4, 5, 6, 7], [0, 1, 2, 3, 4, 5, 6, 7, 8], [0, 1, 2, 3, 4, 5, 6, 7, 8, 9]]) .ret)))
def ro37 : List AOp := [(.ld true 3 (.t 6)), (.mv (.t 7))]
theorem fun37 : Fun Try.prog 37 33 ac37 ro37 := ⟨Try.f37, _, Try.func37, by kernel_rfl, rfl, rfl, by kernel_rfl, by kernel_rfl, by decide⟩
def ac38 : AC := (.seq (.reg [⟨(some 3), none, (.box 3 true (.t 0))⟩, ⟨(some 6), none, (.alloc [.nilS, .nilS, .nilS])⟩, ⟨(some 7), none, (.mv (.c (.bool false)))⟩]) (.seq (.seq (.reg [⟨(some 8), none, (.ld true 3 (.t 3))⟩, ⟨(some 9), none, (.call 24 [(.t 8)])⟩, ⟨(some 10), none, (.un .not (.t 9))⟩, ⟨(some 11), none, (.mv (.t 10))⟩, ⟨(some 12), (some (11, false)), (.fa 0 (.t 3))⟩, ⟨(some 13), (some (11, false)), (.ld true 2 (.t 12))⟩, ⟨(some 14), (some (11, false)), (.mv (.t 1))⟩, ⟨(some 15), (some (11, false)), (.call 53 [(.t 13), (.t 14)])⟩, ⟨(some 16), (some (11, false)), (.bin .lss (.t 15) (.c (.int .i64 0)))⟩, ⟨(some 17), none, (.pick (.t 11) (.c (.bool true)) (.t 16))⟩, ⟨(some 18), none, (.mv (.t 17))⟩, ⟨(some 19), (some (18, false)), (.mv (.t 2))⟩, ⟨(some 20), (some (18, false)), (.call 75 [(.t 19)])⟩, ⟨(some 21), (some (18, false)), (.un .not (.t 20))⟩, ⟨(some 22), none, (.pick (.t 18) (.c (.bool true)) (.t 21))⟩]) (.cond (.t 22) (.seq (.reg [⟨(some 23), none, (.build [.nilS, .nilS, .nilS] [])⟩, ⟨none, none, (.st 3 (.t 6) (.t 23))⟩, ⟨(some 7), none, (.mv (.c (.bool false)))⟩]) .ret) .skip)) (.seq (.dreg [⟨(some 24), none, (.ld true 3 (.t 3))⟩, ⟨(some 25), none, (.fa 0 (.t 3))⟩, ⟨(some 26), none, (.ld true 2 (.t 25))⟩, ⟨(some 27), none, (.mv (.t 1))⟩, ⟨(some 28), none, (.call 53 [(.t 26), (.t 27)])⟩, ⟨(some 29), none, (.mv (.t 2))⟩, ⟨(some 30), none, (.bsl 1 [(.int .i64 0)] 1 [(0, (.c (.int .i64 1)))])⟩, ⟨(some 31), none, (.build [(.int .i64 0), .nilS] [(0, (1, (.t 29))), (1, (1, (.t 30)))])⟩, ⟨(some 32), none, (.call 55 [(.t 24), (.t 28), (.t 31)])⟩, ⟨(some 33), none, (.ext (.t 32) 0)⟩, ⟨(some 34), none, (.ext (.t 32) 1)⟩, ⟨none, none, (.st 3 (.t 6) (.t 33))⟩, ⟨(some 7), none, (.mv (.t 34))⟩] [[], [], [1], [], [1, 2, 3], [], [], [5, 6], [0, 1, 2, 3, 4, 5, 6, 7], [0, 1, 2, 3, 4, 5, 6, 7, 8], [0, 1, 2, 3, 4, 5, 6, 7, 8], [0, 1, 2, 3, 4, 5, 6, 7, 8, 9, 10], [0, 1, 2, 3, 4, 5, 6, 7, 8, 9, 10, 11]]) .ret)))
def ro38 : List AOp := [(.ld true 3 (.t 6)), (.mv (.t 7))]
theorem fun38 : Fun Try.prog 38 35 ac38 ro38 := ⟨Try.f38, _, Try.func38, by kernel_rfl, rfl, rfl, by kernel_rfl, by kernel_rfl, by decide⟩

section
variable {nr q i : Nat} {d : Ds} {r : Rc} {xs : List Dn} {h : List (Nat × Option Ab.Rows)}
theorem hW_old {y : Nat} {o : Option Ab.Rows} (hy : y < nr) (h1 : hg h y = o) : hg (hW nr q i d r xs h) y = o := hg_skip (by omega) (hg_out (fun hc => by have := hc.1; omega) (hg_skip (by omega) (hg_skip (by omega) h1)))
theorem hW_3 : hg (hW nr q i d r xs h) (nr + 3) = some (r.cs.map cRow) := hg_skip (by omega) (hg_out (fun hc => by have := hc.1; omega) (hg_skip (by omega) hg_here))
theorem hW_4 : hg (hW nr q i d r xs h) (nr + 4) = some (r.xs.map xRow) := hg_skip (by omega) (hg_out (fun hc => by have := hc.1; omega) hg_here)
theorem hW_5 : hg (hW nr q i d r xs h) (nr + 5) = some (rW (nr + 6) q i d xs) := hg_here
theorem hW_j {j : Nat} (hj : j < xs.length) : hg (hW nr q i d r xs h) (nr + 6 + j) = some ((xs.getD j default).d.ws.map iRow) := hg_skip (by omega) (hg_in (by omega) (by rw [Nat.add_sub_cancel_left]; exact nO_get (K := hD) hj (Nat.le_refl _)))
end
def aY (r : Rc) (n : Nat) : AV := .tup [.agg [.sl 0 2 0 r.cs.length, .sl 1 2 0 r.xs.length, .sl 2 2 0 n], .bool true]
def aNo : AV := .tup [.agg [.nilS, .nilS, .nilS], .bool false]
def one (y : Int) : Ds := ⟨y, [1]⟩
def yF (xs : List Dn) (k : Nat) (y : Int) : List Dn := sx xs k (one y)
theorem yF_len (xs : List Dn) (k : Nat) (y : Int) : (yF xs k y).length = xs.length := sx_len _ _ _
def okF (r : Rc) (xs : List Dn) (x y : Int) : Prop := GoodN r xs ∧ 0 ≤ idx r x ∧ (-20000 ≤ y ∧ y ≤ 2100)
theorem one_good {y : Int} (h : -20000 ≤ y ∧ y ≤ 2100) : GoodD (one y) := by
  refine ⟨by simp [one], ⟨h.1, by show y + ((1 : Nat) : Int) - 1 ≤ 2100; omega⟩, by simp [one], fun j hj => ?_, by simp [one, gd]⟩
  have : j = 0 := by simp [one] at hj; omega
  subst this
  exact ⟨show (0 : Int) ≤ 1 by decide, show (1 : Int) ≤ 1000000 by decide⟩
theorem one_total (y : Int) : total (one y) = 1 := by simp [total, one, sm]
theorem fx_d {xs : List Dn} {k j : Nat} {y : Int} (hj : j < xs.length) : ((tD (yF xs k y)).getD j default).d = if j = k then one y else (xs.getD j default).d := by
  rw [tD_d, yF, sx_get hj]
  split <;> rfl
theorem fx_b {r : Rc} {xs : List Dn} {k : Nat} {y : Int} (hG : GoodN r xs) (hy : -20000 ≤ y ∧ y ≤ 2100) : ∀ i, i ≤ xs.length → (0 ≤ mny (tD (yF xs k y)) i ∧ mny (tD (yF xs k y)) i ≤ mny xs i) ∧ 1 ≤ wgt (tD (yF xs k y)) i ∧ wgt (tD (yF xs k y)) i ≤ wgt xs i
  | 0, _ => by simp [mny, wgt]
  | i + 1, hi => by
    obtain ⟨⟨a1, a2⟩, a3, a4⟩ := fx_b (k := k) hG hy i (by omega)
    have g := (hG.2.2 i (by omega)).1
    obtain ⟨⟨b1, b2⟩, b3, b4⟩ := okN_b i (fun j hj => hG.2.2 j (by omega))
    have hl := g.1.1
    have ht := g.pos
    have e := fx_d (k := k) (y := y) (show i < xs.length by omega)
    have hl2 : 0 ≤ (((tD (yF xs k y)).getD i default).d.ws.length : Int) ∧ (((tD (yF xs k y)).getD i default).d.ws.length : Int) ≤ ((xs.getD i default).d.ws.length : Int) := by
      rw [e]
      split
      · refine ⟨by omega, ?_⟩
        show ((1 : Nat) : Int) ≤ _
        omega
      · exact ⟨by omega, Int.le_refl _⟩
    have ht2 : 1 ≤ total ((tD (yF xs k y)).getD i default).d ∧ total ((tD (yF xs k y)).getD i default).d ≤ total (xs.getD i default).d := by
      rw [e]
      split
      · rw [one_total]; exact ⟨Int.le_refl _, ht⟩
      · exact ⟨ht, Int.le_refl _⟩
    rw [mny, mny, wgt, wgt]
    have w := Int.mul_le_mul a3 ht2.1 (by omega) (by omega)
    exact ⟨⟨Int.mul_nonneg a1 hl2.1, Int.mul_le_mul a2 hl2.2 hl2.1 (by omega)⟩, by omega, Int.mul_le_mul a4 ht2.2 (by omega) (by omega)⟩
theorem fx_good {r : Rc} {xs : List Dn} {k : Nat} {y : Int} (hG : GoodN r xs) (hy : -20000 ≤ y ∧ y ≤ 2100) : GoodN r (tD (yF xs k y)) := by
  refine ⟨hG.1, by rw [tD_len, yF_len]; exact hG.2.1, fun i hi => ?_⟩
  rw [tD_len, yF_len] at hi
  obtain ⟨g1, g2, g3⟩ := hG.2.2 i hi
  have e := fx_d (k := k) (y := y) hi
  have b1 := (fx_b (k := k) hG hy (i + 1) (by omega)).1.2
  have b2 := (fx_b (k := k) hG hy i (by omega)).2.2
  have b3 := (okN_b i (fun j hj => hG.2.2 j (by omega))).2.2
  refine ⟨?_, by omega, ?_⟩
  · rw [e]
    split
    · exact one_good hy
    · exact g1
  · rw [e]
    split
    · rw [one_total]
      show ¬ _ > (1000000000000000 : Int)
      omega
    · omega
theorem con37_yes (r : Rc) (xs : List Dn) (x y : Int) (h1 : r.cs.length ≤ 1048576) (h2 : r.xs.length ≤ 1048576) (h3 : xs.length ≤ 1048576) (hL : LenN xs 1048576) {k : Nat} (hG : GoodN r xs) (hk : idx r x = k) (hy : -20000 ≤ y ∧ y ≤ 2100) : ConG Try.prog 37 true [.agg (dtR true true true r xs), .int .i64 x, .int .i64 y] (aY r (yF xs k y).length) (dtO r (yF xs k y)) := by
  classical
  refine con_of_wpG mixed fun37 (by simp) ((List.range ((yF xs k y).length + 3)).map (· + 3)) (dtO_nest r _) ?_
  unfold ac37 ro37
  simp only [zipT]
  have c1 := con47 true true true r xs h1 h2 h3 hL
  rw [decide_eq_true hG] at c1
  have cx := con48 true true r x h1
  have bx := idx_b r x
  rw [hk] at cx bx
  have cy := con74 y (-20000) 2100
  rw [decide_eq_true hy] at cy
  have hnl := hG.2.1
  have hkx : k < xs.length := by omega
  have cW := con50 r xs h1 h2 h3 hL hkx (one y) (by simp [one])
  have ey : sx xs k (one y) = yF xs k y := rfl
  rw [ey] at cW
  have hyl := yF_len xs k y
  have d1 : decide ((k : Int) < 0) = false := decide_eq_false (by omega)
  generalize hY : yF xs k y = Y at *
  unfold dRow one at cW
  repeat (first | refine wG_call c1 rfl rfl ?_ | refine wG_call cx rfl rfl ?_ | (first
    | refine wC_a rfl ?_
    | refine q_s rfl ?_
    | refine q_b rfl ?_
    | refine wG_nil ?_
    | refine wG_g rfl ?_
    | refine wG_pure (o_len_vwm rfl) ?_
    | refine wG_pure (o_not_d rfl) ?_
    | refine wG_p rfl (by first | exact rfl | omega) ?_
    | refine wG_pure (o_str2 rfl rfl rfl) ?_
    | refine wG_pure (e_istr rfl rfl (by omega)) ?_
    | refine wG_pure (e_istr0 rfl rfl (by omega)) ?_
    | refine wG_pure (o_not rfl) ?_
    | refine wG_pure (e_ia_vw0 rfl rfl (by omega) rfl) ?_
    | refine wG_pure (e_ia_vwp rfl rfl (by omega) rfl) ?_
    | refine wG_pure (e_ia_vwm rfl rfl (by omega) (by omega) rfl) ?_
    | refine wG_pure (e_ia_vwi rfl rfl (by omega) rfl) ?_
    | refine wG_pure (e_ia_vwn rfl rfl (by omega) (by omega) rfl) ?_
    | refine wG_n rfl rfl ?_
    | refine wG_u rfl rfl ?_
    | refine wG_new (o_mks rfl rfl (by omega) (by decide)) ?_))
  simp only [d1]
  repeat (first | refine wG_call cy rfl rfl ?_ | (first
    | refine wC_a rfl ?_
    | refine q_s rfl ?_
    | refine q_b rfl ?_
    | refine wG_nil ?_
    | refine wG_g rfl ?_
    | refine wG_pure (o_len_vwm rfl) ?_
    | refine wG_pure (o_not_d rfl) ?_
    | refine wG_p rfl (by first | exact rfl | omega) ?_
    | refine wG_pure (o_str2 rfl rfl rfl) ?_
    | refine wG_pure (e_istr rfl rfl (by omega)) ?_
    | refine wG_pure (e_istr0 rfl rfl (by omega)) ?_
    | refine wG_pure (o_not rfl) ?_
    | refine wG_pure (e_ia_vw0 rfl rfl (by omega) rfl) ?_
    | refine wG_pure (e_ia_vwp rfl rfl (by omega) rfl) ?_
    | refine wG_pure (e_ia_vwm rfl rfl (by omega) (by omega) rfl) ?_
    | refine wG_pure (e_ia_vwi rfl rfl (by omega) rfl) ?_
    | refine wG_pure (e_ia_vwn rfl rfl (by omega) (by omega) rfl) ?_
    | refine wG_n rfl rfl ?_
    | refine wG_u rfl rfl ?_
    | refine wG_new (o_mks rfl rfl (by omega) (by decide)) ?_))
  repeat (first | refine wC_dregE ?_ | refine wE_call cx rfl rfl rfl ?_ | refine wE_callG (v' := dtV 3 r Y) cW (ag_any rfl (ag_int rfl (ag_is rfl rfl rfl iRow_plain ag_nil))) rfl rfl rfl ?_ | (first
    | refine wC_a rfl ?_
    | refine q_s rfl ?_
    | refine q_b rfl ?_
    | refine wG_nil ?_
    | refine wG_g rfl ?_
    | refine wG_pure (o_len_vwm rfl) ?_
    | refine wG_pure (o_not_d rfl) ?_
    | refine wG_p rfl (by first | exact rfl | omega) ?_
    | refine wG_pure (o_str2 rfl rfl rfl) ?_
    | refine wG_pure (e_istr rfl rfl (by omega)) ?_
    | refine wG_pure (e_istr0 rfl rfl (by omega)) ?_
    | refine wG_pure (o_not rfl) ?_
    | refine wG_pure (e_ia_vw0 rfl rfl (by omega) rfl) ?_
    | refine wG_pure (e_ia_vwp rfl rfl (by omega) rfl) ?_
    | refine wG_pure (e_ia_vwm rfl rfl (by omega) (by omega) rfl) ?_
    | refine wG_pure (e_ia_vwi rfl rfl (by omega) rfl) ?_
    | refine wG_pure (e_ia_vwn rfl rfl (by omega) (by omega) rfl) ?_
    | refine wG_n rfl rfl ?_
    | refine wG_u rfl rfl ?_
    | refine wG_new (o_mks rfl rfl (by omega) (by decide)) ?_) | (first
    | refine wE_nil (by kernel_rfl) ?_
    | refine wE_gy rfl ?_
    | refine wE_gn rfl rfl rfl ?_
    | refine wE_gu rfl rfl ?_
    | refine wE_gnn rfl rfl rfl ?_
    | refine wE_v (o_len_vwm rfl) rfl ?_
    | refine wE_v (o_not_d rfl) rfl ?_
    | refine wE_p rfl (by first | exact rfl | omega) rfl ?_
    | refine wE_v (o_str2 rfl rfl rfl) rfl ?_
    | refine wE_v (e_istr rfl rfl (by omega)) rfl ?_
    | refine wE_v (e_istr0 rfl rfl (by omega)) rfl ?_
    | refine wE_v (o_not rfl) rfl ?_
    | refine wE_v (e_ia_vw0 rfl rfl (by omega) rfl) rfl ?_
    | refine wE_v (e_ia_vwp rfl rfl (by omega) rfl) rfl ?_
    | refine wE_v (e_ia_vwm rfl rfl (by omega) (by omega) rfl) rfl ?_
    | refine wE_v (e_ia_vwi rfl rfl (by omega) rfl) rfl ?_
    | refine wE_v (e_ia_vwn rfl rfl (by omega) (by omega) rfl) rfl ?_
    | refine wE_n rfl rfl rfl ?_
    | refine wE_u rfl rfl rfl ?_
    | refine wE_new (o_mks rfl rfl (by omega) (by decide)) rfl ?_))
  change wpE _ _ _ ⟨_, dtH 3 r Y _, _⟩ _ _
  repeat (first | refine wE_upd (o_st_agg rfl (dtH_out (by omega) rfl) rfl rfl rfl rfl rfl) rfl ?_ | (first
    | refine wE_nil (by kernel_rfl) ?_
    | refine wE_gy rfl ?_
    | refine wE_gn rfl rfl rfl ?_
    | refine wE_gu rfl rfl ?_
    | refine wE_gnn rfl rfl rfl ?_
    | refine wE_v (o_len_vwm rfl) rfl ?_
    | refine wE_v (o_not_d rfl) rfl ?_
    | refine wE_p rfl (by first | exact rfl | omega) rfl ?_
    | refine wE_v (o_str2 rfl rfl rfl) rfl ?_
    | refine wE_v (e_istr rfl rfl (by omega)) rfl ?_
    | refine wE_v (e_istr0 rfl rfl (by omega)) rfl ?_
    | refine wE_v (o_not rfl) rfl ?_
    | refine wE_v (e_ia_vw0 rfl rfl (by omega) rfl) rfl ?_
    | refine wE_v (e_ia_vwp rfl rfl (by omega) rfl) rfl ?_
    | refine wE_v (e_ia_vwm rfl rfl (by omega) (by omega) rfl) rfl ?_
    | refine wE_v (e_ia_vwi rfl rfl (by omega) rfl) rfl ?_
    | refine wE_v (e_ia_vwn rfl rfl (by omega) (by omega) rfl) rfl ?_
    | refine wE_n rfl rfl rfl ?_
    | refine wE_u rfl rfl rfl ?_
    | refine wE_new (o_mks rfl rfl (by omega) (by decide)) rfl ?_) | (first
    | refine wC_a rfl ?_
    | refine q_s rfl ?_
    | refine q_b rfl ?_
    | refine wG_nil ?_
    | refine wG_g rfl ?_
    | refine wG_pure (o_len_vwm rfl) ?_
    | refine wG_pure (o_not_d rfl) ?_
    | refine wG_p rfl (by first | exact rfl | omega) ?_
    | refine wG_pure (o_str2 rfl rfl rfl) ?_
    | refine wG_pure (e_istr rfl rfl (by omega)) ?_
    | refine wG_pure (e_istr0 rfl rfl (by omega)) ?_
    | refine wG_pure (o_not rfl) ?_
    | refine wG_pure (e_ia_vw0 rfl rfl (by omega) rfl) ?_
    | refine wG_pure (e_ia_vwp rfl rfl (by omega) rfl) ?_
    | refine wG_pure (e_ia_vwm rfl rfl (by omega) (by omega) rfl) ?_
    | refine wG_pure (e_ia_vwi rfl rfl (by omega) rfl) ?_
    | refine wG_pure (e_ia_vwn rfl rfl (by omega) (by omega) rfl) ?_
    | refine wG_n rfl rfl ?_
    | refine wG_u rfl rfl ?_
    | refine wG_new (o_mks rfl rfl (by omega) (by decide)) ?_))
  have hπ : ∀ i, i < Y.length + 3 → πof ((List.range (Y.length + 3)).map (· + 3)) i = i + 3 := fun i hi => by simp [πof, hi]
  refine retG_gen (.inr rfl) (retVs_2 (retV_ldt rfl hg_here rfl rfl rfl) (retV_mv rfl)) ?_ (by simp [notOne, aY]) ?_ (by simp [dtO_len]) ?_ (fun i rows hi => ?_)
  · show [AV.agg [.sl 3 2 0 _, .sl (3 + 1) 2 0 _, .sl (3 + 2) 2 0 _], AV.bool true] = [AV.agg [.sl (πof _ 0) 2 0 _, .sl (πof _ 1) 2 0 _, .sl (πof _ 2) 2 0 _], AV.bool true]
    rw [hπ 0 (by omega), hπ 1 (by omega), hπ 2 (by omega)]
  · simp [aY, AV.ltr, ltrL, dtO_len]
  · unfold List.Nodup
    rw [List.pairwise_map]
    exact List.nodup_range.imp (fun h e => h (by omega))
  · have hi2 := dtO_lt hi
    rw [hπ i hi2, show i + 3 = 3 + i by omega]
    refine (hg_skip (by omega) (dtH_in hi)).trans (congrArg some ?_)
    match i, hi with
    | 0, hi => cases hi; rw [shR_plain (cRowsP _), ← rn_rows (cRowsP _)]
    | 1, hi => cases hi; rw [shR_plain (xRowsP _), ← rn_rows (xRowsP _)]
    | 2, hi =>
      cases hi
      rw [nR_sh]
      exact (nD_rn (fun j hj => by rw [hπ _ (by omega)]; omega)).symm
    | i + 3, hi =>
      have h6 : (nO hD Y Y.length)[i]? = some rows := hi
      rw [nO_get (by omega) (Nat.le_refl _)] at h6
      cases h6
      rw [shR_plain (rowsP _), ← rn_rows (rowsP _)]
theorem con38_yes (r : Rc) (xs : List Dn) (x y : Int) (h1 : r.cs.length ≤ 1048576) (h2 : r.xs.length ≤ 1048576) (h3 : xs.length ≤ 1048576) (hL : LenN xs 1048576) (hb : ∀ i, i < xs.length → (xs.getD i default).b = true) {k : Nat} (hG : GoodN r xs) (hk : idx r x = k) (hy : -20000 ≤ y ∧ y ≤ 2100) : ConG Try.prog 38 true [.agg (dtR true true true r xs), .int .i64 x, .int .i64 y] (aY r (yF xs k y).length) (dtO r (yF xs k y)) := by
  classical
  refine con_of_wpG mixed fun38 (by simp) ((List.range ((yF xs k y).length + 3)).map (fun i => if i < 3 then i + 6 else nmW 9 2 k (i - 3))) (dtO_nest r _) ?_
  unfold ac38 ro38
  simp only [zipT]
  have c1 := con24 true true true r xs h1 h2 h3 hL
  rw [decide_eq_true hG] at c1
  have cx := con53 true true r x h1
  have bx := idx_b r x
  rw [hk] at cx bx
  have cy := con75 y
  rw [decide_eq_true hy] at cy
  have hnl := hG.2.1
  have hkx : k < xs.length := by omega
  have hgd := fx_good (k := k) hG hy
  have sW := (sh55 (h := [(2, some [[.int .i64 1]]), (1, some [[.nilS, .nilS, .nilS]]), (0, some [dtR true true true r xs])]) (nr := 3) (q := 2) r xs h1 h2 h3 hL hb hkx (one y) (by simp [one]) rfl (wfH_cons (by decide) (by simp [AV.ltr]) (wfH_cons (by decide) (by simp [AV.ltr]) (wfH_cons (by decide) (by simp [dtR, AV.ltr]) wfH_nil)))).1 hgd
  have hyl := yF_len xs k y
  have ey : sx xs k (one y) = yF xs k y := rfl
  have d1 : decide ((k : Int) < 0) = false := decide_eq_false (by omega)
  have hgetY : ∀ j, j < xs.length → (yF xs k y).getD j default = if j = k then ⟨true, one y⟩ else xs.getD j default := fun j hj => by rw [← ey]; exact sx_get hj
  have hrW : ∀ b q j, j < xs.length → (rW b q k (one y) xs)[j]? = some [.int .i64 ((yF xs k y).getD j default).d.f, .sl (nmW b q k j) 1 0 ((yF xs k y).getD j default).d.ws.length] := fun b q j hj => by rw [← ey]; exact rW_get hj
  generalize hY : yF xs k y = Y at *
  repeat (first | refine wC_dregS 8 (by kernel_rfl) rfl ?_ | refine wG_call c1 rfl rfl ?_ | refine wG_call cx rfl rfl ?_ | (first
    | refine wC_a rfl ?_
    | refine q_s rfl ?_
    | refine q_b rfl ?_
    | refine wG_nil ?_
    | refine wG_g rfl ?_
    | refine wG_pure (o_len_vwm rfl) ?_
    | refine wG_pure (o_not_d rfl) ?_
    | refine wG_p rfl (by first | exact rfl | omega) ?_
    | refine wG_pure (o_str2 rfl rfl rfl) ?_
    | refine wG_pure (e_istr rfl rfl (by omega)) ?_
    | refine wG_pure (e_istr0 rfl rfl (by omega)) ?_
    | refine wG_pure (o_not rfl) ?_
    | refine wG_pure (e_ia_vw0 rfl rfl (by omega) rfl) ?_
    | refine wG_pure (e_ia_vwp rfl rfl (by omega) rfl) ?_
    | refine wG_pure (e_ia_vwm rfl rfl (by omega) (by omega) rfl) ?_
    | refine wG_pure (e_ia_vwi rfl rfl (by omega) rfl) ?_
    | refine wG_pure (e_ia_vwn rfl rfl (by omega) (by omega) rfl) ?_
    | refine wG_n rfl rfl ?_
    | refine wG_u rfl rfl ?_
    | refine wG_new (o_mks rfl rfl (by omega) (by decide)) ?_))
  simp only [d1]
  repeat (first | refine wC_dregS 8 (by kernel_rfl) rfl ?_ | refine wG_call cy rfl rfl ?_ | refine wE_call cx rfl rfl rfl ?_ | (first
    | refine wC_a rfl ?_
    | refine q_s rfl ?_
    | refine q_b rfl ?_
    | refine wG_nil ?_
    | refine wG_g rfl ?_
    | refine wG_pure (o_len_vwm rfl) ?_
    | refine wG_pure (o_not_d rfl) ?_
    | refine wG_p rfl (by first | exact rfl | omega) ?_
    | refine wG_pure (o_str2 rfl rfl rfl) ?_
    | refine wG_pure (e_istr rfl rfl (by omega)) ?_
    | refine wG_pure (e_istr0 rfl rfl (by omega)) ?_
    | refine wG_pure (o_not rfl) ?_
    | refine wG_pure (e_ia_vw0 rfl rfl (by omega) rfl) ?_
    | refine wG_pure (e_ia_vwp rfl rfl (by omega) rfl) ?_
    | refine wG_pure (e_ia_vwm rfl rfl (by omega) (by omega) rfl) ?_
    | refine wG_pure (e_ia_vwi rfl rfl (by omega) rfl) ?_
    | refine wG_pure (e_ia_vwn rfl rfl (by omega) (by omega) rfl) ?_
    | refine wG_n rfl rfl ?_
    | refine wG_u rfl rfl ?_
    | refine wG_new (o_mks rfl rfl (by omega) (by decide)) ?_) | (first
    | refine wE_nil (by kernel_rfl) ?_
    | refine wE_gy rfl ?_
    | refine wE_gn rfl rfl rfl ?_
    | refine wE_gu rfl rfl ?_
    | refine wE_gnn rfl rfl rfl ?_
    | refine wE_v (o_len_vwm rfl) rfl ?_
    | refine wE_v (o_not_d rfl) rfl ?_
    | refine wE_p rfl (by first | exact rfl | omega) rfl ?_
    | refine wE_v (o_str2 rfl rfl rfl) rfl ?_
    | refine wE_v (e_istr rfl rfl (by omega)) rfl ?_
    | refine wE_v (e_istr0 rfl rfl (by omega)) rfl ?_
    | refine wE_v (o_not rfl) rfl ?_
    | refine wE_v (e_ia_vw0 rfl rfl (by omega) rfl) rfl ?_
    | refine wE_v (e_ia_vwp rfl rfl (by omega) rfl) rfl ?_
    | refine wE_v (e_ia_vwm rfl rfl (by omega) (by omega) rfl) rfl ?_
    | refine wE_v (e_ia_vwi rfl rfl (by omega) rfl) rfl ?_
    | refine wE_v (e_ia_vwn rfl rfl (by omega) (by omega) rfl) rfl ?_
    | refine wE_n rfl rfl rfl ?_
    | refine wE_u rfl rfl rfl ?_
    | refine wE_new (o_mks rfl rfl (by omega) (by decide)) rfl ?_))
  refine ⟨_, _, _, sW, ?_⟩
  repeat (first | refine wE_upd (o_st_agg rfl (hW_old (by decide) rfl) rfl rfl rfl rfl rfl) rfl ?_ | (first
    | refine wE_nil (by kernel_rfl) ?_
    | refine wE_gy rfl ?_
    | refine wE_gn rfl rfl rfl ?_
    | refine wE_gu rfl rfl ?_
    | refine wE_gnn rfl rfl rfl ?_
    | refine wE_v (o_len_vwm rfl) rfl ?_
    | refine wE_v (o_not_d rfl) rfl ?_
    | refine wE_p rfl (by first | exact rfl | omega) rfl ?_
    | refine wE_v (o_str2 rfl rfl rfl) rfl ?_
    | refine wE_v (e_istr rfl rfl (by omega)) rfl ?_
    | refine wE_v (e_istr0 rfl rfl (by omega)) rfl ?_
    | refine wE_v (o_not rfl) rfl ?_
    | refine wE_v (e_ia_vw0 rfl rfl (by omega) rfl) rfl ?_
    | refine wE_v (e_ia_vwp rfl rfl (by omega) rfl) rfl ?_
    | refine wE_v (e_ia_vwm rfl rfl (by omega) (by omega) rfl) rfl ?_
    | refine wE_v (e_ia_vwi rfl rfl (by omega) rfl) rfl ?_
    | refine wE_v (e_ia_vwn rfl rfl (by omega) (by omega) rfl) rfl ?_
    | refine wE_n rfl rfl rfl ?_
    | refine wE_u rfl rfl rfl ?_
    | refine wE_new (o_mks rfl rfl (by omega) (by decide)) rfl ?_) | (first
    | refine wC_a rfl ?_
    | refine q_s rfl ?_
    | refine q_b rfl ?_
    | refine wG_nil ?_
    | refine wG_g rfl ?_
    | refine wG_pure (o_len_vwm rfl) ?_
    | refine wG_pure (o_not_d rfl) ?_
    | refine wG_p rfl (by first | exact rfl | omega) ?_
    | refine wG_pure (o_str2 rfl rfl rfl) ?_
    | refine wG_pure (e_istr rfl rfl (by omega)) ?_
    | refine wG_pure (e_istr0 rfl rfl (by omega)) ?_
    | refine wG_pure (o_not rfl) ?_
    | refine wG_pure (e_ia_vw0 rfl rfl (by omega) rfl) ?_
    | refine wG_pure (e_ia_vwp rfl rfl (by omega) rfl) ?_
    | refine wG_pure (e_ia_vwm rfl rfl (by omega) (by omega) rfl) ?_
    | refine wG_pure (e_ia_vwi rfl rfl (by omega) rfl) ?_
    | refine wG_pure (e_ia_vwn rfl rfl (by omega) (by omega) rfl) ?_
    | refine wG_n rfl rfl ?_
    | refine wG_u rfl rfl ?_
    | refine wG_new (o_mks rfl rfl (by omega) (by decide)) ?_))
  have hπ : ∀ i, i < Y.length + 3 → πof ((List.range (Y.length + 3)).map (fun i => if i < 3 then i + 6 else nmW 9 2 k (i - 3))) i = if i < 3 then i + 6 else nmW 9 2 k (i - 3) := fun i hi => by simp [πof, hi]
  refine retG_gen (.inr rfl) (retVs_2 (retV_ldt rfl hg_here rfl rfl rfl) (retV_mv rfl)) ?_ (by simp [notOne, aY]) ?_ (by simp [dtO_len]) ?_ (fun i rows hi => ?_)
  · show [AV.agg [.sl (3 + 3) 2 0 _, .sl (3 + 4) 2 0 _, .sl (3 + 5) 2 0 xs.length], AV.bool true] = [AV.agg [.sl (πof _ 0) 2 0 _, .sl (πof _ 1) 2 0 _, .sl (πof _ 2) 2 0 Y.length], AV.bool true]
    rw [hπ 0 (by omega), hπ 1 (by omega), hπ 2 (by omega), hyl]; rfl
  · simp [aY, AV.ltr, ltrL, dtO_len]
  · unfold List.Nodup
    rw [List.pairwise_map]
    exact List.nodup_range.imp (fun h e => h (by unfold nmW at e; split at e <;> split at e <;> (try split at e) <;> (try split at e) <;> omega))
  · have hi2 := dtO_lt hi
    rw [hπ i hi2]
    match i, hi with
    | 0, hi =>
      cases hi
      rw [← rn_rows (cRowsP _), if_pos (by omega)]
      exact hg_skip (by decide) (hW_3 (nr := 3))
    | 1, hi =>
      cases hi
      rw [← rn_rows (xRowsP _), if_pos (by omega)]
      exact hg_skip (by decide) (hW_4 (nr := 3))
    | 2, hi =>
      cases hi
      rw [if_pos (by omega)]
      refine (hg_skip (by decide) (hW_5 (nr := 3))).trans (congrArg some ?_)
      refine List.ext_getElem? fun j => ?_
      by_cases hj : j < xs.length
      · rw [hrW _ _ _ hj, List.getElem?_map, nR_row (by omega)]
        show _ = some [AV.int .i64 _, AV.sl (πof _ (3 + j)) 1 0 _]
        rw [hπ _ (by omega), if_neg (by omega), show 3 + j - 3 = j by omega]
      · rw [List.getElem?_eq_none (by rw [rW_len]; omega), List.getElem?_eq_none (by rw [List.length_map, nR_len]; omega)]
    | i + 3, hi =>
      have h6 : (nO hD Y Y.length)[i]? = some rows := hi
      rw [nO_get (by omega) (Nat.le_refl _)] at h6
      cases h6
      have hix : i < xs.length := by omega
      rw [← rn_rows (rowsP _), if_neg (by omega), show i + 3 - 3 = i by omega]
      show _ = some ((Y.getD i default).d.ws.map iRow)
      rw [hgetY i hix]
      unfold nmW
      by_cases hik : i = k
      · rw [if_pos hik, if_pos hik]
        exact hg_skip (by decide) (hW_old (by decide) rfl)
      · rw [if_neg hik, if_neg hik]
        exact hg_skip (by omega) (hW_j (nr := 3) hix)
theorem con37_no (r : Rc) (xs : List Dn) (x y : Int) (h1 : r.cs.length ≤ 1048576) (h2 : r.xs.length ≤ 1048576) (h3 : xs.length ≤ 1048576) (hL : LenN xs 1048576) (hk : ¬ okF r xs x y) : Con Try.prog 37 true [.agg (dtR true true true r xs), .int .i64 x, .int .i64 y] aNo [] := by
  classical
  refine con_of_wp mixed fun37 (by simp) [] plain_nil ?_
  unfold ac37 ro37
  simp only [zipT]
  have c1 := con47 true true true r xs h1 h2 h3 hL
  have cx := con48 true true r x h1
  have bx := idx_b r x
  by_cases hG : GoodN r xs
  case neg =>
    rw [decide_eq_false hG] at c1
    repeat (first | refine wG_call c1 rfl rfl ?_ | refine wG_call cx rfl rfl ?_ | (first
    | refine wC_a rfl ?_
    | refine q_s rfl ?_
    | refine q_b rfl ?_
    | refine wG_nil ?_
    | refine wG_g rfl ?_
    | refine wG_pure (o_len_vwm rfl) ?_
    | refine wG_pure (o_not_d rfl) ?_
    | refine wG_p rfl (by first | exact rfl | omega) ?_
    | refine wG_pure (o_str2 rfl rfl rfl) ?_
    | refine wG_pure (e_istr rfl rfl (by omega)) ?_
    | refine wG_pure (e_istr0 rfl rfl (by omega)) ?_
    | refine wG_pure (o_not rfl) ?_
    | refine wG_pure (e_ia_vw0 rfl rfl (by omega) rfl) ?_
    | refine wG_pure (e_ia_vwp rfl rfl (by omega) rfl) ?_
    | refine wG_pure (e_ia_vwm rfl rfl (by omega) (by omega) rfl) ?_
    | refine wG_pure (e_ia_vwi rfl rfl (by omega) rfl) ?_
    | refine wG_pure (e_ia_vwn rfl rfl (by omega) (by omega) rfl) ?_
    | refine wG_n rfl rfl ?_
    | refine wG_u rfl rfl ?_
    | refine wG_new (o_mks rfl rfl (by omega) (by decide)) ?_))
    exact ret_gen (.inr rfl) (retVs_2 (retV_ldt rfl rfl rfl rfl rfl) (retV_mv rfl)) rfl (by simp [notOne, aNo]) rfl rfl List.nodup_nil (fun i rows h => by simp at h)
  rw [decide_eq_true hG] at c1
  by_cases hx : 0 ≤ idx r x
  case neg =>
    have d1 : decide (idx r x < 0) = true := decide_eq_true (Int.not_le.1 hx)
    repeat (first | refine wG_call c1 rfl rfl ?_ | refine wG_call cx rfl rfl ?_ | (first
    | refine wC_a rfl ?_
    | refine q_s rfl ?_
    | refine q_b rfl ?_
    | refine wG_nil ?_
    | refine wG_g rfl ?_
    | refine wG_pure (o_len_vwm rfl) ?_
    | refine wG_pure (o_not_d rfl) ?_
    | refine wG_p rfl (by first | exact rfl | omega) ?_
    | refine wG_pure (o_str2 rfl rfl rfl) ?_
    | refine wG_pure (e_istr rfl rfl (by omega)) ?_
    | refine wG_pure (e_istr0 rfl rfl (by omega)) ?_
    | refine wG_pure (o_not rfl) ?_
    | refine wG_pure (e_ia_vw0 rfl rfl (by omega) rfl) ?_
    | refine wG_pure (e_ia_vwp rfl rfl (by omega) rfl) ?_
    | refine wG_pure (e_ia_vwm rfl rfl (by omega) (by omega) rfl) ?_
    | refine wG_pure (e_ia_vwi rfl rfl (by omega) rfl) ?_
    | refine wG_pure (e_ia_vwn rfl rfl (by omega) (by omega) rfl) ?_
    | refine wG_n rfl rfl ?_
    | refine wG_u rfl rfl ?_
    | refine wG_new (o_mks rfl rfl (by omega) (by decide)) ?_))
    simp only [d1]
    repeat (first
    | refine wC_a rfl ?_
    | refine q_s rfl ?_
    | refine q_b rfl ?_
    | refine wG_nil ?_
    | refine wG_g rfl ?_
    | refine wG_pure (o_len_vwm rfl) ?_
    | refine wG_pure (o_not_d rfl) ?_
    | refine wG_p rfl (by first | exact rfl | omega) ?_
    | refine wG_pure (o_str2 rfl rfl rfl) ?_
    | refine wG_pure (e_istr rfl rfl (by omega)) ?_
    | refine wG_pure (e_istr0 rfl rfl (by omega)) ?_
    | refine wG_pure (o_not rfl) ?_
    | refine wG_pure (e_ia_vw0 rfl rfl (by omega) rfl) ?_
    | refine wG_pure (e_ia_vwp rfl rfl (by omega) rfl) ?_
    | refine wG_pure (e_ia_vwm rfl rfl (by omega) (by omega) rfl) ?_
    | refine wG_pure (e_ia_vwi rfl rfl (by omega) rfl) ?_
    | refine wG_pure (e_ia_vwn rfl rfl (by omega) (by omega) rfl) ?_
    | refine wG_n rfl rfl ?_
    | refine wG_u rfl rfl ?_
    | refine wG_new (o_mks rfl rfl (by omega) (by decide)) ?_)
    exact ret_gen (.inr rfl) (retVs_2 (retV_ldt rfl rfl rfl rfl rfl) (retV_mv rfl)) rfl (by simp [notOne, aNo]) rfl rfl List.nodup_nil (fun i rows h => by simp at h)
  have hy : ¬ (-20000 ≤ y ∧ y ≤ 2100) := fun h => hk ⟨hG, hx, h⟩
  have cy := con74 y (-20000) 2100
  rw [decide_eq_false hy] at cy
  have d1 : decide (idx r x < 0) = false := decide_eq_false (by omega)
  repeat (first | refine wG_call c1 rfl rfl ?_ | refine wG_call cx rfl rfl ?_ | (first
    | refine wC_a rfl ?_
    | refine q_s rfl ?_
    | refine q_b rfl ?_
    | refine wG_nil ?_
    | refine wG_g rfl ?_
    | refine wG_pure (o_len_vwm rfl) ?_
    | refine wG_pure (o_not_d rfl) ?_
    | refine wG_p rfl (by first | exact rfl | omega) ?_
    | refine wG_pure (o_str2 rfl rfl rfl) ?_
    | refine wG_pure (e_istr rfl rfl (by omega)) ?_
    | refine wG_pure (e_istr0 rfl rfl (by omega)) ?_
    | refine wG_pure (o_not rfl) ?_
    | refine wG_pure (e_ia_vw0 rfl rfl (by omega) rfl) ?_
    | refine wG_pure (e_ia_vwp rfl rfl (by omega) rfl) ?_
    | refine wG_pure (e_ia_vwm rfl rfl (by omega) (by omega) rfl) ?_
    | refine wG_pure (e_ia_vwi rfl rfl (by omega) rfl) ?_
    | refine wG_pure (e_ia_vwn rfl rfl (by omega) (by omega) rfl) ?_
    | refine wG_n rfl rfl ?_
    | refine wG_u rfl rfl ?_
    | refine wG_new (o_mks rfl rfl (by omega) (by decide)) ?_))
  simp only [d1]
  repeat (first | refine wG_call cy rfl rfl ?_ | (first
    | refine wC_a rfl ?_
    | refine q_s rfl ?_
    | refine q_b rfl ?_
    | refine wG_nil ?_
    | refine wG_g rfl ?_
    | refine wG_pure (o_len_vwm rfl) ?_
    | refine wG_pure (o_not_d rfl) ?_
    | refine wG_p rfl (by first | exact rfl | omega) ?_
    | refine wG_pure (o_str2 rfl rfl rfl) ?_
    | refine wG_pure (e_istr rfl rfl (by omega)) ?_
    | refine wG_pure (e_istr0 rfl rfl (by omega)) ?_
    | refine wG_pure (o_not rfl) ?_
    | refine wG_pure (e_ia_vw0 rfl rfl (by omega) rfl) ?_
    | refine wG_pure (e_ia_vwp rfl rfl (by omega) rfl) ?_
    | refine wG_pure (e_ia_vwm rfl rfl (by omega) (by omega) rfl) ?_
    | refine wG_pure (e_ia_vwi rfl rfl (by omega) rfl) ?_
    | refine wG_pure (e_ia_vwn rfl rfl (by omega) (by omega) rfl) ?_
    | refine wG_n rfl rfl ?_
    | refine wG_u rfl rfl ?_
    | refine wG_new (o_mks rfl rfl (by omega) (by decide)) ?_))
  exact ret_gen (.inr rfl) (retVs_2 (retV_ldt rfl rfl rfl rfl rfl) (retV_mv rfl)) rfl (by simp [notOne, aNo]) rfl rfl List.nodup_nil (fun i rows h => by simp at h)
theorem con38_no (r : Rc) (xs : List Dn) (x y : Int) (h1 : r.cs.length ≤ 1048576) (h2 : r.xs.length ≤ 1048576) (h3 : xs.length ≤ 1048576) (hL : LenN xs 1048576) (hk : ¬ okF r xs x y) : Con Try.prog 38 true [.agg (dtR true true true r xs), .int .i64 x, .int .i64 y] aNo [] := by
  classical
  refine con_of_wp mixed fun38 (by simp) [] plain_nil ?_
  unfold ac38 ro38
  simp only [zipT]
  have c1 := con24 true true true r xs h1 h2 h3 hL
  have cx := con53 true true r x h1
  have bx := idx_b r x
  by_cases hG : GoodN r xs
  case neg =>
    rw [decide_eq_false hG] at c1
    repeat (first | refine wG_call c1 rfl rfl ?_ | refine wG_call cx rfl rfl ?_ | (first
    | refine wC_a rfl ?_
    | refine q_s rfl ?_
    | refine q_b rfl ?_
    | refine wG_nil ?_
    | refine wG_g rfl ?_
    | refine wG_pure (o_len_vwm rfl) ?_
    | refine wG_pure (o_not_d rfl) ?_
    | refine wG_p rfl (by first | exact rfl | omega) ?_
    | refine wG_pure (o_str2 rfl rfl rfl) ?_
    | refine wG_pure (e_istr rfl rfl (by omega)) ?_
    | refine wG_pure (e_istr0 rfl rfl (by omega)) ?_
    | refine wG_pure (o_not rfl) ?_
    | refine wG_pure (e_ia_vw0 rfl rfl (by omega) rfl) ?_
    | refine wG_pure (e_ia_vwp rfl rfl (by omega) rfl) ?_
    | refine wG_pure (e_ia_vwm rfl rfl (by omega) (by omega) rfl) ?_
    | refine wG_pure (e_ia_vwi rfl rfl (by omega) rfl) ?_
    | refine wG_pure (e_ia_vwn rfl rfl (by omega) (by omega) rfl) ?_
    | refine wG_n rfl rfl ?_
    | refine wG_u rfl rfl ?_
    | refine wG_new (o_mks rfl rfl (by omega) (by decide)) ?_))
    exact ret_gen (.inr rfl) (retVs_2 (retV_ldt rfl rfl rfl rfl rfl) (retV_mv rfl)) rfl (by simp [notOne, aNo]) rfl rfl List.nodup_nil (fun i rows h => by simp at h)
  rw [decide_eq_true hG] at c1
  by_cases hx : 0 ≤ idx r x
  case neg =>
    have d1 : decide (idx r x < 0) = true := decide_eq_true (Int.not_le.1 hx)
    repeat (first | refine wG_call c1 rfl rfl ?_ | refine wG_call cx rfl rfl ?_ | (first
    | refine wC_a rfl ?_
    | refine q_s rfl ?_
    | refine q_b rfl ?_
    | refine wG_nil ?_
    | refine wG_g rfl ?_
    | refine wG_pure (o_len_vwm rfl) ?_
    | refine wG_pure (o_not_d rfl) ?_
    | refine wG_p rfl (by first | exact rfl | omega) ?_
    | refine wG_pure (o_str2 rfl rfl rfl) ?_
    | refine wG_pure (e_istr rfl rfl (by omega)) ?_
    | refine wG_pure (e_istr0 rfl rfl (by omega)) ?_
    | refine wG_pure (o_not rfl) ?_
    | refine wG_pure (e_ia_vw0 rfl rfl (by omega) rfl) ?_
    | refine wG_pure (e_ia_vwp rfl rfl (by omega) rfl) ?_
    | refine wG_pure (e_ia_vwm rfl rfl (by omega) (by omega) rfl) ?_
    | refine wG_pure (e_ia_vwi rfl rfl (by omega) rfl) ?_
    | refine wG_pure (e_ia_vwn rfl rfl (by omega) (by omega) rfl) ?_
    | refine wG_n rfl rfl ?_
    | refine wG_u rfl rfl ?_
    | refine wG_new (o_mks rfl rfl (by omega) (by decide)) ?_))
    simp only [d1]
    repeat (first
    | refine wC_a rfl ?_
    | refine q_s rfl ?_
    | refine q_b rfl ?_
    | refine wG_nil ?_
    | refine wG_g rfl ?_
    | refine wG_pure (o_len_vwm rfl) ?_
    | refine wG_pure (o_not_d rfl) ?_
    | refine wG_p rfl (by first | exact rfl | omega) ?_
    | refine wG_pure (o_str2 rfl rfl rfl) ?_
    | refine wG_pure (e_istr rfl rfl (by omega)) ?_
    | refine wG_pure (e_istr0 rfl rfl (by omega)) ?_
    | refine wG_pure (o_not rfl) ?_
    | refine wG_pure (e_ia_vw0 rfl rfl (by omega) rfl) ?_
    | refine wG_pure (e_ia_vwp rfl rfl (by omega) rfl) ?_
    | refine wG_pure (e_ia_vwm rfl rfl (by omega) (by omega) rfl) ?_
    | refine wG_pure (e_ia_vwi rfl rfl (by omega) rfl) ?_
    | refine wG_pure (e_ia_vwn rfl rfl (by omega) (by omega) rfl) ?_
    | refine wG_n rfl rfl ?_
    | refine wG_u rfl rfl ?_
    | refine wG_new (o_mks rfl rfl (by omega) (by decide)) ?_)
    exact ret_gen (.inr rfl) (retVs_2 (retV_ldt rfl rfl rfl rfl rfl) (retV_mv rfl)) rfl (by simp [notOne, aNo]) rfl rfl List.nodup_nil (fun i rows h => by simp at h)
  have hy : ¬ (-20000 ≤ y ∧ y ≤ 2100) := fun h => hk ⟨hG, hx, h⟩
  have cy := con75 y
  rw [decide_eq_false hy] at cy
  have d1 : decide (idx r x < 0) = false := decide_eq_false (by omega)
  repeat (first | refine wG_call c1 rfl rfl ?_ | refine wG_call cx rfl rfl ?_ | (first
    | refine wC_a rfl ?_
    | refine q_s rfl ?_
    | refine q_b rfl ?_
    | refine wG_nil ?_
    | refine wG_g rfl ?_
    | refine wG_pure (o_len_vwm rfl) ?_
    | refine wG_pure (o_not_d rfl) ?_
    | refine wG_p rfl (by first | exact rfl | omega) ?_
    | refine wG_pure (o_str2 rfl rfl rfl) ?_
    | refine wG_pure (e_istr rfl rfl (by omega)) ?_
    | refine wG_pure (e_istr0 rfl rfl (by omega)) ?_
    | refine wG_pure (o_not rfl) ?_
    | refine wG_pure (e_ia_vw0 rfl rfl (by omega) rfl) ?_
    | refine wG_pure (e_ia_vwp rfl rfl (by omega) rfl) ?_
    | refine wG_pure (e_ia_vwm rfl rfl (by omega) (by omega) rfl) ?_
    | refine wG_pure (e_ia_vwi rfl rfl (by omega) rfl) ?_
    | refine wG_pure (e_ia_vwn rfl rfl (by omega) (by omega) rfl) ?_
    | refine wG_n rfl rfl ?_
    | refine wG_u rfl rfl ?_
    | refine wG_new (o_mks rfl rfl (by omega) (by decide)) ?_))
  simp only [d1]
  repeat (first | refine wG_call cy rfl rfl ?_ | (first
    | refine wC_a rfl ?_
    | refine q_s rfl ?_
    | refine q_b rfl ?_
    | refine wG_nil ?_
    | refine wG_g rfl ?_
    | refine wG_pure (o_len_vwm rfl) ?_
    | refine wG_pure (o_not_d rfl) ?_
    | refine wG_p rfl (by first | exact rfl | omega) ?_
    | refine wG_pure (o_str2 rfl rfl rfl) ?_
    | refine wG_pure (e_istr rfl rfl (by omega)) ?_
    | refine wG_pure (e_istr0 rfl rfl (by omega)) ?_
    | refine wG_pure (o_not rfl) ?_
    | refine wG_pure (e_ia_vw0 rfl rfl (by omega) rfl) ?_
    | refine wG_pure (e_ia_vwp rfl rfl (by omega) rfl) ?_
    | refine wG_pure (e_ia_vwm rfl rfl (by omega) (by omega) rfl) ?_
    | refine wG_pure (e_ia_vwi rfl rfl (by omega) rfl) ?_
    | refine wG_pure (e_ia_vwn rfl rfl (by omega) (by omega) rfl) ?_
    | refine wG_n rfl rfl ?_
    | refine wG_u rfl rfl ?_
    | refine wG_new (o_mks rfl rfl (by omega) (by decide)) ?_))
  exact ret_gen (.inr rfl) (retVs_2 (retV_ldt rfl rfl rfl rfl rfl) (retV_mv rfl)) rfl (by simp [notOne, aNo]) rfl rfl List.nodup_nil (fun i rows h => by simp at h)
/-- Both sides: the same record, or none. -/
theorem diF (r : Rc) (xs : List Dn) (x y : Int) (h1 : r.cs.length ≤ 1048576) (h2 : r.xs.length ≤ 1048576) (h3 : xs.length ≤ 1048576) (hL : LenN xs 1048576) (hb : ∀ i, i < xs.length → (xs.getD i default).b = true) :
    (∃ Y : List Dn, Y.length ≤ 10 ∧ (∀ i, i < Y.length → (Y.getD i default).d.ws.length ≤ 60) ∧ ConG Try.prog 37 true [.agg (dtR true true true r xs), .int .i64 x, .int .i64 y] (aY r Y.length) (dtO r Y) ∧ ConG Try.prog 38 true [.agg (dtR true true true r xs), .int .i64 x, .int .i64 y] (aY r Y.length) (dtO r Y)) ∨
    (Con Try.prog 37 true [.agg (dtR true true true r xs), .int .i64 x, .int .i64 y] aNo [] ∧ Con Try.prog 38 true [.agg (dtR true true true r xs), .int .i64 x, .int .i64 y] aNo []) := by
  classical
  by_cases hk : okF r xs x y
  · obtain ⟨hG, hx, hy⟩ := hk
    obtain ⟨k, hkk⟩ : ∃ k : Nat, idx r x = k := ⟨_, (Int.toNat_of_nonneg hx).symm⟩
    have h10 := hG.1.1
    have hnl := hG.2.1
    refine .inl ⟨yF xs k y, by rw [yF_len]; omega, fun i hi => ?_, con37_yes r xs x y h1 h2 h3 hL hG hkk hy, con38_yes r xs x y h1 h2 h3 hL hb hG hkk hy⟩
    have := ((fx_good (k := k) hG hy).2.2 i (by rw [tD_len]; exact hi)).1.1.2
    rwa [tD_d] at this
  · exact .inr ⟨con37_no r xs x y h1 h2 h3 hL hk, con38_no r xs x y h1 h2 h3 hL hk⟩
end Go.Proofs.Ytkeobnaehgcloaa.Dst
