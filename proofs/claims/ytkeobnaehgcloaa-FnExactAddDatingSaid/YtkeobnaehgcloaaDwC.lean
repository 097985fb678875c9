/- Adding a dating: both sides. -/
import Derived.Test.YtkeobnaehgcloaaDnC
import Derived.Test.YtkeobnaehgcloaaDwB
import Derived.Test.YtkeobnaehgcloaaCmdZ
namespace Go.Proofs.Ytkeobnaehgcloaa.Dst
open Go Go.Proofs.Ytkeobnaehgcloaa.Ab Go.Proofs.Ytkeobnaehgcloaa.Il Go.Proofs.Ytkeobnaehgcloaa.Rec
attribute [local irreducible] wpO wpC wpDr wpQ wpG wpE stepA seqQ blkQ Ret RetG ev
set_option maxRecDepth 10000
set_option maxHeartbeats 8000000
set_option linter.unusedSimpArgs false
set_option linter.unusedVariables false

def ac14 : AC := (.seq (.reg [⟨(some 3), none, (.box 3 true (.t 0))⟩, ⟨(some 5), none, (.box 2 true (.t 2))⟩, ⟨(some 6), none, (.alloc [.nilS, .nilS, .nilS])⟩, ⟨(some 7), none, (.mv (.c (.bool false)))⟩]) (.seq (.seq (.reg [⟨(some 12), none, (.ld true 3 (.t 3))⟩, ⟨(some 13), none, (.call 47 [(.t 12)])⟩, ⟨(some 14), none, (.un .not (.t 13))⟩, ⟨(some 15), none, (.mv (.t 14))⟩, ⟨(some 16), (some (15, false)), (.fa 0 (.t 3))⟩, ⟨(some 17), (some (15, false)), (.ld true 2 (.t 16))⟩, ⟨(some 18), (some (15, false)), (.mv (.t 1))⟩, ⟨(some 19), (some (15, false)), (.call 48 [(.t 17), (.t 18)])⟩, ⟨(some 20), (some (15, false)), (.bin .lss (.t 19) (.c (.int .i64 0)))⟩, ⟨(some 21), none, (.pick (.t 15) (.c (.bool true)) (.t 20))⟩]) (.cond (.t 21) (.seq (.reg [⟨(some 22), none, (.build [.nilS, .nilS, .nilS] [])⟩, ⟨none, none, (.st 3 (.t 6) (.t 22))⟩, ⟨(some 7), none, (.mv (.c (.bool false)))⟩]) .ret) .skip)) (.seq (.reg [⟨(some 23), none, (.fa 0 (.t 3))⟩, ⟨(some 24), none, (.ld true 2 (.t 23))⟩, ⟨(some 25), none, (.mv (.t 1))⟩, ⟨(some 26), none, (.call 48 [(.t 24), (.t 25)])⟩, ⟨(some 8), none, (.mv (.t 26))⟩]) (.seq (.dreg [⟨(some 28), none, (.fa 2 (.t 3))⟩, ⟨(some 29), none, (.ld false 1 (.t 28))⟩, ⟨(some 30), none, (.mv (.t 8))⟩, ⟨(some 31), none, (.ia 2 (.t 29) (.t 30))⟩, ⟨(some 32), none, (.ld true 2 (.t 31))⟩, ⟨(some 33), none, (.ld true 2 (.t 5))⟩, ⟨(some 34), none, (.call 49 [(.t 32), (.t 33)])⟩, ⟨(some 27), none, (.mv (.t 34))⟩, ⟨(some 35), none, (.ext (.t 27) 0)⟩, ⟨(some 36), none, (.ext (.t 27) 1)⟩, ⟨(some 9), none, (.alloc [(.int .i64 0), .nilS])⟩, ⟨none, none, (.st 2 (.t 9) (.t 35))⟩, ⟨(some 10), none, (.mv (.t 36))⟩] [[], [0], [], [0, 1, 2], [0, 1, 2, 3], [], [0, 1, 2, 3, 4, 5], [0, 1, 2, 3, 4, 5, 6], [0, 1, 2, 3, 4, 5, 6, 7], [0, 1, 2, 3, 4, 5, 6, 7], [], [0, 1, 2, 3, 4, 5, 6, 7, 8, 10], [0, 1, 2, 3, 4, 5, 6, 7, 8, 9, 10, 11]]) (.seq (.seq (.reg [⟨(some 37), none, (.mv (.t 10))⟩, ⟨(some 38), none, (.un .not (.t 37))⟩]) (.cond (.t 38) (.seq (.reg [⟨(some 39), none, (.build [.nilS, .nilS, .nilS] [])⟩, ⟨none, none, (.st 3 (.t 6) (.t 39))⟩, ⟨(some 7), none, (.mv (.c (.bool false)))⟩]) .ret) .skip)) (.seq (.reg [⟨(some 40), none, (.ld true 3 (.t 3))⟩, ⟨(some 41), none, (.mv (.t 8))⟩, ⟨(some 42), none, (.ld true 2 (.t 9))⟩, ⟨(some 43), none, (.call 50 [(.t 40), (.t 41), (.t 42)])⟩, ⟨(some 11), none, (.alloc [.nilS, .nilS, .nilS])⟩, ⟨none, none, (.st 3 (.t 11) (.t 43))⟩]) (.seq (.seq (.reg [⟨(some 44), none, (.ld true 3 (.t 11))⟩, ⟨(some 45), none, (.call 47 [(.t 44)])⟩, ⟨(some 46), none, (.un .not (.t 45))⟩]) (.cond (.t 46) (.seq (.reg [⟨(some 47), none, (.build [.nilS, .nilS, .nilS] [])⟩, ⟨none, none, (.st 3 (.t 6) (.t 47))⟩, ⟨(some 7), none, (.mv (.c (.bool false)))⟩]) .ret) .skip)) (.seq (.reg [⟨(some 48), none, (.ld true 3 (.t 11))⟩, ⟨none, none, (.st 3 (.t 6) (.t 48))⟩, ⟨(some 7), none, (.mv (.c (.bool true)))⟩]) .ret))))))))
def ro14 : List AOp := [(.ld true 3 (.t 6)), (.mv (.t 7))]
theorem fun14 : Fun Try.prog 14 49 ac14 ro14 := ⟨Try.f14, _, Try.func14, by kernel_rfl, rfl, rfl, by kernel_rfl, by kernel_rfl, by decide⟩
def ac17 : AC := (.seq (.reg [⟨(some 3), none, (.box 3 true (.t 0))⟩, ⟨(some 5), none, (.box 2 true (.t 2))⟩, ⟨(some 6), none, (.alloc [.nilS, .nilS, .nilS])⟩, ⟨(some 7), none, (.mv (.c (.bool false)))⟩]) (.seq (.seq (.reg [⟨(some 11), none, (.ld true 3 (.t 3))⟩, ⟨(some 12), none, (.call 24 [(.t 11)])⟩, ⟨(some 13), none, (.un .not (.t 12))⟩, ⟨(some 14), none, (.mv (.t 13))⟩, ⟨(some 15), (some (14, false)), (.fa 0 (.t 3))⟩, ⟨(some 16), (some (14, false)), (.ld true 2 (.t 15))⟩, ⟨(some 17), (some (14, false)), (.mv (.t 1))⟩, ⟨(some 18), (some (14, false)), (.call 53 [(.t 16), (.t 17)])⟩, ⟨(some 19), (some (14, false)), (.bin .lss (.t 18) (.c (.int .i64 0)))⟩, ⟨(some 20), none, (.pick (.t 14) (.c (.bool true)) (.t 19))⟩]) (.cond (.t 20) (.seq (.reg [⟨(some 21), none, (.build [.nilS, .nilS, .nilS] [])⟩, ⟨none, none, (.st 3 (.t 6) (.t 21))⟩, ⟨(some 7), none, (.mv (.c (.bool false)))⟩]) .ret) .skip)) (.seq (.reg [⟨(some 22), none, (.fa 0 (.t 3))⟩, ⟨(some 23), none, (.ld true 2 (.t 22))⟩, ⟨(some 24), none, (.mv (.t 1))⟩, ⟨(some 25), none, (.call 53 [(.t 23), (.t 24)])⟩, ⟨(some 8), none, (.mv (.t 25))⟩]) (.seq (.dreg [⟨(some 27), none, (.fa 2 (.t 3))⟩, ⟨(some 28), none, (.ld false 1 (.t 27))⟩, ⟨(some 29), none, (.mv (.t 8))⟩, ⟨(some 30), none, (.ia 2 (.t 28) (.t 29))⟩, ⟨(some 31), none, (.ld true 2 (.t 30))⟩, ⟨(some 32), none, (.ld true 2 (.t 5))⟩, ⟨(some 33), none, (.call 54 [(.t 31), (.t 32)])⟩, ⟨(some 26), none, (.mv (.t 33))⟩, ⟨(some 34), none, (.ext (.t 26) 0)⟩, ⟨(some 35), none, (.ext (.t 26) 1)⟩, ⟨(some 9), none, (.alloc [(.int .i64 0), .nilS])⟩, ⟨none, none, (.st 2 (.t 9) (.t 34))⟩, ⟨(some 10), none, (.mv (.t 35))⟩] [[], [0], [], [0, 1, 2], [0, 1, 2, 3], [], [0, 1, 2, 3, 4, 5], [0, 1, 2, 3, 4, 5, 6], [0, 1, 2, 3, 4, 5, 6, 7], [0, 1, 2, 3, 4, 5, 6, 7], [], [0, 1, 2, 3, 4, 5, 6, 7, 8, 10], [0, 1, 2, 3, 4, 5, 6, 7, 8, 9, 10, 11]]) (.seq (.seq (.reg [⟨(some 36), none, (.mv (.t 10))⟩, ⟨(some 37), none, (.un .not (.t 36))⟩]) (.cond (.t 37) (.seq (.reg [⟨(some 38), none, (.build [.nilS, .nilS, .nilS] [])⟩, ⟨none, none, (.st 3 (.t 6) (.t 38))⟩, ⟨(some 7), none, (.mv (.c (.bool false)))⟩]) .ret) .skip)) (.seq (.reg [⟨(some 39), none, (.ld true 3 (.t 3))⟩, ⟨(some 40), none, (.mv (.t 8))⟩, ⟨(some 41), none, (.ld true 2 (.t 9))⟩, ⟨(some 42), none, (.call 55 [(.t 39), (.t 40), (.t 41)])⟩, ⟨(some 43), none, (.ext (.t 42) 0)⟩, ⟨(some 44), none, (.ext (.t 42) 1)⟩, ⟨none, none, (.st 3 (.t 6) (.t 43))⟩, ⟨(some 7), none, (.mv (.t 44))⟩]) .ret))))))
def ro17 : List AOp := [(.ld true 3 (.t 6)), (.mv (.t 7))]
theorem fun17 : Fun Try.prog 17 45 ac17 ro17 := ⟨Try.f17, _, Try.func17, by kernel_rfl, rfl, rfl, by kernel_rfl, by kernel_rfl, by decide⟩

section
variable {nr q i : Nat} {d : Ds} {r : Rc} {xs : List Dn} {h : List (Nat × Option Ab.Rows)}
theorem hW_old {y : Nat} {o : Option Ab.Rows} (hy : y < nr) (h1 : hg h y = o) : hg (hW nr q i d r xs h) y = o := hg_skip (by omega) (hg_out (fun hc => by have := hc.1; omega) (hg_skip (by omega) (hg_skip (by omega) h1)))
theorem hW_3 : hg (hW nr q i d r xs h) (nr + 3) = some (r.cs.map cRow) := hg_skip (by omega) (hg_out (fun hc => by have := hc.1; omega) (hg_skip (by omega) hg_here))
theorem hW_4 : hg (hW nr q i d r xs h) (nr + 4) = some (r.xs.map xRow) := hg_skip (by omega) (hg_out (fun hc => by have := hc.1; omega) hg_here)
theorem hW_5 : hg (hW nr q i d r xs h) (nr + 5) = some (rW (nr + 6) q i d xs) := hg_here
theorem hW_j {j : Nat} (hj : j < xs.length) : hg (hW nr q i d r xs h) (nr + 6 + j) = some ((xs.getD j default).d.ws.map iRow) := hg_skip (by omega) (hg_in (by omega) (by rw [Nat.add_sub_cancel_left]; exact nO_get (K := hD) hj (Nat.le_refl _)))
end
def aY (r : Rc) (n : Nat) : AV := .tup [.agg [.sl 0 2 0 r.cs.length, .sl 1 2 0 r.xs.length, .sl 2 2 0 n], .bool true]
def aNo : AV := .tup [.agg [.nilS, .nilS, .nilS], .bool false]
/-- Both distributions brought together. -/
noncomputable def bth (xs : List Dn) (k : Nat) (e : Ds) : Ds := mkO (xs.getD k default).d.f (cmL (xs.getD k default).d e)
noncomputable def yA (xs : List Dn) (k : Nat) (e : Ds) : List Dn := sx xs k (bth xs k e)
theorem yA_len (xs : List Dn) (k : Nat) (e : Ds) : (yA xs k e).length = xs.length := sx_len _ _ _
def okA (r : Rc) (xs : List Dn) (x : Int) (e : Ds) : Prop := GoodN r xs ∧ 0 ≤ idx r x ∧ cmOK (xs.getD (idx r x).toNat default).d e ∧ GoodN r (tD (yA xs (idx r x).toNat e))
theorem con14_yes (r : Rc) (xs : List Dn) (x : Int) (e : Ds) (h1 : r.cs.length ≤ 1048576) (h2 : r.xs.length ≤ 1048576) (h3 : xs.length ≤ 1048576) (hL : LenN xs 1048576) (he : e.ws.length ≤ 1048576) (hb : ∀ i, i < xs.length → (xs.getD i default).b = true) {k : Nat} (hG : GoodN r xs) (hk : idx r x = k) (hc : cmOK (xs.getD k default).d e) (hy : GoodN r (tD (yA xs k e))) : ConG Try.prog 14 true [.agg (dtR true true true r xs), .int .i64 x, .agg (dRow true e)] (aY r (yA xs k e).length) (dtO r (yA xs k e)) := by
  classical
  refine con_of_wpG mixed fun14 (by simp) ((List.range ((yA xs k e).length + 3)).map (· + 5)) (dtO_nest r _) ?_
  unfold ac14 ro14
  simp only [zipT]
  have c1 := con47 true true true r xs h1 h2 h3 hL
  rw [decide_eq_true hG] at c1
  have cx := con48 true true r x h1
  have bx := idx_b r x
  rw [hk] at cx bx
  have hnl := hG.2.1
  have hkx : k < xs.length := by omega
  have cC := con49_yes (xs.getD k default).b true (xs.getD k default).d e (hL k hkx) he hc
  have hbd : (bth xs k e).ws.length ≤ 60 := hc.2.2.1.2
  have eb : mkO (xs.getD k default).d.f (cmL (xs.getD k default).d e) = bth xs k e := rfl
  rw [eb] at cC
  have cW := con50 r xs h1 h2 h3 hL hkx (bth xs k e) (by omega)
  have ey : sx xs k (bth xs k e) = yA xs k e := rfl
  rw [ey] at cW
  have hyl := yA_len xs k e
  have c4 := con47 true true true r (tD (yA xs k e)) h1 h2 (by rw [tD_len]; omega) (fun j hj => by
    rw [tD_len, hyl] at hj
    rw [tD_d]
    show (((sx xs k (bth xs k e))).getD j default).d.ws.length ≤ _
    rw [sx_get hj]
    split
    · show (bth xs k e).ws.length ≤ _; omega
    · exact hL j hj)
  rw [decide_eq_true hy] at c4
  have d1 : decide ((k : Int) < 0) = false := decide_eq_false (by omega)
  generalize hB : bth xs k e = B at *
  generalize hY : yA xs k e = Y at *
  unfold dYes dRow at cC
  unfold dRow at cW
  unfold dRow
  repeat (first | refine wG_call c1 rfl rfl ?_ | refine wG_call cx rfl rfl ?_ | (first
    | refine wC_a rfl ?_
    | refine q_s rfl ?_
    | refine q_b rfl ?_
    | refine wG_nil ?_
    | refine wG_g rfl ?_
    | refine wG_pure (o_len_vwm rfl) ?_
    | refine wG_pure (o_not_d rfl) ?_
    | refine wG_p rfl (by first | exact rfl | omega) ?_
    | refine wG_pure (o_str2 rfl rfl rfl) ?_
    | refine wG_pure (e_istr rfl rfl (by omega)) ?_
    | refine wG_pure (e_istr0 rfl rfl (by omega)) ?_
    | refine wG_pure (o_not rfl) ?_
    | refine wG_pure (e_ia_vw0 rfl rfl (by omega) rfl) ?_
    | refine wG_pure (e_ia_vwp rfl rfl (by omega) rfl) ?_
    | refine wG_pure (e_ia_vwm rfl rfl (by omega) (by omega) rfl) ?_
    | refine wG_pure (e_ia_vwi rfl rfl (by omega) rfl) ?_
    | refine wG_pure (e_ia_vwn rfl rfl (by omega) (by omega) rfl) ?_
    | refine wG_n rfl rfl ?_
    | refine wG_u rfl rfl ?_
    | refine wG_new (o_mks rfl rfl (by omega) (by decide)) ?_))
  simp only [d1]
  repeat (first | refine wG_call cx rfl rfl ?_ | (first
    | refine wC_a rfl ?_
    | refine q_s rfl ?_
    | refine q_b rfl ?_
    | refine wG_nil ?_
    | refine wG_g rfl ?_
    | refine wG_pure (o_len_vwm rfl) ?_
    | refine wG_pure (o_not_d rfl) ?_
    | refine wG_p rfl (by first | exact rfl | omega) ?_
    | refine wG_pure (o_str2 rfl rfl rfl) ?_
    | refine wG_pure (e_istr rfl rfl (by omega)) ?_
    | refine wG_pure (e_istr0 rfl rfl (by omega)) ?_
    | refine wG_pure (o_not rfl) ?_
    | refine wG_pure (e_ia_vw0 rfl rfl (by omega) rfl) ?_
    | refine wG_pure (e_ia_vwp rfl rfl (by omega) rfl) ?_
    | refine wG_pure (e_ia_vwm rfl rfl (by omega) (by omega) rfl) ?_
    | refine wG_pure (e_ia_vwi rfl rfl (by omega) rfl) ?_
    | refine wG_pure (e_ia_vwn rfl rfl (by omega) (by omega) rfl) ?_
    | refine wG_n rfl rfl ?_
    | refine wG_u rfl rfl ?_
    | refine wG_new (o_mks rfl rfl (by omega) (by decide)) ?_))
  repeat (first | refine wC_dregE ?_ | refine wE_call1 cC rfl rfl rfl ?_ | (first
    | refine wC_a rfl ?_
    | refine q_s rfl ?_
    | refine q_b rfl ?_
    | refine wG_nil ?_
    | refine wG_g rfl ?_
    | refine wG_pure (o_len_vwm rfl) ?_
    | refine wG_pure (o_not_d rfl) ?_
    | refine wG_p rfl (by first | exact rfl | omega) ?_
    | refine wG_pure (o_str2 rfl rfl rfl) ?_
    | refine wG_pure (e_istr rfl rfl (by omega)) ?_
    | refine wG_pure (e_istr0 rfl rfl (by omega)) ?_
    | refine wG_pure (o_not rfl) ?_
    | refine wG_pure (e_ia_vw0 rfl rfl (by omega) rfl) ?_
    | refine wG_pure (e_ia_vwp rfl rfl (by omega) rfl) ?_
    | refine wG_pure (e_ia_vwm rfl rfl (by omega) (by omega) rfl) ?_
    | refine wG_pure (e_ia_vwi rfl rfl (by omega) rfl) ?_
    | refine wG_pure (e_ia_vwn rfl rfl (by omega) (by omega) rfl) ?_
    | refine wG_n rfl rfl ?_
    | refine wG_u rfl rfl ?_
    | refine wG_new (o_mks rfl rfl (by omega) (by decide)) ?_) | (first
    | refine wE_nil (by kernel_rfl) ?_
    | refine wE_gy rfl ?_
    | refine wE_gn rfl rfl rfl ?_
    | refine wE_gu rfl rfl ?_
    | refine wE_gnn rfl rfl rfl ?_
    | refine wE_v (o_len_vwm rfl) rfl ?_
    | refine wE_v (o_not_d rfl) rfl ?_
    | refine wE_p rfl (by first | exact rfl | omega) rfl ?_
    | refine wE_v (o_str2 rfl rfl rfl) rfl ?_
    | refine wE_v (e_istr rfl rfl (by omega)) rfl ?_
    | refine wE_v (e_istr0 rfl rfl (by omega)) rfl ?_
    | refine wE_v (o_not rfl) rfl ?_
    | refine wE_v (e_ia_vw0 rfl rfl (by omega) rfl) rfl ?_
    | refine wE_v (e_ia_vwp rfl rfl (by omega) rfl) rfl ?_
    | refine wE_v (e_ia_vwm rfl rfl (by omega) (by omega) rfl) rfl ?_
    | refine wE_v (e_ia_vwi rfl rfl (by omega) rfl) rfl ?_
    | refine wE_v (e_ia_vwn rfl rfl (by omega) (by omega) rfl) rfl ?_
    | refine wE_n rfl rfl rfl ?_
    | refine wE_u rfl rfl rfl ?_
    | refine wE_new (o_mks rfl rfl (by omega) (by decide)) rfl ?_))
  refine wG_callG (v' := dtV 5 r Y) cW (ag_any rfl (ag_int rfl (ag_is rfl rfl rfl iRow_plain ag_nil))) rfl rfl ?_
  change wpG _ _ _ ⟨_, dtH 5 r Y _, _⟩ _
  have hyO := dtO_len r Y
  obtain ⟨N, hN⟩ : ∃ N, 0 + 1 + 1 + 1 + 1 + 1 + (dtO r Y).length = N := ⟨_, rfl⟩
  rw [hN]
  have hx0 : ∀ {v1 v2 : Option Ab.Rows} {h : List (Nat × Option Ab.Rows)} (i : Nat) (rows : Ab.Rows), (dtO r Y)[i]? = some rows → hg ((N, v1) :: (N, v2) :: dtH 5 r Y h) (5 + i) = some (shR 5 rows) := fun i rows hi => by
    have := dtO_lt hi
    exact hg_skip (by omega) (hg_skip (by omega) (dtH_in hi))
  repeat (first | refine wG_upd (o_st_agg rfl hg_here rfl rfl rfl rfl rfl) ?_ | refine wG_pure (o_ldt_pt rfl hg_here rfl rfl rfl) ?_ | refine wG_call c4 (ag_any (dr_dt r Y hx0) ag_nil) rfl ?_ | refine wG_upd (o_st_agg rfl (hg_skip (by omega) (hg_skip (by omega) (dtH_out (by omega) rfl))) rfl rfl rfl rfl rfl) ?_ | (first
    | refine wC_a rfl ?_
    | refine q_s rfl ?_
    | refine q_b rfl ?_
    | refine wG_nil ?_
    | refine wG_g rfl ?_
    | refine wG_pure (o_len_vwm rfl) ?_
    | refine wG_pure (o_not_d rfl) ?_
    | refine wG_p rfl (by first | exact rfl | omega) ?_
    | refine wG_pure (o_str2 rfl rfl rfl) ?_
    | refine wG_pure (e_istr rfl rfl (by omega)) ?_
    | refine wG_pure (e_istr0 rfl rfl (by omega)) ?_
    | refine wG_pure (o_not rfl) ?_
    | refine wG_pure (e_ia_vw0 rfl rfl (by omega) rfl) ?_
    | refine wG_pure (e_ia_vwp rfl rfl (by omega) rfl) ?_
    | refine wG_pure (e_ia_vwm rfl rfl (by omega) (by omega) rfl) ?_
    | refine wG_pure (e_ia_vwi rfl rfl (by omega) rfl) ?_
    | refine wG_pure (e_ia_vwn rfl rfl (by omega) (by omega) rfl) ?_
    | refine wG_n rfl rfl ?_
    | refine wG_u rfl rfl ?_
    | refine wG_new (o_mks rfl rfl (by omega) (by decide)) ?_))
  have hπ : ∀ i, i < Y.length + 3 → πof ((List.range (Y.length + 3)).map (· + 5)) i = i + 5 := fun i hi => by simp [πof, hi]
  refine retG_gen (.inr rfl) (retVs_2 (retV_ldt rfl hg_here rfl rfl rfl) (retV_mv rfl)) ?_ (by simp [notOne, aY]) ?_ (by simp [dtO_len]) ?_ (fun i rows hi => ?_)
  · show [AV.agg [.sl 5 2 0 _, .sl (5 + 1) 2 0 _, .sl (5 + 2) 2 0 _], AV.bool true] = [AV.agg [.sl (πof _ 0) 2 0 _, .sl (πof _ 1) 2 0 _, .sl (πof _ 2) 2 0 _], AV.bool true]
    rw [hπ 0 (by omega), hπ 1 (by omega), hπ 2 (by omega)]
  · simp [aY, AV.ltr, ltrL, dtO_len]
  · unfold List.Nodup
    rw [List.pairwise_map]
    exact List.nodup_range.imp (fun h e => h (by omega))
  · have hi2 := dtO_lt hi
    rw [hπ i hi2, show i + 5 = 5 + i by omega]
    refine (hg_skip (by omega) (hx0 i rows hi)).trans (congrArg some ?_)
    match i, hi with
    | 0, hi => cases hi; rw [shR_plain (cRowsP _), ← rn_rows (cRowsP _)]
    | 1, hi => cases hi; rw [shR_plain (xRowsP _), ← rn_rows (xRowsP _)]
    | 2, hi =>
      cases hi
      rw [nR_sh]
      exact (nD_rn (fun j hj => by rw [hπ _ (by omega)]; omega)).symm
    | i + 3, hi =>
      have h6 : (nO hD Y Y.length)[i]? = some rows := hi
      rw [nO_get (by omega) (Nat.le_refl _)] at h6
      cases h6
      rw [shR_plain (rowsP _), ← rn_rows (rowsP _)]
theorem con17_yes (r : Rc) (xs : List Dn) (x : Int) (e : Ds) (h1 : r.cs.length ≤ 1048576) (h2 : r.xs.length ≤ 1048576) (h3 : xs.length ≤ 1048576) (hL : LenN xs 1048576) (he : e.ws.length ≤ 1048576) (hb : ∀ i, i < xs.length → (xs.getD i default).b = true) {k : Nat} (hG : GoodN r xs) (hk : idx r x = k) (hc : cmOK (xs.getD k default).d e) (hy : GoodN r (tD (yA xs k e))) : ConG Try.prog 17 true [.agg (dtR true true true r xs), .int .i64 x, .agg (dRow true e)] (aY r (yA xs k e).length) (dtO r (yA xs k e)) := by
  classical
  refine con_of_wpG mixed fun17 (by simp) ((List.range ((yA xs k e).length + 3)).map (fun i => if i < 3 then i + 8 else nmW 11 3 k (i - 3))) (dtO_nest r _) ?_
  unfold ac17 ro17
  simp only [zipT]
  have c1 := con24 true true true r xs h1 h2 h3 hL
  rw [decide_eq_true hG] at c1
  have cx := con53 true true r x h1
  have bx := idx_b r x
  rw [hk] at cx bx
  have hnl := hG.2.1
  have hkx : k < xs.length := by omega
  have cC := con54_yes (xs.getD k default).b true (xs.getD k default).d e (hL k hkx) he hc
  have hbd : (bth xs k e).ws.length ≤ 60 := hc.2.2.1.2
  have eb : mkO (xs.getD k default).d.f (cmL (xs.getD k default).d e) = bth xs k e := rfl
  rw [eb] at cC
  have sW := fun {h : List (Nat × Option Ab.Rows)} {nr q : Nat} hq hw => (sh55 (h := h) (nr := nr) (q := q) r xs h1 h2 h3 hL hb hkx (bth xs k e) (by omega) hq hw).1 hy
  have hyl := yA_len xs k e
  have ey : sx xs k (bth xs k e) = yA xs k e := rfl
  have d1 : decide ((k : Int) < 0) = false := decide_eq_false (by omega)
  have hgetY : ∀ j, j < xs.length → (yA xs k e).getD j default = if j = k then ⟨true, bth xs k e⟩ else xs.getD j default := fun j hj => by rw [← ey]; exact sx_get hj
  have hrW : ∀ b q j, j < xs.length → (rW b q k (bth xs k e) xs)[j]? = some [.int .i64 ((yA xs k e).getD j default).d.f, .sl (nmW b q k j) 1 0 ((yA xs k e).getD j default).d.ws.length] := fun b q j hj => by rw [← ey]; exact rW_get hj
  generalize hB : bth xs k e = B at *
  generalize hY : yA xs k e = Y at *
  unfold dYes dRow at cC
  unfold dRow
  repeat (first | refine wG_call c1 rfl rfl ?_ | refine wG_call cx rfl rfl ?_ | (first
    | refine wC_a rfl ?_
    | refine q_s rfl ?_
    | refine q_b rfl ?_
    | refine wG_nil ?_
    | refine wG_g rfl ?_
    | refine wG_pure (o_len_vwm rfl) ?_
    | refine wG_pure (o_not_d rfl) ?_
    | refine wG_p rfl (by first | exact rfl | omega) ?_
    | refine wG_pure (o_str2 rfl rfl rfl) ?_
    | refine wG_pure (e_istr rfl rfl (by omega)) ?_
    | refine wG_pure (e_istr0 rfl rfl (by omega)) ?_
    | refine wG_pure (o_not rfl) ?_
    | refine wG_pure (e_ia_vw0 rfl rfl (by omega) rfl) ?_
    | refine wG_pure (e_ia_vwp rfl rfl (by omega) rfl) ?_
    | refine wG_pure (e_ia_vwm rfl rfl (by omega) (by omega) rfl) ?_
    | refine wG_pure (e_ia_vwi rfl rfl (by omega) rfl) ?_
    | refine wG_pure (e_ia_vwn rfl rfl (by omega) (by omega) rfl) ?_
    | refine wG_n rfl rfl ?_
    | refine wG_u rfl rfl ?_
    | refine wG_new (o_mks rfl rfl (by omega) (by decide)) ?_))
  simp only [d1]
  repeat (first | refine wG_call cx rfl rfl ?_ | (first
    | refine wC_a rfl ?_
    | refine q_s rfl ?_
    | refine q_b rfl ?_
    | refine wG_nil ?_
    | refine wG_g rfl ?_
    | refine wG_pure (o_len_vwm rfl) ?_
    | refine wG_pure (o_not_d rfl) ?_
    | refine wG_p rfl (by first | exact rfl | omega) ?_
    | refine wG_pure (o_str2 rfl rfl rfl) ?_
    | refine wG_pure (e_istr rfl rfl (by omega)) ?_
    | refine wG_pure (e_istr0 rfl rfl (by omega)) ?_
    | refine wG_pure (o_not rfl) ?_
    | refine wG_pure (e_ia_vw0 rfl rfl (by omega) rfl) ?_
    | refine wG_pure (e_ia_vwp rfl rfl (by omega) rfl) ?_
    | refine wG_pure (e_ia_vwm rfl rfl (by omega) (by omega) rfl) ?_
    | refine wG_pure (e_ia_vwi rfl rfl (by omega) rfl) ?_
    | refine wG_pure (e_ia_vwn rfl rfl (by omega) (by omega) rfl) ?_
    | refine wG_n rfl rfl ?_
    | refine wG_u rfl rfl ?_
    | refine wG_new (o_mks rfl rfl (by omega) (by decide)) ?_))
  repeat (first | refine wC_dregE ?_ | refine wE_call1 cC rfl rfl rfl ?_ | (first
    | refine wC_a rfl ?_
    | refine q_s rfl ?_
    | refine q_b rfl ?_
    | refine wG_nil ?_
    | refine wG_g rfl ?_
    | refine wG_pure (o_len_vwm rfl) ?_
    | refine wG_pure (o_not_d rfl) ?_
    | refine wG_p rfl (by first | exact rfl | omega) ?_
    | refine wG_pure (o_str2 rfl rfl rfl) ?_
    | refine wG_pure (e_istr rfl rfl (by omega)) ?_
    | refine wG_pure (e_istr0 rfl rfl (by omega)) ?_
    | refine wG_pure (o_not rfl) ?_
    | refine wG_pure (e_ia_vw0 rfl rfl (by omega) rfl) ?_
    | refine wG_pure (e_ia_vwp rfl rfl (by omega) rfl) ?_
    | refine wG_pure (e_ia_vwm rfl rfl (by omega) (by omega) rfl) ?_
    | refine wG_pure (e_ia_vwi rfl rfl (by omega) rfl) ?_
    | refine wG_pure (e_ia_vwn rfl rfl (by omega) (by omega) rfl) ?_
    | refine wG_n rfl rfl ?_
    | refine wG_u rfl rfl ?_
    | refine wG_new (o_mks rfl rfl (by omega) (by decide)) ?_) | (first
    | refine wE_nil (by kernel_rfl) ?_
    | refine wE_gy rfl ?_
    | refine wE_gn rfl rfl rfl ?_
    | refine wE_gu rfl rfl ?_
    | refine wE_gnn rfl rfl rfl ?_
    | refine wE_v (o_len_vwm rfl) rfl ?_
    | refine wE_v (o_not_d rfl) rfl ?_
    | refine wE_p rfl (by first | exact rfl | omega) rfl ?_
    | refine wE_v (o_str2 rfl rfl rfl) rfl ?_
    | refine wE_v (e_istr rfl rfl (by omega)) rfl ?_
    | refine wE_v (e_istr0 rfl rfl (by omega)) rfl ?_
    | refine wE_v (o_not rfl) rfl ?_
    | refine wE_v (e_ia_vw0 rfl rfl (by omega) rfl) rfl ?_
    | refine wE_v (e_ia_vwp rfl rfl (by omega) rfl) rfl ?_
    | refine wE_v (e_ia_vwm rfl rfl (by omega) (by omega) rfl) rfl ?_
    | refine wE_v (e_ia_vwi rfl rfl (by omega) rfl) rfl ?_
    | refine wE_v (e_ia_vwn rfl rfl (by omega) (by omega) rfl) rfl ?_
    | refine wE_n rfl rfl rfl ?_
    | refine wE_u rfl rfl rfl ?_
    | refine wE_new (o_mks rfl rfl (by omega) (by decide)) rfl ?_))
  refine wG_callS (sW (nr := 5) (q := 3) (hg_skip (by decide) (hg_skip (by decide) hg_here)) (wfH_cons (by decide) (by simp [put, AV.ltr]) (wfH_cons (by decide) (by simp [AV.ltr]) (wfH_cons (by decide) (ltrI _ _) (wfH_cons (by decide) (by simp [AV.ltr]) (wfH_cons (by decide) (by simp [AV.ltr]) (wfH_cons (by decide) (by simp [AV.ltr]) wfH_nil))))))) rfl ?_
  repeat (first | refine wG_upd (o_st_agg rfl (hW_old (by decide) rfl) rfl rfl rfl rfl rfl) ?_ | (first
    | refine wC_a rfl ?_
    | refine q_s rfl ?_
    | refine q_b rfl ?_
    | refine wG_nil ?_
    | refine wG_g rfl ?_
    | refine wG_pure (o_len_vwm rfl) ?_
    | refine wG_pure (o_not_d rfl) ?_
    | refine wG_p rfl (by first | exact rfl | omega) ?_
    | refine wG_pure (o_str2 rfl rfl rfl) ?_
    | refine wG_pure (e_istr rfl rfl (by omega)) ?_
    | refine wG_pure (e_istr0 rfl rfl (by omega)) ?_
    | refine wG_pure (o_not rfl) ?_
    | refine wG_pure (e_ia_vw0 rfl rfl (by omega) rfl) ?_
    | refine wG_pure (e_ia_vwp rfl rfl (by omega) rfl) ?_
    | refine wG_pure (e_ia_vwm rfl rfl (by omega) (by omega) rfl) ?_
    | refine wG_pure (e_ia_vwi rfl rfl (by omega) rfl) ?_
    | refine wG_pure (e_ia_vwn rfl rfl (by omega) (by omega) rfl) ?_
    | refine wG_n rfl rfl ?_
    | refine wG_u rfl rfl ?_
    | refine wG_new (o_mks rfl rfl (by omega) (by decide)) ?_))
  have hπ : ∀ i, i < Y.length + 3 → πof ((List.range (Y.length + 3)).map (fun i => if i < 3 then i + 8 else nmW 11 3 k (i - 3))) i = if i < 3 then i + 8 else nmW 11 3 k (i - 3) := fun i hi => by simp [πof, hi]
  refine retG_gen (.inr rfl) (retVs_2 (retV_ldt rfl hg_here rfl rfl rfl) (retV_mv rfl)) ?_ (by simp [notOne, aY]) ?_ (by simp [dtO_len]) ?_ (fun i rows hi => ?_)
  · show [AV.agg [.sl (5 + 3) 2 0 _, .sl (5 + 4) 2 0 _, .sl (5 + 5) 2 0 xs.length], AV.bool true] = [AV.agg [.sl (πof _ 0) 2 0 _, .sl (πof _ 1) 2 0 _, .sl (πof _ 2) 2 0 Y.length], AV.bool true]
    rw [hπ 0 (by omega), hπ 1 (by omega), hπ 2 (by omega), hyl]; rfl
  · simp [aY, AV.ltr, ltrL, dtO_len]
  · unfold List.Nodup
    rw [List.pairwise_map]
    exact List.nodup_range.imp (fun h e => h (by unfold nmW at e; split at e <;> split at e <;> (try split at e) <;> (try split at e) <;> omega))
  · have hi2 := dtO_lt hi
    rw [hπ i hi2]
    match i, hi with
    | 0, hi =>
      cases hi
      rw [← rn_rows (cRowsP _), if_pos (by omega)]
      exact hg_skip (by decide) (hW_3 (nr := 5))
    | 1, hi =>
      cases hi
      rw [← rn_rows (xRowsP _), if_pos (by omega)]
      exact hg_skip (by decide) (hW_4 (nr := 5))
    | 2, hi =>
      cases hi
      rw [if_pos (by omega)]
      refine (hg_skip (by decide) (hW_5 (nr := 5))).trans (congrArg some ?_)
      refine List.ext_getElem? fun j => ?_
      by_cases hj : j < xs.length
      · rw [hrW _ _ _ hj, List.getElem?_map, nR_row (by omega)]
        show _ = some [AV.int .i64 _, AV.sl (πof _ (3 + j)) 1 0 _]
        rw [hπ _ (by omega), if_neg (by omega), show 3 + j - 3 = j by omega]
      · rw [List.getElem?_eq_none (by rw [rW_len]; omega), List.getElem?_eq_none (by rw [List.length_map, nR_len]; omega)]
    | i + 3, hi =>
      have h6 : (nO hD Y Y.length)[i]? = some rows := hi
      rw [nO_get (by omega) (Nat.le_refl _)] at h6
      cases h6
      have hix : i < xs.length := by omega
      rw [← rn_rows (rowsP _), if_neg (by omega), show i + 3 - 3 = i by omega]
      show _ = some ((Y.getD i default).d.ws.map iRow)
      rw [hgetY i hix]
      unfold nmW
      by_cases hik : i = k
      · rw [if_pos hik, if_pos hik]
        exact hg_skip (by decide) (hW_old (by decide) rfl)
      · rw [if_neg hik, if_neg hik]
        exact hg_skip (by omega) (hW_j (nr := 5) hix)
theorem con14_no1 (r : Rc) (xs : List Dn) (x : Int) (e : Ds) (h1 : r.cs.length ≤ 1048576) (h2 : r.xs.length ≤ 1048576) (h3 : xs.length ≤ 1048576) (hL : LenN xs 1048576) (he : e.ws.length ≤ 1048576) (hk : ¬ (GoodN r xs ∧ 0 ≤ idx r x ∧ cmOK (xs.getD (idx r x).toNat default).d e)) : Con Try.prog 14 true [.agg (dtR true true true r xs), .int .i64 x, .agg (dRow true e)] aNo [] := by
  classical
  refine con_of_wp mixed fun14 (by simp) [] plain_nil ?_
  unfold ac14 ro14
  simp only [zipT]
  have c1 := con47 true true true r xs h1 h2 h3 hL
  have cx := con48 true true r x h1
  have bx := idx_b r x
  by_cases hG : GoodN r xs
  case neg =>
    rw [decide_eq_false hG] at c1
    repeat (first | refine wG_call c1 rfl rfl ?_ | refine wG_call cx rfl rfl ?_ | (first
    | refine wC_a rfl ?_
    | refine q_s rfl ?_
    | refine q_b rfl ?_
    | refine wG_nil ?_
    | refine wG_g rfl ?_
    | refine wG_pure (o_len_vwm rfl) ?_
    | refine wG_pure (o_not_d rfl) ?_
    | refine wG_p rfl (by first | exact rfl | omega) ?_
    | refine wG_pure (o_str2 rfl rfl rfl) ?_
    | refine wG_pure (e_istr rfl rfl (by omega)) ?_
    | refine wG_pure (e_istr0 rfl rfl (by omega)) ?_
    | refine wG_pure (o_not rfl) ?_
    | refine wG_pure (e_ia_vw0 rfl rfl (by omega) rfl) ?_
    | refine wG_pure (e_ia_vwp rfl rfl (by omega) rfl) ?_
    | refine wG_pure (e_ia_vwm rfl rfl (by omega) (by omega) rfl) ?_
    | refine wG_pure (e_ia_vwi rfl rfl (by omega) rfl) ?_
    | refine wG_pure (e_ia_vwn rfl rfl (by omega) (by omega) rfl) ?_
    | refine wG_n rfl rfl ?_
    | refine wG_u rfl rfl ?_
    | refine wG_new (o_mks rfl rfl (by omega) (by decide)) ?_))
    exact ret_gen (.inr rfl) (retVs_2 (retV_ldt rfl rfl rfl rfl rfl) (retV_mv rfl)) rfl (by simp [notOne, aNo]) rfl rfl List.nodup_nil (fun i rows h => by simp at h)
  rw [decide_eq_true hG] at c1
  have hnl := hG.2.1
  by_cases hx : 0 ≤ idx r x
  case neg =>
    have d1 : decide (idx r x < 0) = true := decide_eq_true (Int.not_le.1 hx)
    repeat (first | refine wG_call c1 rfl rfl ?_ | refine wG_call cx rfl rfl ?_ | (first
    | refine wC_a rfl ?_
    | refine q_s rfl ?_
    | refine q_b rfl ?_
    | refine wG_nil ?_
    | refine wG_g rfl ?_
    | refine wG_pure (o_len_vwm rfl) ?_
    | refine wG_pure (o_not_d rfl) ?_
    | refine wG_p rfl (by first | exact rfl | omega) ?_
    | refine wG_pure (o_str2 rfl rfl rfl) ?_
    | refine wG_pure (e_istr rfl rfl (by omega)) ?_
    | refine wG_pure (e_istr0 rfl rfl (by omega)) ?_
    | refine wG_pure (o_not rfl) ?_
    | refine wG_pure (e_ia_vw0 rfl rfl (by omega) rfl) ?_
    | refine wG_pure (e_ia_vwp rfl rfl (by omega) rfl) ?_
    | refine wG_pure (e_ia_vwm rfl rfl (by omega) (by omega) rfl) ?_
    | refine wG_pure (e_ia_vwi rfl rfl (by omega) rfl) ?_
    | refine wG_pure (e_ia_vwn rfl rfl (by omega) (by omega) rfl) ?_
    | refine wG_n rfl rfl ?_
    | refine wG_u rfl rfl ?_
    | refine wG_new (o_mks rfl rfl (by omega) (by decide)) ?_))
    simp only [d1]
    repeat (first
    | refine wC_a rfl ?_
    | refine q_s rfl ?_
    | refine q_b rfl ?_
    | refine wG_nil ?_
    | refine wG_g rfl ?_
    | refine wG_pure (o_len_vwm rfl) ?_
    | refine wG_pure (o_not_d rfl) ?_
    | refine wG_p rfl (by first | exact rfl | omega) ?_
    | refine wG_pure (o_str2 rfl rfl rfl) ?_
    | refine wG_pure (e_istr rfl rfl (by omega)) ?_
    | refine wG_pure (e_istr0 rfl rfl (by omega)) ?_
    | refine wG_pure (o_not rfl) ?_
    | refine wG_pure (e_ia_vw0 rfl rfl (by omega) rfl) ?_
    | refine wG_pure (e_ia_vwp rfl rfl (by omega) rfl) ?_
    | refine wG_pure (e_ia_vwm rfl rfl (by omega) (by omega) rfl) ?_
    | refine wG_pure (e_ia_vwi rfl rfl (by omega) rfl) ?_
    | refine wG_pure (e_ia_vwn rfl rfl (by omega) (by omega) rfl) ?_
    | refine wG_n rfl rfl ?_
    | refine wG_u rfl rfl ?_
    | refine wG_new (o_mks rfl rfl (by omega) (by decide)) ?_)
    exact ret_gen (.inr rfl) (retVs_2 (retV_ldt rfl rfl rfl rfl rfl) (retV_mv rfl)) rfl (by simp [notOne, aNo]) rfl rfl List.nodup_nil (fun i rows h => by simp at h)
  obtain ⟨k, hkk⟩ : ∃ k : Nat, idx r x = k := ⟨_, (Int.toNat_of_nonneg hx).symm⟩
  rw [hkk] at cx bx hk
  rw [Int.toNat_natCast] at hk
  have hkx : k < xs.length := by omega
  have d1 : decide ((k : Int) < 0) = false := decide_eq_false (by omega)
  have cC := con49_no (xs.getD k default).b true (xs.getD k default).d e (hL k hkx) he (fun h => hk ⟨hG, by omega, h⟩)
  unfold dNo dRow at cC
  unfold dRow
  repeat (first | refine wG_call c1 rfl rfl ?_ | refine wG_call cx rfl rfl ?_ | (first
    | refine wC_a rfl ?_
    | refine q_s rfl ?_
    | refine q_b rfl ?_
    | refine wG_nil ?_
    | refine wG_g rfl ?_
    | refine wG_pure (o_len_vwm rfl) ?_
    | refine wG_pure (o_not_d rfl) ?_
    | refine wG_p rfl (by first | exact rfl | omega) ?_
    | refine wG_pure (o_str2 rfl rfl rfl) ?_
    | refine wG_pure (e_istr rfl rfl (by omega)) ?_
    | refine wG_pure (e_istr0 rfl rfl (by omega)) ?_
    | refine wG_pure (o_not rfl) ?_
    | refine wG_pure (e_ia_vw0 rfl rfl (by omega) rfl) ?_
    | refine wG_pure (e_ia_vwp rfl rfl (by omega) rfl) ?_
    | refine wG_pure (e_ia_vwm rfl rfl (by omega) (by omega) rfl) ?_
    | refine wG_pure (e_ia_vwi rfl rfl (by omega) rfl) ?_
    | refine wG_pure (e_ia_vwn rfl rfl (by omega) (by omega) rfl) ?_
    | refine wG_n rfl rfl ?_
    | refine wG_u rfl rfl ?_
    | refine wG_new (o_mks rfl rfl (by omega) (by decide)) ?_))
  simp only [d1]
  repeat (first | refine wG_call cx rfl rfl ?_ | (first
    | refine wC_a rfl ?_
    | refine q_s rfl ?_
    | refine q_b rfl ?_
    | refine wG_nil ?_
    | refine wG_g rfl ?_
    | refine wG_pure (o_len_vwm rfl) ?_
    | refine wG_pure (o_not_d rfl) ?_
    | refine wG_p rfl (by first | exact rfl | omega) ?_
    | refine wG_pure (o_str2 rfl rfl rfl) ?_
    | refine wG_pure (e_istr rfl rfl (by omega)) ?_
    | refine wG_pure (e_istr0 rfl rfl (by omega)) ?_
    | refine wG_pure (o_not rfl) ?_
    | refine wG_pure (e_ia_vw0 rfl rfl (by omega) rfl) ?_
    | refine wG_pure (e_ia_vwp rfl rfl (by omega) rfl) ?_
    | refine wG_pure (e_ia_vwm rfl rfl (by omega) (by omega) rfl) ?_
    | refine wG_pure (e_ia_vwi rfl rfl (by omega) rfl) ?_
    | refine wG_pure (e_ia_vwn rfl rfl (by omega) (by omega) rfl) ?_
    | refine wG_n rfl rfl ?_
    | refine wG_u rfl rfl ?_
    | refine wG_new (o_mks rfl rfl (by omega) (by decide)) ?_))
  repeat (first | refine wC_dregE ?_ | refine wE_call cC rfl rfl rfl ?_ | (first
    | refine wC_a rfl ?_
    | refine q_s rfl ?_
    | refine q_b rfl ?_
    | refine wG_nil ?_
    | refine wG_g rfl ?_
    | refine wG_pure (o_len_vwm rfl) ?_
    | refine wG_pure (o_not_d rfl) ?_
    | refine wG_p rfl (by first | exact rfl | omega) ?_
    | refine wG_pure (o_str2 rfl rfl rfl) ?_
    | refine wG_pure (e_istr rfl rfl (by omega)) ?_
    | refine wG_pure (e_istr0 rfl rfl (by omega)) ?_
    | refine wG_pure (o_not rfl) ?_
    | refine wG_pure (e_ia_vw0 rfl rfl (by omega) rfl) ?_
    | refine wG_pure (e_ia_vwp rfl rfl (by omega) rfl) ?_
    | refine wG_pure (e_ia_vwm rfl rfl (by omega) (by omega) rfl) ?_
    | refine wG_pure (e_ia_vwi rfl rfl (by omega) rfl) ?_
    | refine wG_pure (e_ia_vwn rfl rfl (by omega) (by omega) rfl) ?_
    | refine wG_n rfl rfl ?_
    | refine wG_u rfl rfl ?_
    | refine wG_new (o_mks rfl rfl (by omega) (by decide)) ?_) | (first
    | refine wE_nil (by kernel_rfl) ?_
    | refine wE_gy rfl ?_
    | refine wE_gn rfl rfl rfl ?_
    | refine wE_gu rfl rfl ?_
    | refine wE_gnn rfl rfl rfl ?_
    | refine wE_v (o_len_vwm rfl) rfl ?_
    | refine wE_v (o_not_d rfl) rfl ?_
    | refine wE_p rfl (by first | exact rfl | omega) rfl ?_
    | refine wE_v (o_str2 rfl rfl rfl) rfl ?_
    | refine wE_v (e_istr rfl rfl (by omega)) rfl ?_
    | refine wE_v (e_istr0 rfl rfl (by omega)) rfl ?_
    | refine wE_v (o_not rfl) rfl ?_
    | refine wE_v (e_ia_vw0 rfl rfl (by omega) rfl) rfl ?_
    | refine wE_v (e_ia_vwp rfl rfl (by omega) rfl) rfl ?_
    | refine wE_v (e_ia_vwm rfl rfl (by omega) (by omega) rfl) rfl ?_
    | refine wE_v (e_ia_vwi rfl rfl (by omega) rfl) rfl ?_
    | refine wE_v (e_ia_vwn rfl rfl (by omega) (by omega) rfl) rfl ?_
    | refine wE_n rfl rfl rfl ?_
    | refine wE_u rfl rfl rfl ?_
    | refine wE_new (o_mks rfl rfl (by omega) (by decide)) rfl ?_))
  exact ret_gen (.inr rfl) (retVs_2 (retV_ldt rfl rfl rfl rfl rfl) (retV_mv rfl)) rfl (by simp [notOne, aNo]) rfl rfl List.nodup_nil (fun i rows h => by simp at h)
theorem con17_no1 (r : Rc) (xs : List Dn) (x : Int) (e : Ds) (h1 : r.cs.length ≤ 1048576) (h2 : r.xs.length ≤ 1048576) (h3 : xs.length ≤ 1048576) (hL : LenN xs 1048576) (he : e.ws.length ≤ 1048576) (hk : ¬ (GoodN r xs ∧ 0 ≤ idx r x ∧ cmOK (xs.getD (idx r x).toNat default).d e)) : Con Try.prog 17 true [.agg (dtR true true true r xs), .int .i64 x, .agg (dRow true e)] aNo [] := by
  classical
  refine con_of_wp mixed fun17 (by simp) [] plain_nil ?_
  unfold ac17 ro17
  simp only [zipT]
  have c1 := con24 true true true r xs h1 h2 h3 hL
  have cx := con53 true true r x h1
  have bx := idx_b r x
  by_cases hG : GoodN r xs
  case neg =>
    rw [decide_eq_false hG] at c1
    repeat (first | refine wG_call c1 rfl rfl ?_ | refine wG_call cx rfl rfl ?_ | (first
    | refine wC_a rfl ?_
    | refine q_s rfl ?_
    | refine q_b rfl ?_
    | refine wG_nil ?_
    | refine wG_g rfl ?_
    | refine wG_pure (o_len_vwm rfl) ?_
    | refine wG_pure (o_not_d rfl) ?_
    | refine wG_p rfl (by first | exact rfl | omega) ?_
    | refine wG_pure (o_str2 rfl rfl rfl) ?_
    | refine wG_pure (e_istr rfl rfl (by omega)) ?_
    | refine wG_pure (e_istr0 rfl rfl (by omega)) ?_
    | refine wG_pure (o_not rfl) ?_
    | refine wG_pure (e_ia_vw0 rfl rfl (by omega) rfl) ?_
    | refine wG_pure (e_ia_vwp rfl rfl (by omega) rfl) ?_
    | refine wG_pure (e_ia_vwm rfl rfl (by omega) (by omega) rfl) ?_
    | refine wG_pure (e_ia_vwi rfl rfl (by omega) rfl) ?_
    | refine wG_pure (e_ia_vwn rfl rfl (by omega) (by omega) rfl) ?_
    | refine wG_n rfl rfl ?_
    | refine wG_u rfl rfl ?_
    | refine wG_new (o_mks rfl rfl (by omega) (by decide)) ?_))
    exact ret_gen (.inr rfl) (retVs_2 (retV_ldt rfl rfl rfl rfl rfl) (retV_mv rfl)) rfl (by simp [notOne, aNo]) rfl rfl List.nodup_nil (fun i rows h => by simp at h)
  rw [decide_eq_true hG] at c1
  have hnl := hG.2.1
  by_cases hx : 0 ≤ idx r x
  case neg =>
    have d1 : decide (idx r x < 0) = true := decide_eq_true (Int.not_le.1 hx)
    repeat (first | refine wG_call c1 rfl rfl ?_ | refine wG_call cx rfl rfl ?_ | (first
    | refine wC_a rfl ?_
    | refine q_s rfl ?_
    | refine q_b rfl ?_
    | refine wG_nil ?_
    | refine wG_g rfl ?_
    | refine wG_pure (o_len_vwm rfl) ?_
    | refine wG_pure (o_not_d rfl) ?_
    | refine wG_p rfl (by first | exact rfl | omega) ?_
    | refine wG_pure (o_str2 rfl rfl rfl) ?_
    | refine wG_pure (e_istr rfl rfl (by omega)) ?_
    | refine wG_pure (e_istr0 rfl rfl (by omega)) ?_
    | refine wG_pure (o_not rfl) ?_
    | refine wG_pure (e_ia_vw0 rfl rfl (by omega) rfl) ?_
    | refine wG_pure (e_ia_vwp rfl rfl (by omega) rfl) ?_
    | refine wG_pure (e_ia_vwm rfl rfl (by omega) (by omega) rfl) ?_
    | refine wG_pure (e_ia_vwi rfl rfl (by omega) rfl) ?_
    | refine wG_pure (e_ia_vwn rfl rfl (by omega) (by omega) rfl) ?_
    | refine wG_n rfl rfl ?_
    | refine wG_u rfl rfl ?_
    | refine wG_new (o_mks rfl rfl (by omega) (by decide)) ?_))
    simp only [d1]
    repeat (first
    | refine wC_a rfl ?_
    | refine q_s rfl ?_
    | refine q_b rfl ?_
    | refine wG_nil ?_
    | refine wG_g rfl ?_
    | refine wG_pure (o_len_vwm rfl) ?_
    | refine wG_pure (o_not_d rfl) ?_
    | refine wG_p rfl (by first | exact rfl | omega) ?_
    | refine wG_pure (o_str2 rfl rfl rfl) ?_
    | refine wG_pure (e_istr rfl rfl (by omega)) ?_
    | refine wG_pure (e_istr0 rfl rfl (by omega)) ?_
    | refine wG_pure (o_not rfl) ?_
    | refine wG_pure (e_ia_vw0 rfl rfl (by omega) rfl) ?_
    | refine wG_pure (e_ia_vwp rfl rfl (by omega) rfl) ?_
    | refine wG_pure (e_ia_vwm rfl rfl (by omega) (by omega) rfl) ?_
    | refine wG_pure (e_ia_vwi rfl rfl (by omega) rfl) ?_
    | refine wG_pure (e_ia_vwn rfl rfl (by omega) (by omega) rfl) ?_
    | refine wG_n rfl rfl ?_
    | refine wG_u rfl rfl ?_
    | refine wG_new (o_mks rfl rfl (by omega) (by decide)) ?_)
    exact ret_gen (.inr rfl) (retVs_2 (retV_ldt rfl rfl rfl rfl rfl) (retV_mv rfl)) rfl (by simp [notOne, aNo]) rfl rfl List.nodup_nil (fun i rows h => by simp at h)
  obtain ⟨k, hkk⟩ : ∃ k : Nat, idx r x = k := ⟨_, (Int.toNat_of_nonneg hx).symm⟩
  rw [hkk] at cx bx hk
  rw [Int.toNat_natCast] at hk
  have hkx : k < xs.length := by omega
  have d1 : decide ((k : Int) < 0) = false := decide_eq_false (by omega)
  have cC := con54_no (xs.getD k default).b true (xs.getD k default).d e (hL k hkx) he (fun h => hk ⟨hG, by omega, h⟩)
  unfold dNo dRow at cC
  unfold dRow
  repeat (first | refine wG_call c1 rfl rfl ?_ | refine wG_call cx rfl rfl ?_ | (first
    | refine wC_a rfl ?_
    | refine q_s rfl ?_
    | refine q_b rfl ?_
    | refine wG_nil ?_
    | refine wG_g rfl ?_
    | refine wG_pure (o_len_vwm rfl) ?_
    | refine wG_pure (o_not_d rfl) ?_
    | refine wG_p rfl (by first | exact rfl | omega) ?_
    | refine wG_pure (o_str2 rfl rfl rfl) ?_
    | refine wG_pure (e_istr rfl rfl (by omega)) ?_
    | refine wG_pure (e_istr0 rfl rfl (by omega)) ?_
    | refine wG_pure (o_not rfl) ?_
    | refine wG_pure (e_ia_vw0 rfl rfl (by omega) rfl) ?_
    | refine wG_pure (e_ia_vwp rfl rfl (by omega) rfl) ?_
    | refine wG_pure (e_ia_vwm rfl rfl (by omega) (by omega) rfl) ?_
    | refine wG_pure (e_ia_vwi rfl rfl (by omega) rfl) ?_
    | refine wG_pure (e_ia_vwn rfl rfl (by omega) (by omega) rfl) ?_
    | refine wG_n rfl rfl ?_
    | refine wG_u rfl rfl ?_
    | refine wG_new (o_mks rfl rfl (by omega) (by decide)) ?_))
  simp only [d1]
  repeat (first | refine wG_call cx rfl rfl ?_ | (first
    | refine wC_a rfl ?_
    | refine q_s rfl ?_
    | refine q_b rfl ?_
    | refine wG_nil ?_
    | refine wG_g rfl ?_
    | refine wG_pure (o_len_vwm rfl) ?_
    | refine wG_pure (o_not_d rfl) ?_
    | refine wG_p rfl (by first | exact rfl | omega) ?_
    | refine wG_pure (o_str2 rfl rfl rfl) ?_
    | refine wG_pure (e_istr rfl rfl (by omega)) ?_
    | refine wG_pure (e_istr0 rfl rfl (by omega)) ?_
    | refine wG_pure (o_not rfl) ?_
    | refine wG_pure (e_ia_vw0 rfl rfl (by omega) rfl) ?_
    | refine wG_pure (e_ia_vwp rfl rfl (by omega) rfl) ?_
    | refine wG_pure (e_ia_vwm rfl rfl (by omega) (by omega) rfl) ?_
    | refine wG_pure (e_ia_vwi rfl rfl (by omega) rfl) ?_
    | refine wG_pure (e_ia_vwn rfl rfl (by omega) (by omega) rfl) ?_
    | refine wG_n rfl rfl ?_
    | refine wG_u rfl rfl ?_
    | refine wG_new (o_mks rfl rfl (by omega) (by decide)) ?_))
  repeat (first | refine wC_dregE ?_ | refine wE_call cC rfl rfl rfl ?_ | (first
    | refine wC_a rfl ?_
    | refine q_s rfl ?_
    | refine q_b rfl ?_
    | refine wG_nil ?_
    | refine wG_g rfl ?_
    | refine wG_pure (o_len_vwm rfl) ?_
    | refine wG_pure (o_not_d rfl) ?_
    | refine wG_p rfl (by first | exact rfl | omega) ?_
    | refine wG_pure (o_str2 rfl rfl rfl) ?_
    | refine wG_pure (e_istr rfl rfl (by omega)) ?_
    | refine wG_pure (e_istr0 rfl rfl (by omega)) ?_
    | refine wG_pure (o_not rfl) ?_
    | refine wG_pure (e_ia_vw0 rfl rfl (by omega) rfl) ?_
    | refine wG_pure (e_ia_vwp rfl rfl (by omega) rfl) ?_
    | refine wG_pure (e_ia_vwm rfl rfl (by omega) (by omega) rfl) ?_
    | refine wG_pure (e_ia_vwi rfl rfl (by omega) rfl) ?_
    | refine wG_pure (e_ia_vwn rfl rfl (by omega) (by omega) rfl) ?_
    | refine wG_n rfl rfl ?_
    | refine wG_u rfl rfl ?_
    | refine wG_new (o_mks rfl rfl (by omega) (by decide)) ?_) | (first
    | refine wE_nil (by kernel_rfl) ?_
    | refine wE_gy rfl ?_
    | refine wE_gn rfl rfl rfl ?_
    | refine wE_gu rfl rfl ?_
    | refine wE_gnn rfl rfl rfl ?_
    | refine wE_v (o_len_vwm rfl) rfl ?_
    | refine wE_v (o_not_d rfl) rfl ?_
    | refine wE_p rfl (by first | exact rfl | omega) rfl ?_
    | refine wE_v (o_str2 rfl rfl rfl) rfl ?_
    | refine wE_v (e_istr rfl rfl (by omega)) rfl ?_
    | refine wE_v (e_istr0 rfl rfl (by omega)) rfl ?_
    | refine wE_v (o_not rfl) rfl ?_
    | refine wE_v (e_ia_vw0 rfl rfl (by omega) rfl) rfl ?_
    | refine wE_v (e_ia_vwp rfl rfl (by omega) rfl) rfl ?_
    | refine wE_v (e_ia_vwm rfl rfl (by omega) (by omega) rfl) rfl ?_
    | refine wE_v (e_ia_vwi rfl rfl (by omega) rfl) rfl ?_
    | refine wE_v (e_ia_vwn rfl rfl (by omega) (by omega) rfl) rfl ?_
    | refine wE_n rfl rfl rfl ?_
    | refine wE_u rfl rfl rfl ?_
    | refine wE_new (o_mks rfl rfl (by omega) (by decide)) rfl ?_))
  exact ret_gen (.inr rfl) (retVs_2 (retV_ldt rfl rfl rfl rfl rfl) (retV_mv rfl)) rfl (by simp [notOne, aNo]) rfl rfl List.nodup_nil (fun i rows h => by simp at h)
theorem con14_no2 (r : Rc) (xs : List Dn) (x : Int) (e : Ds) (h1 : r.cs.length ≤ 1048576) (h2 : r.xs.length ≤ 1048576) (h3 : xs.length ≤ 1048576) (hL : LenN xs 1048576) (he : e.ws.length ≤ 1048576) (hb : ∀ i, i < xs.length → (xs.getD i default).b = true) {k : Nat} (hG : GoodN r xs) (hk : idx r x = k) (hc : cmOK (xs.getD k default).d e) (hy : ¬ GoodN r (tD (yA xs k e))) : Con Try.prog 14 true [.agg (dtR true true true r xs), .int .i64 x, .agg (dRow true e)] aNo [] := by
  classical
  refine con_of_wp mixed fun14 (by simp) [] plain_nil ?_
  unfold ac14 ro14
  simp only [zipT]
  have c1 := con47 true true true r xs h1 h2 h3 hL
  rw [decide_eq_true hG] at c1
  have cx := con48 true true r x h1
  have bx := idx_b r x
  rw [hk] at cx bx
  have hnl := hG.2.1
  have hkx : k < xs.length := by omega
  have cC := con49_yes (xs.getD k default).b true (xs.getD k default).d e (hL k hkx) he hc
  have hbd : (bth xs k e).ws.length ≤ 60 := hc.2.2.1.2
  have eb : mkO (xs.getD k default).d.f (cmL (xs.getD k default).d e) = bth xs k e := rfl
  rw [eb] at cC
  have cW := con50 r xs h1 h2 h3 hL hkx (bth xs k e) (by omega)
  have ey : sx xs k (bth xs k e) = yA xs k e := rfl
  rw [ey] at cW
  have hyl := yA_len xs k e
  have c4 := con47 true true true r (tD (yA xs k e)) h1 h2 (by rw [tD_len]; omega) (fun j hj => by
    rw [tD_len, hyl] at hj
    rw [tD_d]
    show (((sx xs k (bth xs k e))).getD j default).d.ws.length ≤ _
    rw [sx_get hj]
    split
    · show (bth xs k e).ws.length ≤ _; omega
    · exact hL j hj)
  rw [decide_eq_false hy] at c4
  have d1 : decide ((k : Int) < 0) = false := decide_eq_false (by omega)
  generalize hB : bth xs k e = B at *
  generalize hY : yA xs k e = Y at *
  unfold dYes dRow at cC
  unfold dRow at cW
  unfold dRow
  repeat (first | refine wG_call c1 rfl rfl ?_ | refine wG_call cx rfl rfl ?_ | (first
    | refine wC_a rfl ?_
    | refine q_s rfl ?_
    | refine q_b rfl ?_
    | refine wG_nil ?_
    | refine wG_g rfl ?_
    | refine wG_pure (o_len_vwm rfl) ?_
    | refine wG_pure (o_not_d rfl) ?_
    | refine wG_p rfl (by first | exact rfl | omega) ?_
    | refine wG_pure (o_str2 rfl rfl rfl) ?_
    | refine wG_pure (e_istr rfl rfl (by omega)) ?_
    | refine wG_pure (e_istr0 rfl rfl (by omega)) ?_
    | refine wG_pure (o_not rfl) ?_
    | refine wG_pure (e_ia_vw0 rfl rfl (by omega) rfl) ?_
    | refine wG_pure (e_ia_vwp rfl rfl (by omega) rfl) ?_
    | refine wG_pure (e_ia_vwm rfl rfl (by omega) (by omega) rfl) ?_
    | refine wG_pure (e_ia_vwi rfl rfl (by omega) rfl) ?_
    | refine wG_pure (e_ia_vwn rfl rfl (by omega) (by omega) rfl) ?_
    | refine wG_n rfl rfl ?_
    | refine wG_u rfl rfl ?_
    | refine wG_new (o_mks rfl rfl (by omega) (by decide)) ?_))
  simp only [d1]
  repeat (first | refine wG_call cx rfl rfl ?_ | (first
    | refine wC_a rfl ?_
    | refine q_s rfl ?_
    | refine q_b rfl ?_
    | refine wG_nil ?_
    | refine wG_g rfl ?_
    | refine wG_pure (o_len_vwm rfl) ?_
    | refine wG_pure (o_not_d rfl) ?_
    | refine wG_p rfl (by first | exact rfl | omega) ?_
    | refine wG_pure (o_str2 rfl rfl rfl) ?_
    | refine wG_pure (e_istr rfl rfl (by omega)) ?_
    | refine wG_pure (e_istr0 rfl rfl (by omega)) ?_
    | refine wG_pure (o_not rfl) ?_
    | refine wG_pure (e_ia_vw0 rfl rfl (by omega) rfl) ?_
    | refine wG_pure (e_ia_vwp rfl rfl (by omega) rfl) ?_
    | refine wG_pure (e_ia_vwm rfl rfl (by omega) (by omega) rfl) ?_
    | refine wG_pure (e_ia_vwi rfl rfl (by omega) rfl) ?_
    | refine wG_pure (e_ia_vwn rfl rfl (by omega) (by omega) rfl) ?_
    | refine wG_n rfl rfl ?_
    | refine wG_u rfl rfl ?_
    | refine wG_new (o_mks rfl rfl (by omega) (by decide)) ?_))
  repeat (first | refine wC_dregE ?_ | refine wE_call1 cC rfl rfl rfl ?_ | (first
    | refine wC_a rfl ?_
    | refine q_s rfl ?_
    | refine q_b rfl ?_
    | refine wG_nil ?_
    | refine wG_g rfl ?_
    | refine wG_pure (o_len_vwm rfl) ?_
    | refine wG_pure (o_not_d rfl) ?_
    | refine wG_p rfl (by first | exact rfl | omega) ?_
    | refine wG_pure (o_str2 rfl rfl rfl) ?_
    | refine wG_pure (e_istr rfl rfl (by omega)) ?_
    | refine wG_pure (e_istr0 rfl rfl (by omega)) ?_
    | refine wG_pure (o_not rfl) ?_
    | refine wG_pure (e_ia_vw0 rfl rfl (by omega) rfl) ?_
    | refine wG_pure (e_ia_vwp rfl rfl (by omega) rfl) ?_
    | refine wG_pure (e_ia_vwm rfl rfl (by omega) (by omega) rfl) ?_
    | refine wG_pure (e_ia_vwi rfl rfl (by omega) rfl) ?_
    | refine wG_pure (e_ia_vwn rfl rfl (by omega) (by omega) rfl) ?_
    | refine wG_n rfl rfl ?_
    | refine wG_u rfl rfl ?_
    | refine wG_new (o_mks rfl rfl (by omega) (by decide)) ?_) | (first
    | refine wE_nil (by kernel_rfl) ?_
    | refine wE_gy rfl ?_
    | refine wE_gn rfl rfl rfl ?_
    | refine wE_gu rfl rfl ?_
    | refine wE_gnn rfl rfl rfl ?_
    | refine wE_v (o_len_vwm rfl) rfl ?_
    | refine wE_v (o_not_d rfl) rfl ?_
    | refine wE_p rfl (by first | exact rfl | omega) rfl ?_
    | refine wE_v (o_str2 rfl rfl rfl) rfl ?_
    | refine wE_v (e_istr rfl rfl (by omega)) rfl ?_
    | refine wE_v (e_istr0 rfl rfl (by omega)) rfl ?_
    | refine wE_v (o_not rfl) rfl ?_
    | refine wE_v (e_ia_vw0 rfl rfl (by omega) rfl) rfl ?_
    | refine wE_v (e_ia_vwp rfl rfl (by omega) rfl) rfl ?_
    | refine wE_v (e_ia_vwm rfl rfl (by omega) (by omega) rfl) rfl ?_
    | refine wE_v (e_ia_vwi rfl rfl (by omega) rfl) rfl ?_
    | refine wE_v (e_ia_vwn rfl rfl (by omega) (by omega) rfl) rfl ?_
    | refine wE_n rfl rfl rfl ?_
    | refine wE_u rfl rfl rfl ?_
    | refine wE_new (o_mks rfl rfl (by omega) (by decide)) rfl ?_))
  refine wG_callG (v' := dtV 5 r Y) cW (ag_any rfl (ag_int rfl (ag_is rfl rfl rfl iRow_plain ag_nil))) rfl rfl ?_
  change wpG _ _ _ ⟨_, dtH 5 r Y _, _⟩ _
  have hyO := dtO_len r Y
  obtain ⟨N, hN⟩ : ∃ N, 0 + 1 + 1 + 1 + 1 + 1 + (dtO r Y).length = N := ⟨_, rfl⟩
  rw [hN]
  have hx0 : ∀ {v1 v2 : Option Ab.Rows} {h : List (Nat × Option Ab.Rows)} (i : Nat) (rows : Ab.Rows), (dtO r Y)[i]? = some rows → hg ((N, v1) :: (N, v2) :: dtH 5 r Y h) (5 + i) = some (shR 5 rows) := fun i rows hi => by
    have := dtO_lt hi
    exact hg_skip (by omega) (hg_skip (by omega) (dtH_in hi))
  repeat (first | refine wG_upd (o_st_agg rfl hg_here rfl rfl rfl rfl rfl) ?_ | refine wG_pure (o_ldt_pt rfl hg_here rfl rfl rfl) ?_ | refine wG_call c4 (ag_any (dr_dt r Y hx0) ag_nil) rfl ?_ | refine wG_upd (o_st_agg rfl (hg_skip (by omega) (hg_skip (by omega) (dtH_out (by omega) rfl))) rfl rfl rfl rfl rfl) ?_ | (first
    | refine wC_a rfl ?_
    | refine q_s rfl ?_
    | refine q_b rfl ?_
    | refine wG_nil ?_
    | refine wG_g rfl ?_
    | refine wG_pure (o_len_vwm rfl) ?_
    | refine wG_pure (o_not_d rfl) ?_
    | refine wG_p rfl (by first | exact rfl | omega) ?_
    | refine wG_pure (o_str2 rfl rfl rfl) ?_
    | refine wG_pure (e_istr rfl rfl (by omega)) ?_
    | refine wG_pure (e_istr0 rfl rfl (by omega)) ?_
    | refine wG_pure (o_not rfl) ?_
    | refine wG_pure (e_ia_vw0 rfl rfl (by omega) rfl) ?_
    | refine wG_pure (e_ia_vwp rfl rfl (by omega) rfl) ?_
    | refine wG_pure (e_ia_vwm rfl rfl (by omega) (by omega) rfl) ?_
    | refine wG_pure (e_ia_vwi rfl rfl (by omega) rfl) ?_
    | refine wG_pure (e_ia_vwn rfl rfl (by omega) (by omega) rfl) ?_
    | refine wG_n rfl rfl ?_
    | refine wG_u rfl rfl ?_
    | refine wG_new (o_mks rfl rfl (by omega) (by decide)) ?_))
  exact ret_gen (.inr rfl) (retVs_2 (retV_ldt rfl hg_here rfl rfl rfl) (retV_mv rfl)) rfl (by simp [notOne, aNo]) rfl rfl List.nodup_nil (fun i rows h => by simp at h)
theorem con17_no2 (r : Rc) (xs : List Dn) (x : Int) (e : Ds) (h1 : r.cs.length ≤ 1048576) (h2 : r.xs.length ≤ 1048576) (h3 : xs.length ≤ 1048576) (hL : LenN xs 1048576) (he : e.ws.length ≤ 1048576) (hb : ∀ i, i < xs.length → (xs.getD i default).b = true) {k : Nat} (hG : GoodN r xs) (hk : idx r x = k) (hc : cmOK (xs.getD k default).d e) (hy : ¬ GoodN r (tD (yA xs k e))) : Con Try.prog 17 true [.agg (dtR true true true r xs), .int .i64 x, .agg (dRow true e)] aNo [] := by
  classical
  refine con_of_wp mixed fun17 (by simp) [] plain_nil ?_
  unfold ac17 ro17
  simp only [zipT]
  have c1 := con24 true true true r xs h1 h2 h3 hL
  rw [decide_eq_true hG] at c1
  have cx := con53 true true r x h1
  have bx := idx_b r x
  rw [hk] at cx bx
  have hnl := hG.2.1
  have hkx : k < xs.length := by omega
  have cC := con54_yes (xs.getD k default).b true (xs.getD k default).d e (hL k hkx) he hc
  have hbd : (bth xs k e).ws.length ≤ 60 := hc.2.2.1.2
  have eb : mkO (xs.getD k default).d.f (cmL (xs.getD k default).d e) = bth xs k e := rfl
  rw [eb] at cC
  have sW := fun {h : List (Nat × Option Ab.Rows)} {nr q : Nat} hq hw => (sh55 (h := h) (nr := nr) (q := q) r xs h1 h2 h3 hL hb hkx (bth xs k e) (by omega) hq hw).2 hy
  have d1 : decide ((k : Int) < 0) = false := decide_eq_false (by omega)
  generalize hB : bth xs k e = B at *
  unfold dYes dRow at cC
  unfold dRow
  repeat (first | refine wG_call c1 rfl rfl ?_ | refine wG_call cx rfl rfl ?_ | (first
    | refine wC_a rfl ?_
    | refine q_s rfl ?_
    | refine q_b rfl ?_
    | refine wG_nil ?_
    | refine wG_g rfl ?_
    | refine wG_pure (o_len_vwm rfl) ?_
    | refine wG_pure (o_not_d rfl) ?_
    | refine wG_p rfl (by first | exact rfl | omega) ?_
    | refine wG_pure (o_str2 rfl rfl rfl) ?_
    | refine wG_pure (e_istr rfl rfl (by omega)) ?_
    | refine wG_pure (e_istr0 rfl rfl (by omega)) ?_
    | refine wG_pure (o_not rfl) ?_
    | refine wG_pure (e_ia_vw0 rfl rfl (by omega) rfl) ?_
    | refine wG_pure (e_ia_vwp rfl rfl (by omega) rfl) ?_
    | refine wG_pure (e_ia_vwm rfl rfl (by omega) (by omega) rfl) ?_
    | refine wG_pure (e_ia_vwi rfl rfl (by omega) rfl) ?_
    | refine wG_pure (e_ia_vwn rfl rfl (by omega) (by omega) rfl) ?_
    | refine wG_n rfl rfl ?_
    | refine wG_u rfl rfl ?_
    | refine wG_new (o_mks rfl rfl (by omega) (by decide)) ?_))
  simp only [d1]
  repeat (first | refine wG_call cx rfl rfl ?_ | (first
    | refine wC_a rfl ?_
    | refine q_s rfl ?_
    | refine q_b rfl ?_
    | refine wG_nil ?_
    | refine wG_g rfl ?_
    | refine wG_pure (o_len_vwm rfl) ?_
    | refine wG_pure (o_not_d rfl) ?_
    | refine wG_p rfl (by first | exact rfl | omega) ?_
    | refine wG_pure (o_str2 rfl rfl rfl) ?_
    | refine wG_pure (e_istr rfl rfl (by omega)) ?_
    | refine wG_pure (e_istr0 rfl rfl (by omega)) ?_
    | refine wG_pure (o_not rfl) ?_
    | refine wG_pure (e_ia_vw0 rfl rfl (by omega) rfl) ?_
    | refine wG_pure (e_ia_vwp rfl rfl (by omega) rfl) ?_
    | refine wG_pure (e_ia_vwm rfl rfl (by omega) (by omega) rfl) ?_
    | refine wG_pure (e_ia_vwi rfl rfl (by omega) rfl) ?_
    | refine wG_pure (e_ia_vwn rfl rfl (by omega) (by omega) rfl) ?_
    | refine wG_n rfl rfl ?_
    | refine wG_u rfl rfl ?_
    | refine wG_new (o_mks rfl rfl (by omega) (by decide)) ?_))
  repeat (first | refine wC_dregE ?_ | refine wE_call1 cC rfl rfl rfl ?_ | (first
    | refine wC_a rfl ?_
    | refine q_s rfl ?_
    | refine q_b rfl ?_
    | refine wG_nil ?_
    | refine wG_g rfl ?_
    | refine wG_pure (o_len_vwm rfl) ?_
    | refine wG_pure (o_not_d rfl) ?_
    | refine wG_p rfl (by first | exact rfl | omega) ?_
    | refine wG_pure (o_str2 rfl rfl rfl) ?_
    | refine wG_pure (e_istr rfl rfl (by omega)) ?_
    | refine wG_pure (e_istr0 rfl rfl (by omega)) ?_
    | refine wG_pure (o_not rfl) ?_
    | refine wG_pure (e_ia_vw0 rfl rfl (by omega) rfl) ?_
    | refine wG_pure (e_ia_vwp rfl rfl (by omega) rfl) ?_
    | refine wG_pure (e_ia_vwm rfl rfl (by omega) (by omega) rfl) ?_
    | refine wG_pure (e_ia_vwi rfl rfl (by omega) rfl) ?_
    | refine wG_pure (e_ia_vwn rfl rfl (by omega) (by omega) rfl) ?_
    | refine wG_n rfl rfl ?_
    | refine wG_u rfl rfl ?_
    | refine wG_new (o_mks rfl rfl (by omega) (by decide)) ?_) | (first
    | refine wE_nil (by kernel_rfl) ?_
    | refine wE_gy rfl ?_
    | refine wE_gn rfl rfl rfl ?_
    | refine wE_gu rfl rfl ?_
    | refine wE_gnn rfl rfl rfl ?_
    | refine wE_v (o_len_vwm rfl) rfl ?_
    | refine wE_v (o_not_d rfl) rfl ?_
    | refine wE_p rfl (by first | exact rfl | omega) rfl ?_
    | refine wE_v (o_str2 rfl rfl rfl) rfl ?_
    | refine wE_v (e_istr rfl rfl (by omega)) rfl ?_
    | refine wE_v (e_istr0 rfl rfl (by omega)) rfl ?_
    | refine wE_v (o_not rfl) rfl ?_
    | refine wE_v (e_ia_vw0 rfl rfl (by omega) rfl) rfl ?_
    | refine wE_v (e_ia_vwp rfl rfl (by omega) rfl) rfl ?_
    | refine wE_v (e_ia_vwm rfl rfl (by omega) (by omega) rfl) rfl ?_
    | refine wE_v (e_ia_vwi rfl rfl (by omega) rfl) rfl ?_
    | refine wE_v (e_ia_vwn rfl rfl (by omega) (by omega) rfl) rfl ?_
    | refine wE_n rfl rfl rfl ?_
    | refine wE_u rfl rfl rfl ?_
    | refine wE_new (o_mks rfl rfl (by omega) (by decide)) rfl ?_))
  refine wG_callS (sW (nr := 5) (q := 3) (hg_skip (by decide) (hg_skip (by decide) hg_here)) (wfH_cons (by decide) (by simp [put, AV.ltr]) (wfH_cons (by decide) (by simp [AV.ltr]) (wfH_cons (by decide) (ltrI _ _) (wfH_cons (by decide) (by simp [AV.ltr]) (wfH_cons (by decide) (by simp [AV.ltr]) (wfH_cons (by decide) (by simp [AV.ltr]) wfH_nil))))))) rfl ?_
  repeat (first
    | refine wC_a rfl ?_
    | refine q_s rfl ?_
    | refine q_b rfl ?_
    | refine wG_nil ?_
    | refine wG_g rfl ?_
    | refine wG_pure (o_len_vwm rfl) ?_
    | refine wG_pure (o_not_d rfl) ?_
    | refine wG_p rfl (by first | exact rfl | omega) ?_
    | refine wG_pure (o_str2 rfl rfl rfl) ?_
    | refine wG_pure (e_istr rfl rfl (by omega)) ?_
    | refine wG_pure (e_istr0 rfl rfl (by omega)) ?_
    | refine wG_pure (o_not rfl) ?_
    | refine wG_pure (e_ia_vw0 rfl rfl (by omega) rfl) ?_
    | refine wG_pure (e_ia_vwp rfl rfl (by omega) rfl) ?_
    | refine wG_pure (e_ia_vwm rfl rfl (by omega) (by omega) rfl) ?_
    | refine wG_pure (e_ia_vwi rfl rfl (by omega) rfl) ?_
    | refine wG_pure (e_ia_vwn rfl rfl (by omega) (by omega) rfl) ?_
    | refine wG_n rfl rfl ?_
    | refine wG_u rfl rfl ?_
    | refine wG_new (o_mks rfl rfl (by omega) (by decide)) ?_)
  exact ret_gen (.inr rfl) (retVs_2 (retV_ldt rfl rfl rfl rfl rfl) (retV_mv rfl)) rfl (by simp [notOne, aNo]) rfl rfl List.nodup_nil (fun i rows h => by simp at h)
/-- Both sides: the same record, or none. -/
theorem diA (r : Rc) (xs : List Dn) (x : Int) (e : Ds) (h1 : r.cs.length ≤ 1048576) (h2 : r.xs.length ≤ 1048576) (h3 : xs.length ≤ 1048576) (hL : LenN xs 1048576) (he : e.ws.length ≤ 1048576) (hb : ∀ i, i < xs.length → (xs.getD i default).b = true) :
    (∃ Y : List Dn, Y.length ≤ 10 ∧ r.cs.length ≤ 10 ∧ r.xs.length ≤ 24 ∧ (∀ i, i < Y.length → (Y.getD i default).d.ws.length ≤ 60) ∧ ConG Try.prog 14 true [.agg (dtR true true true r xs), .int .i64 x, .agg (dRow true e)] (aY r Y.length) (dtO r Y) ∧ ConG Try.prog 17 true [.agg (dtR true true true r xs), .int .i64 x, .agg (dRow true e)] (aY r Y.length) (dtO r Y)) ∨
    (Con Try.prog 14 true [.agg (dtR true true true r xs), .int .i64 x, .agg (dRow true e)] aNo [] ∧ Con Try.prog 17 true [.agg (dtR true true true r xs), .int .i64 x, .agg (dRow true e)] aNo []) := by
  classical
  by_cases hk : GoodN r xs ∧ 0 ≤ idx r x ∧ cmOK (xs.getD (idx r x).toNat default).d e
  · obtain ⟨hG, hx, hc⟩ := hk
    obtain ⟨k, hkk⟩ : ∃ k : Nat, idx r x = k := ⟨_, (Int.toNat_of_nonneg hx).symm⟩
    rw [hkk, Int.toNat_natCast] at hc
    by_cases hy : GoodN r (tD (yA xs k e))
    · have h10 := hG.1.1
      have hnl := hG.2.1
      refine .inl ⟨yA xs k e, by rw [yA_len]; omega, hG.1.1, hG.1.2.1, fun i hi => ?_, con14_yes r xs x e h1 h2 h3 hL he hb hG hkk hc hy, con17_yes r xs x e h1 h2 h3 hL he hb hG hkk hc hy⟩
      have := (hy.2.2 i (by rw [tD_len]; exact hi)).1.1.2
      rwa [tD_d] at this
    · exact .inr ⟨con14_no2 r xs x e h1 h2 h3 hL he hb hG hkk hc hy, con17_no2 r xs x e h1 h2 h3 hL he hb hG hkk hc hy⟩
  · exact .inr ⟨con14_no1 r xs x e h1 h2 h3 hL he hk, con17_no1 r xs x e h1 h2 h3 hL he hk⟩
end Go.Proofs.Ytkeobnaehgcloaa.Dst
