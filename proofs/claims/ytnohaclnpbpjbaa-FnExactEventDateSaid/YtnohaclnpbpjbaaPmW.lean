/- Dates of events: the implementation, and what is no valid question. -/
import Derived.Test.YtnohaclnpbpjbaaPmV
namespace Go.Proofs.Ytnohaclnpbpjbaa.Dst
open Go Go.Proofs.Ytnohaclnpbpjbaa.Ab Go.Proofs.Ytnohaclnpbpjbaa.Il
attribute [local irreducible] wpO wpC wpDr wpQ wpG wpE stepA seqQ blkQ Ret RetG ev
set_option maxRecDepth 10000
set_option maxHeartbeats 8000000
set_option linter.unusedSimpArgs false
set_option linter.unusedVariables false

def ac37 : AC := (.seq (.reg [⟨(some 2), none, (.box 4 true (.t 0))⟩, ⟨(some 3), none, (.box 1 false (.t 1))⟩, ⟨(some 4), none, (.alloc [(.int .i64 0), .nilS])⟩, ⟨(some 5), none, (.mv (.c (.bool false)))⟩]) (.seq (.seq (.reg [⟨(some 8), none, (.ld true 4 (.t 2))⟩, ⟨(some 9), none, (.call 14 [(.t 8)])⟩, ⟨(some 10), none, (.un .not (.t 9))⟩, ⟨(some 11), none, (.mv (.t 10))⟩, ⟨(some 12), (some (11, false)), (.ld false 1 (.t 3))⟩, ⟨(some 13), (some (11, false)), (.fa 3 (.t 2))⟩, ⟨(some 14), (some (11, false)), (.ld false 1 (.t 13))⟩, ⟨(some 15), (some (11, false)), (.len (.t 14))⟩, ⟨(some 16), (some (11, false)), (.bin .sub (.t 15) (.c (.int .i64 1)))⟩, ⟨(some 17), (some (11, false)), (.call 42 [(.t 12), (.c (.int .i64 0)), (.t 16)])⟩, ⟨(some 18), (some (11, false)), (.un .not (.t 17))⟩, ⟨(some 19), none, (.pick (.t 11) (.c (.bool true)) (.t 18))⟩]) (.cond (.t 19) (.seq (.reg [⟨(some 20), none, (.build [(.int .i64 0), .nilS] [])⟩, ⟨none, none, (.st 2 (.t 4) (.t 20))⟩, ⟨(some 5), none, (.mv (.c (.bool false)))⟩]) .ret) .skip)) (.seq (.reg [⟨(some 21), none, (.fa 3 (.t 2))⟩, ⟨(some 22), none, (.ld false 1 (.t 21))⟩, ⟨(some 23), none, (.ld false 1 (.t 3))⟩, ⟨(some 24), none, (.ia 4 (.t 22) (.t 23))⟩, ⟨(some 25), none, (.ld true 4 (.t 24))⟩, ⟨(some 6), none, (.alloc [(.int .i64 0), (.int .i64 0), .nilS, (.int .i64 0)])⟩, ⟨none, none, (.st 4 (.t 6) (.t 25))⟩]) (.seq (.reg [⟨(some 26), none, (.fa 1 (.t 2))⟩, ⟨(some 27), none, (.ld false 1 (.t 26))⟩, ⟨(some 28), none, (.mks 1 8 [(.int .i64 0)] (.t 27) (.t 27))⟩, ⟨(some 7), none, (.alloc [.nilS])⟩, ⟨none, none, (.st 1 (.t 7) (.t 28))⟩]) (.seq (.reg [⟨(some 29), none, (.ld true 4 (.t 2))⟩, ⟨(some 30), none, (.mkf 78 [(.t 2), (.t 3), (.t 6), (.t 7)])⟩, ⟨(some 31), none, (.call 64 [(.t 29), (.t 30)])⟩]) (.seq (.reg [⟨(some 32), none, (.fa 0 (.t 2))⟩, ⟨(some 33), none, (.ld false 1 (.t 32))⟩, ⟨(some 34), none, (.ld false 1 (.t 7))⟩, ⟨(some 35), none, (.call 56 [(.t 33), (.t 34)])⟩, ⟨(some 36), none, (.ext (.t 35) 0)⟩, ⟨(some 37), none, (.ext (.t 35) 1)⟩, ⟨none, none, (.st 2 (.t 4) (.t 36))⟩, ⟨(some 5), none, (.mv (.t 37))⟩]) .ret))))))
def ro37 : List AOp := [(.ld true 2 (.t 4)), (.mv (.t 5))]
theorem fun37 : Fun Try.prog 37 38 ac37 ro37 := ⟨Try.f37, _, Try.func37, by kernel_rfl, rfl, rfl, by kernel_rfl, by kernel_rfl, by decide⟩
def ac78 : AC := (.seq (.reg [⟨(some 8), none, (.ld true 4 (.t 1))⟩, ⟨(some 9), none, (.mv (.t 0))⟩, ⟨(some 10), none, (.ld false 1 (.t 2))⟩, ⟨(some 11), none, (.call 66 [(.t 8), (.t 9), (.t 10)])⟩, ⟨(some 6), none, (.mv (.t 11))⟩]) (.seq (.reg [⟨(some 12), none, (.mv (.t 0))⟩, ⟨(some 13), none, (.fa 0 (.t 3))⟩, ⟨(some 14), none, (.ld false 1 (.t 13))⟩, ⟨(some 15), none, (.ia 1 (.t 12) (.t 14))⟩, ⟨(some 16), none, (.ld false 1 (.t 15))⟩, ⟨(some 7), none, (.mv (.t 16))⟩]) (.blk 0 (.loop (.seq (.seq (.reg [⟨(some 17), none, (.mv (.t 7))⟩, ⟨(some 18), none, (.mv (.t 0))⟩, ⟨(some 19), none, (.fa 0 (.t 3))⟩, ⟨(some 20), none, (.ld false 1 (.t 19))⟩, ⟨(some 21), none, (.bin .add (.t 20) (.c (.int .i64 1)))⟩, ⟨(some 22), none, (.ia 1 (.t 18) (.t 21))⟩, ⟨(some 23), none, (.ld false 1 (.t 22))⟩, ⟨(some 24), none, (.bin .leq (.t 17) (.t 23))⟩]) (.cond (.t 24) .skip (.exit 0))) (.seq (.blk 1 (.dreg [⟨(some 27), none, (.ld false 1 (.t 4))⟩, ⟨(some 28), none, (.mv (.t 7))⟩, ⟨(some 29), none, (.ia 1 (.t 27) (.t 28))⟩, ⟨(some 30), none, (.ld false 1 (.t 29))⟩, ⟨(some 31), none, (.mv (.t 6))⟩, ⟨(some 32), none, (.ld true 4 (.t 1))⟩, ⟨(some 33), none, (.ld true 4 (.t 3))⟩, ⟨(some 34), none, (.mv (.t 7))⟩, ⟨(some 35), none, (.build [(.bool false), (.bool false)] [(0, (1, (.c (.bool true)))), (1, (1, (.c (.bool true))))])⟩, ⟨(some 36), none, (.call 79 [(.t 32), (.t 33), (.t 34), (.t 35)])⟩, ⟨(some 37), none, (.bin .mul (.t 31) (.t 36))⟩, ⟨(some 38), none, (.bin .add (.t 30) (.t 37))⟩, ⟨(some 39), none, (.ia 1 (.t 27) (.t 28))⟩, ⟨none, none, (.st 1 (.t 39) (.t 38))⟩] [[], [], [0, 1], [0, 1, 2], [], [], [], [], [], [5, 6, 7, 8], [4, 5, 6, 7, 8, 9], [0, 1, 2, 3, 4, 5, 6, 7, 8, 9, 10], [0, 1, 2, 3, 4, 5, 6, 7, 8, 9, 10, 11], [0, 1, 2, 3, 4, 5, 6, 7, 8, 9, 10, 11, 12]])) (.reg [⟨(some 25), none, (.mv (.t 7))⟩, ⟨(some 26), none, (.bin .add (.t 25) (.c (.int .i64 1)))⟩, ⟨(some 7), none, (.mv (.t 26))⟩])))))))
def ro78 : List AOp := []
theorem fun78 : Fun Try.prog 78 40 ac78 ro78 := ⟨Try.f78, _, Try.func78, by kernel_rfl, rfl, rfl, by kernel_rfl, by kernel_rfl, by decide⟩

def hsE (c : Bool) (m : Md) (xs : List Ev) (e : Nat) (s : List Int) : List (Nat × Option Ab.Rows) := [(4, some (s.map iRow)), (5, some [[.sl 4 1 0 m.y.toNat]]), (3, some [nE (xs.getD e default)]), (2, some [[.int .i64 0, .nilS]]), (1, some [[.int .i64 (e : Int)]]), (0, some [mdR c m xs])]
theorem hsE_wf {c : Bool} {m : Md} {xs : List Ev} {e nr : Nat} (h : 6 ≤ nr) (s : List Int) : wfH (hsE c m xs e s) nr :=
  wfH_cons (by omega) (ltrI _ _) (wfH_cons (by omega) (by simp [AV.ltr]; omega) (wfH_cons (by omega) (nE_ltr1 _) (wfH_cons (by omega) (by simp [AV.ltr]) (wfH_cons (by omega) (by simp [AV.ltr]) (wfH_cons (by omega) (mdR_ltr1' _) wfH_nil)))))
theorem vis_E {c : Bool} {m : Md} {xs : List Ev} (hG : GoodM m xs) {e : Nat} (he : e < xs.length) (s : List Int) (hs : s.length = m.y.toNat) (b : List Nat) (hb : GoodB m.y.toNat (m.p.toNat + 1) b) : Sh Try.prog 78 ([.sl (6 + 2) 1 0 (m.p.toNat + 1)] ++ [.pt 0 0 0, .pt 1 0 0, .pt 3 0 0, .pt 5 0 0]) (eF (mdR c m xs) 6 78 [.pt 0 0 0, .pt 1 0 0, .pt 3 0 0, .pt 5 0 0] (m.p.toNat + 1) b (hsE c m xs e s)) 11 (.tup []) (eF (mdR c m xs) 6 78 [.pt 0 0 0, .pt 1 0 0, .pt 3 0 0, .pt 5 0 0] (m.p.toNat + 1) b (hsE c m xs e (stE m xs e s b))) 11 := by
  refine sh_of_wp mixed fun78 (by simp) ?_
  unfold ac78 ro78
  simp only [zipT, List.cons_append, List.nil_append]
  have hY := hG.1
  have hf := hG.2.1
  have hPb := hG.2.2.1
  have hpe := (hG.2.2.2.2 e he).1
  have eP : 0 + ((xs.getD e default).p).toNat = pE xs e := by simp [pE]
  have eP1 : 0 + ((xs.getD e default).p + 1).toNat = pE xs e + 1 := by unfold pE; omega
  have hPn : pE xs e + 1 < m.p.toNat + 1 := by unfold pE; omega
  have e0 : ∀ n : Nat, 0 + ((n : Int)).toNat = n := fun n => by simp
  have cw := con66 c true m xs hG b hb (e : Int)
  have hrw : lw xs (gE m xs (-1)) b (e : Int) xs.length = rW m xs e b := rfl
  rw [hrw] at cw
  have gvb := gV_b hG he hb
  have hl := hb.len
  have b1 := hb.lt (pE xs e) (by omega)
  have b2 := hb.mono (pE xs e) hPn
  have b3 := hb.lt (pE xs e + 1) hPn
  have gi : (b.map nRow)[pE xs e]? = some (nRow (gN b (pE xs e))) := nGet (by omega)
  have gi1 : (b.map nRow)[pE xs e + 1]? = some (nRow (gN b (pE xs e + 1))) := nGet (by omega)
  have hwf := fun s' => eF_wf (D := mdR c m xs) (N := 6) (fv := 78) (caps := [.pt 0 0 0, .pt 1 0 0, .pt 3 0 0, .pt 5 0 0]) (n := m.p.toNat + 1) (ys := b) (nr := 11) (by decide) (mdR_ltr _) rfl (hsE_wf (c := c) (m := m) (xs := xs) (e := e) (by decide) s')
  repeat (first | refine wG_call cw (ag_any rfl (ag_sl rfl rfl hl.symm nRow_plain (ag_int rfl ag_nil))) rfl ?_ | (refine wG_pure (e_ia_sl rfl rfl (by omega) (by omega)) ?_; simp only [eP, eP1, e0]) | refine wG_pure (o_ldf_pt rfl rfl gi rfl) ?_ | (first
    | refine wC_a rfl ?_
    | refine q_s rfl ?_
    | refine q_b rfl ?_
    | refine wG_nil ?_
    | refine wG_g rfl ?_
    | refine wG_pure (o_len_vwm rfl) ?_
    | refine wG_pure (o_not_d rfl) ?_
    | refine wG_p rfl (by first | exact rfl | omega) ?_
    | refine wG_pure (o_str2 rfl rfl rfl) ?_
    | refine wG_pure (e_istr rfl rfl (by omega)) ?_
    | refine wG_pure (e_istr0 rfl rfl (by omega)) ?_
    | refine wG_pure (o_not rfl) ?_
    | refine wG_pure (e_ia_vw0 rfl rfl (by omega) rfl) ?_
    | refine wG_pure (e_ia_vwp rfl rfl (by omega) rfl) ?_
    | refine wG_pure (e_ia_vwm rfl rfl (by omega) (by omega) rfl) ?_
    | refine wG_pure (e_ia_vwi rfl rfl (by omega) rfl) ?_
    | refine wG_pure (e_ia_vwn rfl rfl (by omega) (by omega) rfl) ?_
    | refine wG_n rfl rfl ?_
    | refine wG_u rfl rfl ?_
    | refine wG_new (o_mks rfl rfl (by omega) (by decide)) ?_))
  refine wC_loopS Nat (fun n => ⟨[(0, .sl 8 1 0 (m.p.toNat + 1)), (1, .pt 0 0 0), (2, .pt 1 0 0), (3, .pt 3 0 0), (4, .pt 5 0 0), (6, .int .i64 (rW m xs e b)), (7, .int .i64 ((gN b (pE xs e) + n : Nat) : Int))], eF (mdR c m xs) 6 78 [.pt 0 0 0, .pt 1 0 0, .pt 3 0 0, .pt 5 0 0] (m.p.toNat + 1) b (hsE c m xs e (inE (gV m xs e b) s (gN b (pE xs e)) n)), 11⟩) (fun n => n ≤ gN b (pE xs e + 1) + 1 - gN b (pE xs e)) (fun n => gN b (pE xs e + 1) + 1 - gN b (pE xs e) - n) 0 (Nat.zero_le _) ?_ (fun _ _ => Nat.le_refl _) ?_
  · exact Le_of ⟨⟨rfl, rfl⟩, ⟨rfl, rfl⟩, ⟨rfl, rfl⟩, ⟨rfl, rfl⟩, ⟨rfl, rfl⟩, ⟨rfl, rfl⟩, ⟨rfl, rfl⟩, trivial⟩ (fun q rows hq => hq) (hwf _)
  intro n hn
  have hil := inE_len (gV m xs e b) s (gN b (pE xs e)) n
  repeat (first | (refine wG_pure (e_ia_sl rfl rfl (by omega) (by omega)) ?_; simp only [eP, eP1, e0]) | refine wG_pure (o_ldf_pt rfl rfl gi1 rfl) ?_ | (first
    | refine wC_a rfl ?_
    | refine q_s rfl ?_
    | refine q_b rfl ?_
    | refine wG_nil ?_
    | refine wG_g rfl ?_
    | refine wG_pure (o_len_vwm rfl) ?_
    | refine wG_pure (o_not_d rfl) ?_
    | refine wG_p rfl (by first | exact rfl | omega) ?_
    | refine wG_pure (o_str2 rfl rfl rfl) ?_
    | refine wG_pure (e_istr rfl rfl (by omega)) ?_
    | refine wG_pure (e_istr0 rfl rfl (by omega)) ?_
    | refine wG_pure (o_not rfl) ?_
    | refine wG_pure (e_ia_vw0 rfl rfl (by omega) rfl) ?_
    | refine wG_pure (e_ia_vwp rfl rfl (by omega) rfl) ?_
    | refine wG_pure (e_ia_vwm rfl rfl (by omega) (by omega) rfl) ?_
    | refine wG_pure (e_ia_vwi rfl rfl (by omega) rfl) ?_
    | refine wG_pure (e_ia_vwn rfl rfl (by omega) (by omega) rfl) ?_
    | refine wG_n rfl rfl ?_
    | refine wG_u rfl rfl ?_
    | refine wG_new (o_mks rfl rfl (by omega) (by decide)) ?_))
  refine wC_cond_d rfl (fun h6 => ?_) (fun h6 => ?_)
  · obtain ⟨v1, v2, v3⟩ := gvb (gN b (pE xs e) + n)
    have v3' := v3
    unfold gV at v3'
    have gk : ((inE (gV m xs e b) s (gN b (pE xs e)) n).map iRow)[gN b (pE xs e) + n]? = some (iRow ((inE (gV m xs e b) s (gN b (pE xs e)) n).getD (gN b (pE xs e) + n) default)) := iGet (by omega)
    have cv := con79 c m xs hG he false (gN b (pE xs e) + n) (by omega)
    repeat (first | refine wC_dregE ?_ | (refine wE_v (e_ia_sl rfl rfl (by omega) (by omega)) rfl ?_; simp only [eP, eP1, e0]) | refine wE_v (o_ldf_pt rfl rfl gk rfl) rfl ?_ | refine wE_call cv rfl rfl rfl ?_ | refine wE_upd (o_st1 rfl rfl gk rfl rfl mset) rfl ?_ | (first
    | refine wC_a rfl ?_
    | refine q_s rfl ?_
    | refine q_b rfl ?_
    | refine wG_nil ?_
    | refine wG_g rfl ?_
    | refine wG_pure (o_len_vwm rfl) ?_
    | refine wG_pure (o_not_d rfl) ?_
    | refine wG_p rfl (by first | exact rfl | omega) ?_
    | refine wG_pure (o_str2 rfl rfl rfl) ?_
    | refine wG_pure (e_istr rfl rfl (by omega)) ?_
    | refine wG_pure (e_istr0 rfl rfl (by omega)) ?_
    | refine wG_pure (o_not rfl) ?_
    | refine wG_pure (e_ia_vw0 rfl rfl (by omega) rfl) ?_
    | refine wG_pure (e_ia_vwp rfl rfl (by omega) rfl) ?_
    | refine wG_pure (e_ia_vwm rfl rfl (by omega) (by omega) rfl) ?_
    | refine wG_pure (e_ia_vwi rfl rfl (by omega) rfl) ?_
    | refine wG_pure (e_ia_vwn rfl rfl (by omega) (by omega) rfl) ?_
    | refine wG_n rfl rfl ?_
    | refine wG_u rfl rfl ?_
    | refine wG_new (o_mks rfl rfl (by omega) (by decide)) ?_) | (first
    | refine wE_nil (by kernel_rfl) ?_
    | refine wE_gy rfl ?_
    | refine wE_gn rfl rfl rfl ?_
    | refine wE_gu rfl rfl ?_
    | refine wE_gnn rfl rfl rfl ?_
    | refine wE_v (o_len_vwm rfl) rfl ?_
    | refine wE_v (o_not_d rfl) rfl ?_
    | refine wE_p rfl (by first | exact rfl | omega) rfl ?_
    | refine wE_v (o_str2 rfl rfl rfl) rfl ?_
    | refine wE_v (e_istr rfl rfl (by omega)) rfl ?_
    | refine wE_v (e_istr0 rfl rfl (by omega)) rfl ?_
    | refine wE_v (o_not rfl) rfl ?_
    | refine wE_v (e_ia_vw0 rfl rfl (by omega) rfl) rfl ?_
    | refine wE_v (e_ia_vwp rfl rfl (by omega) rfl) rfl ?_
    | refine wE_v (e_ia_vwm rfl rfl (by omega) (by omega) rfl) rfl ?_
    | refine wE_v (e_ia_vwi rfl rfl (by omega) rfl) rfl ?_
    | refine wE_v (e_ia_vwn rfl rfl (by omega) (by omega) rfl) rfl ?_
    | refine wE_n rfl rfl rfl ?_
    | refine wE_u rfl rfl rfl ?_
    | refine wE_new (o_mks rfl rfl (by omega) (by decide)) rfl ?_) | refine wE_v (o_addw rfl rfl) rfl ?_)
    refine ⟨n + 1, by omega, by omega, Le_of ⟨⟨rfl, rfl⟩, ⟨rfl, rfl⟩, ⟨rfl, rfl⟩, ⟨rfl, rfl⟩, ⟨rfl, rfl⟩, ⟨rfl, rfl⟩, ⟨rfl, rfl⟩, trivial⟩ (fun q rows hq => ?_) (hwf _)⟩
    refine Eq.trans ?_ hq
    by_cases e3 : q = 4
    · subst e3; rfl
    · simp only [eF, hsE, Ab.hg, upd, if_neg e3]
  · have hn3 : n = gN b (pE xs e + 1) + 1 - gN b (pE xs e) := by omega
    subst hn3
    repeat (first
    | refine wC_a rfl ?_
    | refine q_s rfl ?_
    | refine q_b rfl ?_
    | refine wG_nil ?_
    | refine wG_g rfl ?_
    | refine wG_pure (o_len_vwm rfl) ?_
    | refine wG_pure (o_not_d rfl) ?_
    | refine wG_p rfl (by first | exact rfl | omega) ?_
    | refine wG_pure (o_str2 rfl rfl rfl) ?_
    | refine wG_pure (e_istr rfl rfl (by omega)) ?_
    | refine wG_pure (e_istr0 rfl rfl (by omega)) ?_
    | refine wG_pure (o_not rfl) ?_
    | refine wG_pure (e_ia_vw0 rfl rfl (by omega) rfl) ?_
    | refine wG_pure (e_ia_vwp rfl rfl (by omega) rfl) ?_
    | refine wG_pure (e_ia_vwm rfl rfl (by omega) (by omega) rfl) ?_
    | refine wG_pure (e_ia_vwi rfl rfl (by omega) rfl) ?_
    | refine wG_pure (e_ia_vwn rfl rfl (by omega) (by omega) rfl) ?_
    | refine wG_n rfl rfl ?_
    | refine wG_u rfl rfl ?_
    | refine wG_new (o_mks rfl rfl (by omega) (by decide)) ?_)
    exact ⟨trivial, [], rfl, Le_of ⟨⟨rfl, rfl⟩, trivial⟩ (fun q rows hq => hq) (hwf _), Nat.le_refl _⟩
theorem con37_all (c : Bool) (m : Md) (xs : List Ev) (h3 : xs.length ≤ 1048576) (hL : LenE xs 1048576) (hG : GoodM m xs) {e : Nat} (he : e < xs.length) :
    (mkOK m.f (scO (vE m xs e (aL m).length)) → Con Try.prog 37 true [.agg (mdR c m xs), .int .i64 (e : Int)] (mYes (mkO m.f (scO (vE m xs e (aL m).length)))) [(mkO m.f (scO (vE m xs e (aL m).length))).ws.map iRow]) ∧ (¬ mkOK m.f (scO (vE m xs e (aL m).length)) → Con Try.prog 37 true [.agg (mdR c m xs), .int .i64 (e : Int)] mNo []) := by
  classical
  have c1 := con14 c m xs h3 hL
  rw [decide_eq_true hG] at c1
  have c2 := con42 (e : Int) 0 ((xs.length : Int) - 1)
  rw [decide_eq_true ⟨by omega, by omega⟩] at c2
  have hY := hG.1
  have hf := hG.2.1
  have hPb := hG.2.2.1
  have hn4 := hG.2.2.2.1
  have h8 := aL_len hG
  obtain ⟨ml, mb⟩ := vE_b hG he (aL m).length (Nat.le_refl _)
  have mb' : bnd (vE m xs e (aL m).length) 8000000000000000000 := fun j hj => by have := mb j hj; omega
  have hE := (each_sh (σ := List Int) (step := stE m xs e) (J := fun s => s.length = m.y.toNat) (hs := hsE c m xs e) (nrS := fun _ => 11) (c := c) (m := m) (xs := xs) (N := 6) (fv := 78) (n := m.p.toNat + 1) (caps := [.pt 0 0 0, .pt 1 0 0, .pt 3 0 0, .pt 5 0 0]) hG rfl (fun _ => Nat.le_refl _) (fun s _ => hsE_wf (by omega) s) rfl (fun _ _ => Nat.le_refl _) (fun s b hs hb => ⟨vis_E hG he s hs b hb, by rw [stE, inE_len]; exact hs⟩) (fun s q rows _ hq => by
    by_cases e' : q < 6
    · exact .inl e'
    · simp [hsE, Ab.hg, upd, show q ≠ 5 by omega, show q ≠ 4 by omega, show q ≠ 3 by omega, show q ≠ 2 by omega, show q ≠ 1 by omega, show q ≠ 0 by omega] at hq) (List.replicate m.y.toNat 0) (by simp) rfl).1
  have ez : (bL m.y.toNat (m.p.toNat + 1)).foldl (stE m xs e) (List.replicate m.y.toNat 0) = vE m xs e (aL m).length := by
    show (aL m).foldl _ _ = _
    rw [vE, List.take_length]
  rw [ez] at hE
  generalize vE m xs e (aL m).length = z at *
  have hrep : List.replicate m.y.toNat [AV.int .i64 0] = (List.replicate m.y.toNat (0 : Int)).map iRow := by rw [List.map_replicate]; rfl
  have hE2 : Sh Try.prog 64 [.agg (mdR c m xs), .fn 78 [.pt 0 0 0, .pt 1 0 0, .pt 3 0 0, .pt 5 0 0]] [(5, some [[.sl 4 1 0 m.y.toNat]]), (5, some [[.nilS]]), (4, some (List.replicate m.y.toNat [AV.int .i64 0])), (3, some [nE (xs.getD e default)]), (3, some [[.int .i64 0, .int .i64 0, .nilS, .int .i64 0]]), (2, some [[.int .i64 0, .nilS]]), (1, some [[.int .i64 (e : Int)]]), (0, some [mdR c m xs])] 6 (.tup []) (hsE c m xs e z) 11 := by
    rw [hrep]
    refine Sh_hg ?_ hE
    funext q
    simp only [hsE, Ab.hg, upd]
    repeat' split
    all_goals (first | rfl | (exfalso; omega) | omega)
  constructor
  · intro hm
    have c5 := con56_Y true m.f z (by omega) (by omega) mb' (by decide) (by decide) (by omega) (by omega) hm
    refine con_of_wp mixed fun37 (by simp) [11] (plain_map iRow_plain _) ?_
    unfold ac37 ro37
    simp only [zipT]
    repeat (first | refine wG_call c1 rfl rfl ?_ | refine wG_call c2 rfl rfl ?_ | refine wG_new (o_mksZ (n := m.y.toNat) (by omega) rfl rfl (by omega) (by decide)) ?_ | refine wG_pure (o_mkf rfl) ?_ | refine wG_callS hE2 rfl ?_ | refine wG_call1 c5 (ag_int rfl (ag_sl rfl rfl ml.symm iRow_plain ag_nil)) rfl ?_ | (first
    | refine wC_a rfl ?_
    | refine q_s rfl ?_
    | refine q_b rfl ?_
    | refine wG_nil ?_
    | refine wG_g rfl ?_
    | refine wG_pure (o_len_vwm rfl) ?_
    | refine wG_pure (o_not_d rfl) ?_
    | refine wG_p rfl (by first | exact rfl | omega) ?_
    | refine wG_pure (o_str2 rfl rfl rfl) ?_
    | refine wG_pure (e_istr rfl rfl (by omega)) ?_
    | refine wG_pure (e_istr0 rfl rfl (by omega)) ?_
    | refine wG_pure (o_not rfl) ?_
    | refine wG_pure (e_ia_vw0 rfl rfl (by omega) rfl) ?_
    | refine wG_pure (e_ia_vwp rfl rfl (by omega) rfl) ?_
    | refine wG_pure (e_ia_vwm rfl rfl (by omega) (by omega) rfl) ?_
    | refine wG_pure (e_ia_vwi rfl rfl (by omega) rfl) ?_
    | refine wG_pure (e_ia_vwn rfl rfl (by omega) (by omega) rfl) ?_
    | refine wG_n rfl rfl ?_
    | refine wG_u rfl rfl ?_
    | refine wG_new (o_mks rfl rfl (by omega) (by decide)) ?_))
    exact ret_db (.inr rfl) rfl (retV_ldt rfl rfl rfl rfl rfl) (retV_mv rfl) rfl
  · intro hm
    have c5 := con56_N true m.f z (by omega) (by omega) mb' (by decide) (by decide) (by omega) (by omega) hm
    refine con_of_wp mixed fun37 (by simp) [] plain_nil ?_
    unfold ac37 ro37
    simp only [zipT]
    repeat (first | refine wG_call c1 rfl rfl ?_ | refine wG_call c2 rfl rfl ?_ | refine wG_new (o_mksZ (n := m.y.toNat) (by omega) rfl rfl (by omega) (by decide)) ?_ | refine wG_pure (o_mkf rfl) ?_ | refine wG_callS hE2 rfl ?_ | refine wG_call c5 (ag_int rfl (ag_sl rfl rfl ml.symm iRow_plain ag_nil)) rfl ?_ | (first
    | refine wC_a rfl ?_
    | refine q_s rfl ?_
    | refine q_b rfl ?_
    | refine wG_nil ?_
    | refine wG_g rfl ?_
    | refine wG_pure (o_len_vwm rfl) ?_
    | refine wG_pure (o_not_d rfl) ?_
    | refine wG_p rfl (by first | exact rfl | omega) ?_
    | refine wG_pure (o_str2 rfl rfl rfl) ?_
    | refine wG_pure (e_istr rfl rfl (by omega)) ?_
    | refine wG_pure (e_istr0 rfl rfl (by omega)) ?_
    | refine wG_pure (o_not rfl) ?_
    | refine wG_pure (e_ia_vw0 rfl rfl (by omega) rfl) ?_
    | refine wG_pure (e_ia_vwp rfl rfl (by omega) rfl) ?_
    | refine wG_pure (e_ia_vwm rfl rfl (by omega) (by omega) rfl) ?_
    | refine wG_pure (e_ia_vwi rfl rfl (by omega) rfl) ?_
    | refine wG_pure (e_ia_vwn rfl rfl (by omega) (by omega) rfl) ?_
    | refine wG_n rfl rfl ?_
    | refine wG_u rfl rfl ?_
    | refine wG_new (o_mks rfl rfl (by omega) (by decide)) ?_))
    exact ret_d0 (.inr rfl) rfl (retV_ldt rfl rfl rfl rfl rfl) (retV_mv rfl)
def okI (m : Md) (xs : List Ev) (k : Int) : Prop := GoodM m xs ∧ 0 ≤ k ∧ k ≤ (xs.length : Int) - 1
theorem con36_no (c : Bool) (m : Md) (xs : List Ev) (x : Int) (h3 : xs.length ≤ 1048576) (hL : LenE xs 1048576) (hk : ¬ okI m xs x) : Con Try.prog 36 true [.agg (mdR c m xs), .int .i64 x] mNo [] := by
  classical
  refine con_of_wp mixed fun36 (by simp) [] plain_nil ?_
  unfold ac36 ro36
  simp only [zipT]
  have c1 := con39 c m xs h3 hL
  by_cases hG : GoodM m xs
  · rw [decide_eq_true hG] at c1
    have hn4 := hG.2.2.2.1
    have c2 := con47 x 0 ((xs.length : Int) - 1)
    rw [decide_eq_false (fun h => hk ⟨hG, h⟩)] at c2
    repeat (first | refine wG_call c1 rfl rfl ?_ | refine wG_call c2 rfl rfl ?_ | (first
    | refine wC_a rfl ?_
    | refine q_s rfl ?_
    | refine q_b rfl ?_
    | refine wG_nil ?_
    | refine wG_g rfl ?_
    | refine wG_pure (o_len_vwm rfl) ?_
    | refine wG_pure (o_not_d rfl) ?_
    | refine wG_p rfl (by first | exact rfl | omega) ?_
    | refine wG_pure (o_str2 rfl rfl rfl) ?_
    | refine wG_pure (e_istr rfl rfl (by omega)) ?_
    | refine wG_pure (e_istr0 rfl rfl (by omega)) ?_
    | refine wG_pure (o_not rfl) ?_
    | refine wG_pure (e_ia_vw0 rfl rfl (by omega) rfl) ?_
    | refine wG_pure (e_ia_vwp rfl rfl (by omega) rfl) ?_
    | refine wG_pure (e_ia_vwm rfl rfl (by omega) (by omega) rfl) ?_
    | refine wG_pure (e_ia_vwi rfl rfl (by omega) rfl) ?_
    | refine wG_pure (e_ia_vwn rfl rfl (by omega) (by omega) rfl) ?_
    | refine wG_n rfl rfl ?_
    | refine wG_u rfl rfl ?_
    | refine wG_new (o_mks rfl rfl (by omega) (by decide)) ?_))
    exact ret_d0 (.inr rfl) rfl (retV_ldt rfl rfl rfl rfl rfl) (retV_mv rfl)
  · rw [decide_eq_false hG] at c1
    repeat (first | refine wG_call c1 rfl rfl ?_ | (first
    | refine wC_a rfl ?_
    | refine q_s rfl ?_
    | refine q_b rfl ?_
    | refine wG_nil ?_
    | refine wG_g rfl ?_
    | refine wG_pure (o_len_vwm rfl) ?_
    | refine wG_pure (o_not_d rfl) ?_
    | refine wG_p rfl (by first | exact rfl | omega) ?_
    | refine wG_pure (o_str2 rfl rfl rfl) ?_
    | refine wG_pure (e_istr rfl rfl (by omega)) ?_
    | refine wG_pure (e_istr0 rfl rfl (by omega)) ?_
    | refine wG_pure (o_not rfl) ?_
    | refine wG_pure (e_ia_vw0 rfl rfl (by omega) rfl) ?_
    | refine wG_pure (e_ia_vwp rfl rfl (by omega) rfl) ?_
    | refine wG_pure (e_ia_vwm rfl rfl (by omega) (by omega) rfl) ?_
    | refine wG_pure (e_ia_vwi rfl rfl (by omega) rfl) ?_
    | refine wG_pure (e_ia_vwn rfl rfl (by omega) (by omega) rfl) ?_
    | refine wG_n rfl rfl ?_
    | refine wG_u rfl rfl ?_
    | refine wG_new (o_mks rfl rfl (by omega) (by decide)) ?_))
    exact ret_d0 (.inr rfl) rfl (retV_ldt rfl rfl rfl rfl rfl) (retV_mv rfl)
theorem con37_no (c : Bool) (m : Md) (xs : List Ev) (x : Int) (h3 : xs.length ≤ 1048576) (hL : LenE xs 1048576) (hk : ¬ okI m xs x) : Con Try.prog 37 true [.agg (mdR c m xs), .int .i64 x] mNo [] := by
  classical
  refine con_of_wp mixed fun37 (by simp) [] plain_nil ?_
  unfold ac37 ro37
  simp only [zipT]
  have c1 := con14 c m xs h3 hL
  by_cases hG : GoodM m xs
  · rw [decide_eq_true hG] at c1
    have hn4 := hG.2.2.2.1
    have c2 := con42 x 0 ((xs.length : Int) - 1)
    rw [decide_eq_false (fun h => hk ⟨hG, h⟩)] at c2
    repeat (first | refine wG_call c1 rfl rfl ?_ | refine wG_call c2 rfl rfl ?_ | (first
    | refine wC_a rfl ?_
    | refine q_s rfl ?_
    | refine q_b rfl ?_
    | refine wG_nil ?_
    | refine wG_g rfl ?_
    | refine wG_pure (o_len_vwm rfl) ?_
    | refine wG_pure (o_not_d rfl) ?_
    | refine wG_p rfl (by first | exact rfl | omega) ?_
    | refine wG_pure (o_str2 rfl rfl rfl) ?_
    | refine wG_pure (e_istr rfl rfl (by omega)) ?_
    | refine wG_pure (e_istr0 rfl rfl (by omega)) ?_
    | refine wG_pure (o_not rfl) ?_
    | refine wG_pure (e_ia_vw0 rfl rfl (by omega) rfl) ?_
    | refine wG_pure (e_ia_vwp rfl rfl (by omega) rfl) ?_
    | refine wG_pure (e_ia_vwm rfl rfl (by omega) (by omega) rfl) ?_
    | refine wG_pure (e_ia_vwi rfl rfl (by omega) rfl) ?_
    | refine wG_pure (e_ia_vwn rfl rfl (by omega) (by omega) rfl) ?_
    | refine wG_n rfl rfl ?_
    | refine wG_u rfl rfl ?_
    | refine wG_new (o_mks rfl rfl (by omega) (by decide)) ?_))
    exact ret_d0 (.inr rfl) rfl (retV_ldt rfl rfl rfl rfl rfl) (retV_mv rfl)
  · rw [decide_eq_false hG] at c1
    repeat (first | refine wG_call c1 rfl rfl ?_ | (first
    | refine wC_a rfl ?_
    | refine q_s rfl ?_
    | refine q_b rfl ?_
    | refine wG_nil ?_
    | refine wG_g rfl ?_
    | refine wG_pure (o_len_vwm rfl) ?_
    | refine wG_pure (o_not_d rfl) ?_
    | refine wG_p rfl (by first | exact rfl | omega) ?_
    | refine wG_pure (o_str2 rfl rfl rfl) ?_
    | refine wG_pure (e_istr rfl rfl (by omega)) ?_
    | refine wG_pure (e_istr0 rfl rfl (by omega)) ?_
    | refine wG_pure (o_not rfl) ?_
    | refine wG_pure (e_ia_vw0 rfl rfl (by omega) rfl) ?_
    | refine wG_pure (e_ia_vwp rfl rfl (by omega) rfl) ?_
    | refine wG_pure (e_ia_vwm rfl rfl (by omega) (by omega) rfl) ?_
    | refine wG_pure (e_ia_vwi rfl rfl (by omega) rfl) ?_
    | refine wG_pure (e_ia_vwn rfl rfl (by omega) (by omega) rfl) ?_
    | refine wG_n rfl rfl ?_
    | refine wG_u rfl rfl ?_
    | refine wG_new (o_mks rfl rfl (by omega) (by decide)) ?_))
    exact ret_d0 (.inr rfl) rfl (retV_ldt rfl rfl rfl rfl rfl) (retV_mv rfl)
theorem di36 (m : Md) (xs : List Ev) (x : Int) (h3 : xs.length ≤ 1048576) (hL : LenE xs 1048576) : (∃ (f : Int) (vs : List Int), vs.length ≤ 60 ∧ Con Try.prog 36 true [.agg (mdR true m xs), .int .i64 x] (.tup [.agg [.int .i64 f, .sl 0 1 0 vs.length], .bool true]) [vs.map iRow] ∧ Con Try.prog 37 true [.agg (mdR true m xs), .int .i64 x] (.tup [.agg [.int .i64 f, .sl 0 1 0 vs.length], .bool true]) [vs.map iRow]) ∨ (Con Try.prog 36 true [.agg (mdR true m xs), .int .i64 x] (.tup [.agg [.int .i64 0, .nilS], .bool false]) [] ∧ Con Try.prog 37 true [.agg (mdR true m xs), .int .i64 x] (.tup [.agg [.int .i64 0, .nilS], .bool false]) []) := by
  classical
  by_cases hk : okI m xs x
  · obtain ⟨k, rfl⟩ : ∃ k : Nat, x = k := ⟨x.toNat, (Int.toNat_of_nonneg hk.2.1).symm⟩
    have he : k < xs.length := by have := hk.2.2; omega
    obtain ⟨cY, cN⟩ := con37_all true m xs h3 hL hk.1 he
    by_cases hm : mkOK m.f (scO (vE m xs k (aL m).length))
    · exact .inl ⟨_, _, hm.2.1.2, con36_all true m xs h3 hL hk.1 he _ [w0 m xs + 1] _ rfl (plain_map iRow_plain _) ⟨fun _ => ⟨rfl, rfl, rfl⟩, fun hn => absurd hm hn⟩, cY hm⟩
    · exact .inr ⟨con36_all true m xs h3 hL hk.1 he _ [] _ rfl plain_nil ⟨fun hy => absurd hy hm, fun _ => ⟨rfl, rfl, rfl⟩⟩, cN hm⟩
  · exact .inr ⟨con36_no true m xs x h3 hL hk, con37_no true m xs x h3 hL hk⟩
end Go.Proofs.Ytnohaclnpbpjbaa.Dst
