/- Dates of boundaries and spans of phases: the implementation. -/
import Derived.Test.YtnohaclnpbpjbaaPmL
namespace Go.Proofs.Ytnohaclnpbpjbaa.Dst
open Go Go.Proofs.Ytnohaclnpbpjbaa.Ab Go.Proofs.Ytnohaclnpbpjbaa.Il
attribute [local irreducible] wpO wpC wpDr wpQ wpG wpE stepA seqQ blkQ Ret RetG ev
set_option maxRecDepth 10000
set_option maxHeartbeats 8000000
set_option linter.unusedSimpArgs false
set_option linter.unusedVariables false

def ac32 : AC := (.seq (.reg [⟨(some 2), none, (.box 4 true (.t 0))⟩, ⟨(some 3), none, (.box 1 false (.t 1))⟩, ⟨(some 4), none, (.alloc [(.int .i64 0), .nilS])⟩, ⟨(some 5), none, (.mv (.c (.bool false)))⟩]) (.seq (.seq (.reg [⟨(some 7), none, (.ld true 4 (.t 2))⟩, ⟨(some 8), none, (.call 14 [(.t 7)])⟩, ⟨(some 9), none, (.un .not (.t 8))⟩, ⟨(some 10), none, (.mv (.t 9))⟩, ⟨(some 11), (some (10, false)), (.ld false 1 (.t 3))⟩, ⟨(some 12), (some (10, false)), (.fa 2 (.t 2))⟩, ⟨(some 13), (some (10, false)), (.ld false 1 (.t 12))⟩, ⟨(some 14), (some (10, false)), (.call 42 [(.t 11), (.c (.int .i64 0)), (.t 13)])⟩, ⟨(some 15), (some (10, false)), (.un .not (.t 14))⟩, ⟨(some 16), none, (.pick (.t 10) (.c (.bool true)) (.t 15))⟩]) (.cond (.t 16) (.seq (.reg [⟨(some 17), none, (.build [(.int .i64 0), .nilS] [])⟩, ⟨none, none, (.st 2 (.t 4) (.t 17))⟩, ⟨(some 5), none, (.mv (.c (.bool false)))⟩]) .ret) .skip)) (.seq (.reg [⟨(some 18), none, (.fa 1 (.t 2))⟩, ⟨(some 19), none, (.ld false 1 (.t 18))⟩, ⟨(some 20), none, (.mks 1 8 [(.int .i64 0)] (.t 19) (.t 19))⟩, ⟨(some 6), none, (.alloc [.nilS])⟩, ⟨none, none, (.st 1 (.t 6) (.t 20))⟩]) (.seq (.reg [⟨(some 21), none, (.ld true 4 (.t 2))⟩, ⟨(some 22), none, (.mkf 75 [(.t 6), (.t 3), (.t 2)])⟩, ⟨(some 23), none, (.call 64 [(.t 21), (.t 22)])⟩]) (.seq (.reg [⟨(some 24), none, (.fa 0 (.t 2))⟩, ⟨(some 25), none, (.ld false 1 (.t 24))⟩, ⟨(some 26), none, (.ld false 1 (.t 6))⟩, ⟨(some 27), none, (.call 56 [(.t 25), (.t 26)])⟩, ⟨(some 28), none, (.ext (.t 27) 0)⟩, ⟨(some 29), none, (.ext (.t 27) 1)⟩, ⟨none, none, (.st 2 (.t 4) (.t 28))⟩, ⟨(some 5), none, (.mv (.t 29))⟩]) .ret)))))
def ro32 : List AOp := [(.ld true 2 (.t 4)), (.mv (.t 5))]
theorem fun32 : Fun Try.prog 32 30 ac32 ro32 := ⟨Try.f32, _, Try.func32, by kernel_rfl, rfl, rfl, by kernel_rfl, by kernel_rfl, by decide⟩
def ac35 : AC := (.seq (.reg [⟨(some 2), none, (.box 4 true (.t 0))⟩, ⟨(some 3), none, (.box 1 false (.t 1))⟩, ⟨(some 4), none, (.alloc [(.int .i64 0), .nilS])⟩, ⟨(some 5), none, (.mv (.c (.bool false)))⟩]) (.seq (.seq (.reg [⟨(some 7), none, (.ld true 4 (.t 2))⟩, ⟨(some 8), none, (.call 14 [(.t 7)])⟩, ⟨(some 9), none, (.un .not (.t 8))⟩, ⟨(some 10), none, (.mv (.t 9))⟩, ⟨(some 11), (some (10, false)), (.ld false 1 (.t 3))⟩, ⟨(some 12), (some (10, false)), (.fa 2 (.t 2))⟩, ⟨(some 13), (some (10, false)), (.ld false 1 (.t 12))⟩, ⟨(some 14), (some (10, false)), (.bin .sub (.t 13) (.c (.int .i64 1)))⟩, ⟨(some 15), (some (10, false)), (.call 42 [(.t 11), (.c (.int .i64 0)), (.t 14)])⟩, ⟨(some 16), (some (10, false)), (.un .not (.t 15))⟩, ⟨(some 17), none, (.pick (.t 10) (.c (.bool true)) (.t 16))⟩]) (.cond (.t 17) (.seq (.reg [⟨(some 18), none, (.build [(.int .i64 0), .nilS] [])⟩, ⟨none, none, (.st 2 (.t 4) (.t 18))⟩, ⟨(some 5), none, (.mv (.c (.bool false)))⟩]) .ret) .skip)) (.seq (.reg [⟨(some 19), none, (.fa 1 (.t 2))⟩, ⟨(some 20), none, (.ld false 1 (.t 19))⟩, ⟨(some 21), none, (.mks 1 8 [(.int .i64 0)] (.t 20) (.t 20))⟩, ⟨(some 6), none, (.alloc [.nilS])⟩, ⟨none, none, (.st 1 (.t 6) (.t 21))⟩]) (.seq (.reg [⟨(some 22), none, (.ld true 4 (.t 2))⟩, ⟨(some 23), none, (.mkf 77 [(.t 6), (.t 3), (.t 2)])⟩, ⟨(some 24), none, (.call 64 [(.t 22), (.t 23)])⟩]) (.seq (.reg [⟨(some 25), none, (.ld false 1 (.t 6))⟩, ⟨(some 26), none, (.call 56 [(.c (.int .i64 0)), (.t 25)])⟩, ⟨(some 27), none, (.ext (.t 26) 0)⟩, ⟨(some 28), none, (.ext (.t 26) 1)⟩, ⟨none, none, (.st 2 (.t 4) (.t 27))⟩, ⟨(some 5), none, (.mv (.t 28))⟩]) .ret)))))
def ro35 : List AOp := [(.ld true 2 (.t 4)), (.mv (.t 5))]
theorem fun35 : Fun Try.prog 35 29 ac35 ro35 := ⟨Try.f35, _, Try.func35, by kernel_rfl, rfl, rfl, by kernel_rfl, by kernel_rfl, by decide⟩
def ac75 : AC := (.dreg [⟨(some 5), none, (.ld false 1 (.t 1))⟩, ⟨(some 6), none, (.mv (.t 0))⟩, ⟨(some 7), none, (.ld false 1 (.t 2))⟩, ⟨(some 8), none, (.ia 1 (.t 6) (.t 7))⟩, ⟨(some 9), none, (.ld false 1 (.t 8))⟩, ⟨(some 10), none, (.ia 1 (.t 5) (.t 9))⟩, ⟨(some 11), none, (.ld false 1 (.t 10))⟩, ⟨(some 12), none, (.ld true 4 (.t 3))⟩, ⟨(some 13), none, (.mv (.t 0))⟩, ⟨(some 14), none, (.call 66 [(.t 12), (.t 13), (.c (.int .i64 (-1)))])⟩, ⟨(some 15), none, (.bin .add (.t 11) (.t 14))⟩, ⟨(some 16), none, (.ia 1 (.t 5) (.t 9))⟩, ⟨none, none, (.st 1 (.t 16) (.t 15))⟩] [[], [], [], [1, 2], [1, 2, 3], [0, 1, 2, 3, 4], [0, 1, 2, 3, 4, 5], [], [], [7, 8], [0, 1, 2, 3, 4, 5, 6, 7, 8, 9], [0, 1, 2, 3, 4, 5, 6, 7, 8, 9, 10], [0, 1, 2, 3, 4, 5, 6, 7, 8, 9, 10, 11]])
def ro75 : List AOp := []
theorem fun75 : Fun Try.prog 75 17 ac75 ro75 := ⟨Try.f75, _, Try.func75, by kernel_rfl, rfl, rfl, by kernel_rfl, by kernel_rfl, by decide⟩
def ac77 : AC := (.dreg [⟨(some 5), none, (.ld false 1 (.t 1))⟩, ⟨(some 6), none, (.mv (.t 0))⟩, ⟨(some 7), none, (.ld false 1 (.t 2))⟩, ⟨(some 8), none, (.bin .add (.t 7) (.c (.int .i64 1)))⟩, ⟨(some 9), none, (.ia 1 (.t 6) (.t 8))⟩, ⟨(some 10), none, (.ld false 1 (.t 9))⟩, ⟨(some 11), none, (.mv (.t 0))⟩, ⟨(some 12), none, (.ld false 1 (.t 2))⟩, ⟨(some 13), none, (.ia 1 (.t 11) (.t 12))⟩, ⟨(some 14), none, (.ld false 1 (.t 13))⟩, ⟨(some 15), none, (.bin .sub (.t 10) (.t 14))⟩, ⟨(some 16), none, (.ia 1 (.t 5) (.t 15))⟩, ⟨(some 17), none, (.ld false 1 (.t 16))⟩, ⟨(some 18), none, (.ld true 4 (.t 3))⟩, ⟨(some 19), none, (.mv (.t 0))⟩, ⟨(some 20), none, (.call 66 [(.t 18), (.t 19), (.c (.int .i64 (-1)))])⟩, ⟨(some 21), none, (.bin .add (.t 17) (.t 20))⟩, ⟨(some 22), none, (.ia 1 (.t 5) (.t 15))⟩, ⟨none, none, (.st 1 (.t 22) (.t 21))⟩] [[], [], [], [2], [1, 2, 3], [1, 2, 3, 4], [], [], [6, 7], [6, 7, 8], [1, 2, 3, 4, 5, 6, 7, 8, 9], [0, 1, 2, 3, 4, 5, 6, 7, 8, 9, 10], [0, 1, 2, 3, 4, 5, 6, 7, 8, 9, 10, 11], [], [], [13, 14], [0, 1, 2, 3, 4, 5, 6, 7, 8, 9, 10, 11, 12, 13, 14, 15], [0, 1, 2, 3, 4, 5, 6, 7, 8, 9, 10, 11, 12, 13, 14, 15, 16], [0, 1, 2, 3, 4, 5, 6, 7, 8, 9, 10, 11, 12, 13, 14, 15, 16, 17]])
def ro77 : List AOp := []
theorem fun77 : Fun Try.prog 77 23 ac77 ro77 := ⟨Try.f77, _, Try.func77, by kernel_rfl, rfl, rfl, by kernel_rfl, by kernel_rfl, by decide⟩

def hsV (c : Bool) (m : Md) (xs : List Ev) (k : Nat) (s : List Int) : List (Nat × Option Ab.Rows) := [(3, some (s.map iRow)), (4, some [[.sl 3 1 0 m.y.toNat]]), (2, some [[.int .i64 0, .nilS]]), (1, some [[.int .i64 (k : Int)]]), (0, some [mdR c m xs])]
theorem hsV_wf {c : Bool} {m : Md} {xs : List Ev} {k nr : Nat} (h : 5 ≤ nr) (s : List Int) : wfH (hsV c m xs k s) nr :=
  wfH_cons (by omega) (ltrI _ _) (wfH_cons (by omega) (by simp [AV.ltr]; omega) (wfH_cons (by omega) (by simp [AV.ltr]) (wfH_cons (by omega) (by simp [AV.ltr]) (wfH_cons (by omega) (mdR_ltr1' _) wfH_nil))))
theorem vis32 {c : Bool} {m : Md} {xs : List Ev} (hG : GoodM m xs) {k : Nat} (hk : (k : Int) ≤ m.p) (s : List Int) (hs : s.length = m.y.toNat) (b : List Nat) (hb : GoodB m.y.toNat (m.p.toNat + 1) b) : Sh Try.prog 75 ([.sl (5 + 2) 1 0 (m.p.toNat + 1)] ++ [.pt 4 0 0, .pt 1 0 0, .pt 0 0 0]) (eF (mdR c m xs) 5 75 [.pt 4 0 0, .pt 1 0 0, .pt 0 0 0] (m.p.toNat + 1) b (hsV c m xs k s)) 10 (.tup []) (eF (mdR c m xs) 5 75 [.pt 4 0 0, .pt 1 0 0, .pt 0 0 0] (m.p.toNat + 1) b (hsV c m xs k (stV (atB k) (fW m xs (-1)) s b))) 10 := by
  refine sh_of_wp mixed fun75 (by simp) ?_
  unfold ac75 ro75
  simp only [zipT, List.cons_append, List.nil_append]
  have hY := hG.1
  have hf := hG.2.1
  have hPb := hG.2.2.1
  have e0 : ∀ n : Nat, 0 + ((n : Int)).toNat = n := fun n => by simp
  have cw := con66 c true m xs hG b hb (-1)
  have hl := hb.len
  have hk1 : k < m.p.toNat + 1 := by omega
  have b1 := hb.lt k (by omega)
  have gi : (b.map nRow)[k]? = some (nRow (gN b k)) := nGet (by omega)
  have gi1 : k + 1 < m.p.toNat + 1 → (b.map nRow)[k + 1]? = some (nRow (gN b (k + 1))) := fun h => nGet (by omega)
  have b2 : k + 1 < m.p.toNat + 1 → gN b k ≤ gN b (k + 1) ∧ gN b (k + 1) < m.y.toNat := fun h => ⟨hb.mono k h, hb.lt _ h⟩
  have hat : (atB k) b < m.y.toNat := by first | exact b1 | (have := b2 (by omega); show gN b (k + 1) - gN b k < _; omega)
  have gk : (s.map iRow)[(atB k) b]? = some (iRow (s.getD ((atB k) b) default)) := iGet (by omega)
  have ek : 0 + ((k : Int) + 1).toNat = k + 1 := by omega
  have es : 0 + (((gN b (k + 1) : Nat) : Int) - ((gN b k : Nat) : Int)).toNat = gN b (k + 1) - gN b k := by omega
  try (have b2' := b2 (by omega))
  repeat (first | refine wC_dregE ?_ | (refine wE_v (e_ia_sl rfl rfl (by omega) (by omega)) rfl ?_; simp only [ek, es, e0]) | refine wE_v (o_ldf_pt rfl rfl gi rfl) rfl ?_ | refine wE_v (o_ldf_pt rfl rfl (gi1 (by omega)) rfl) rfl ?_ | refine wE_v (o_ldf_pt rfl rfl gk rfl) rfl ?_ | refine wE_call cw (ag_any rfl (ag_sl rfl rfl hl.symm nRow_plain (ag_int rfl ag_nil))) rfl rfl ?_ | refine wE_upd (o_st1 rfl rfl gk rfl rfl mset) rfl ?_ | (first
    | refine wC_a rfl ?_
    | refine q_s rfl ?_
    | refine q_b rfl ?_
    | refine wG_nil ?_
    | refine wG_g rfl ?_
    | refine wG_pure (o_len_vwm rfl) ?_
    | refine wG_pure (o_not_d rfl) ?_
    | refine wG_p rfl (by first | exact rfl | omega) ?_
    | refine wG_pure (o_str2 rfl rfl rfl) ?_
    | refine wG_pure (e_istr rfl rfl (by omega)) ?_
    | refine wG_pure (e_istr0 rfl rfl (by omega)) ?_
    | refine wG_pure (o_not rfl) ?_
    | refine wG_pure (e_ia_vw0 rfl rfl (by omega) rfl) ?_
    | refine wG_pure (e_ia_vwp rfl rfl (by omega) rfl) ?_
    | refine wG_pure (e_ia_vwm rfl rfl (by omega) (by omega) rfl) ?_
    | refine wG_pure (e_ia_vwi rfl rfl (by omega) rfl) ?_
    | refine wG_pure (e_ia_vwn rfl rfl (by omega) (by omega) rfl) ?_
    | refine wG_n rfl rfl ?_
    | refine wG_u rfl rfl ?_
    | refine wG_new (o_mks rfl rfl (by omega) (by decide)) ?_) | (first
    | refine wE_nil (by kernel_rfl) ?_
    | refine wE_gy rfl ?_
    | refine wE_gn rfl rfl rfl ?_
    | refine wE_gu rfl rfl ?_
    | refine wE_gnn rfl rfl rfl ?_
    | refine wE_v (o_len_vwm rfl) rfl ?_
    | refine wE_v (o_not_d rfl) rfl ?_
    | refine wE_p rfl (by first | exact rfl | omega) rfl ?_
    | refine wE_v (o_str2 rfl rfl rfl) rfl ?_
    | refine wE_v (e_istr rfl rfl (by omega)) rfl ?_
    | refine wE_v (e_istr0 rfl rfl (by omega)) rfl ?_
    | refine wE_v (o_not rfl) rfl ?_
    | refine wE_v (e_ia_vw0 rfl rfl (by omega) rfl) rfl ?_
    | refine wE_v (e_ia_vwp rfl rfl (by omega) rfl) rfl ?_
    | refine wE_v (e_ia_vwm rfl rfl (by omega) (by omega) rfl) rfl ?_
    | refine wE_v (e_ia_vwi rfl rfl (by omega) rfl) rfl ?_
    | refine wE_v (e_ia_vwn rfl rfl (by omega) (by omega) rfl) rfl ?_
    | refine wE_n rfl rfl rfl ?_
    | refine wE_u rfl rfl rfl ?_
    | refine wE_new (o_mks rfl rfl (by omega) (by decide)) rfl ?_) | refine wE_v (o_addw rfl rfl) rfl ?_)
  refine ⟨trivial, [], rfl, Le_of ⟨⟨rfl, rfl⟩, trivial⟩ (fun q rows hq => ?_) (eF_wf (nr := 10) (by decide) (mdR_ltr _) rfl (hsV_wf (by decide) _)), Nat.le_refl _⟩
  refine Eq.trans ?_ hq
  by_cases e3 : q = 3
  · subst e3; rfl
  · simp only [eF, hsV, Ab.hg, upd, if_neg e3]
theorem con32_all (c : Bool) (m : Md) (xs : List Ev) (h3 : xs.length ≤ 1048576) (hL : LenE xs 1048576) (hG : GoodM m xs) {k : Nat} (hk : (k : Int) ≤ m.p) :
    (mkOK m.f (scO (vS m xs (atB k) (aL m).length)) → Con Try.prog 32 true [.agg (mdR c m xs), .int .i64 (k : Int)] (mYes (mkO m.f (scO (vS m xs (atB k) (aL m).length)))) [(mkO m.f (scO (vS m xs (atB k) (aL m).length))).ws.map iRow]) ∧ (¬ mkOK m.f (scO (vS m xs (atB k) (aL m).length)) → Con Try.prog 32 true [.agg (mdR c m xs), .int .i64 (k : Int)] mNo []) := by
  classical
  have c1 := con14 c m xs h3 hL
  rw [decide_eq_true hG] at c1
  have c2 := con42 (k : Int) 0 (m.p)
  rw [decide_eq_true ⟨by omega, hk⟩] at c2
  have hY := hG.1
  have hf := hG.2.1
  have hPb := hG.2.2.1
  have h8 := aL_len hG
  obtain ⟨ml, mb⟩ := vS_b hG (atB k) (aL m).length (Nat.le_refl _)
  have mb' : bnd (vS m xs (atB k) (aL m).length) 8000000000000000000 := fun j hj => by have := mb j hj; omega
  have hE := (each_sh (σ := List Int) (step := stV (atB k) (fW m xs (-1))) (J := fun s => s.length = m.y.toNat) (hs := hsV c m xs k) (nrS := fun _ => 10) (c := c) (m := m) (xs := xs) (N := 5) (fv := 75) (n := m.p.toNat + 1) (caps := [.pt 4 0 0, .pt 1 0 0, .pt 0 0 0]) hG rfl (fun _ => Nat.le_refl _) (fun s _ => hsV_wf (by omega) s) rfl (fun _ _ => Nat.le_refl _) (fun s b hs hb => ⟨vis32 hG hk s hs b hb, by rw [stV, List.length_set]; exact hs⟩) (fun s q rows _ hq => by
    by_cases e : q < 5
    · exact .inl e
    · simp [hsV, Ab.hg, upd, show q ≠ 4 by omega, show q ≠ 3 by omega, show q ≠ 2 by omega, show q ≠ 1 by omega, show q ≠ 0 by omega] at hq) (List.replicate m.y.toNat 0) (by simp) rfl).1
  have ez : (bL m.y.toNat (m.p.toNat + 1)).foldl (stV (atB k) (fW m xs (-1))) (List.replicate m.y.toNat 0) = vS m xs (atB k) (aL m).length := by
    show (aL m).foldl _ _ = _
    rw [vS, List.take_length]
  rw [ez] at hE
  generalize vS m xs (atB k) (aL m).length = z at *
  have hrep : List.replicate m.y.toNat [AV.int .i64 0] = (List.replicate m.y.toNat (0 : Int)).map iRow := by rw [List.map_replicate]; rfl
  have hE2 : Sh Try.prog 64 [.agg (mdR c m xs), .fn 75 [.pt 4 0 0, .pt 1 0 0, .pt 0 0 0]] [(4, some [[.sl 3 1 0 m.y.toNat]]), (4, some [[.nilS]]), (3, some (List.replicate m.y.toNat [AV.int .i64 0])), (2, some [[.int .i64 0, .nilS]]), (1, some [[.int .i64 (k : Int)]]), (0, some [mdR c m xs])] 5 (.tup []) (hsV c m xs k z) 10 := by
    rw [hrep]
    refine Sh_hg ?_ hE
    funext q
    simp only [hsV, Ab.hg, upd]
    repeat' split
    all_goals (first | rfl | (exfalso; omega) | omega)
  constructor
  · intro hm
    have c5 := con56_Y true m.f z (by omega) (by omega) mb' (by decide) (by decide) (by omega) (by omega) hm
    refine con_of_wp mixed fun32 (by simp) [10] (plain_map iRow_plain _) ?_
    unfold ac32 ro32
    simp only [zipT]
    repeat (first | refine wG_call c1 rfl rfl ?_ | refine wG_call c2 rfl rfl ?_ | refine wG_new (o_mksZ (n := m.y.toNat) (by omega) rfl rfl (by omega) (by decide)) ?_ | refine wG_pure (o_mkf rfl) ?_ | refine wG_callS hE2 rfl ?_ | refine wG_call1 c5 (ag_int rfl (ag_sl rfl rfl ml.symm iRow_plain ag_nil)) rfl ?_ | (first
    | refine wC_a rfl ?_
    | refine q_s rfl ?_
    | refine q_b rfl ?_
    | refine wG_nil ?_
    | refine wG_g rfl ?_
    | refine wG_pure (o_len_vwm rfl) ?_
    | refine wG_pure (o_not_d rfl) ?_
    | refine wG_p rfl (by first | exact rfl | omega) ?_
    | refine wG_pure (o_str2 rfl rfl rfl) ?_
    | refine wG_pure (e_istr rfl rfl (by omega)) ?_
    | refine wG_pure (e_istr0 rfl rfl (by omega)) ?_
    | refine wG_pure (o_not rfl) ?_
    | refine wG_pure (e_ia_vw0 rfl rfl (by omega) rfl) ?_
    | refine wG_pure (e_ia_vwp rfl rfl (by omega) rfl) ?_
    | refine wG_pure (e_ia_vwm rfl rfl (by omega) (by omega) rfl) ?_
    | refine wG_pure (e_ia_vwi rfl rfl (by omega) rfl) ?_
    | refine wG_pure (e_ia_vwn rfl rfl (by omega) (by omega) rfl) ?_
    | refine wG_n rfl rfl ?_
    | refine wG_u rfl rfl ?_
    | refine wG_new (o_mks rfl rfl (by omega) (by decide)) ?_))
    exact ret_db (.inr rfl) rfl (retV_ldt rfl rfl rfl rfl rfl) (retV_mv rfl) rfl
  · intro hm
    have c5 := con56_N true m.f z (by omega) (by omega) mb' (by decide) (by decide) (by omega) (by omega) hm
    refine con_of_wp mixed fun32 (by simp) [] plain_nil ?_
    unfold ac32 ro32
    simp only [zipT]
    repeat (first | refine wG_call c1 rfl rfl ?_ | refine wG_call c2 rfl rfl ?_ | refine wG_new (o_mksZ (n := m.y.toNat) (by omega) rfl rfl (by omega) (by decide)) ?_ | refine wG_pure (o_mkf rfl) ?_ | refine wG_callS hE2 rfl ?_ | refine wG_call c5 (ag_int rfl (ag_sl rfl rfl ml.symm iRow_plain ag_nil)) rfl ?_ | (first
    | refine wC_a rfl ?_
    | refine q_s rfl ?_
    | refine q_b rfl ?_
    | refine wG_nil ?_
    | refine wG_g rfl ?_
    | refine wG_pure (o_len_vwm rfl) ?_
    | refine wG_pure (o_not_d rfl) ?_
    | refine wG_p rfl (by first | exact rfl | omega) ?_
    | refine wG_pure (o_str2 rfl rfl rfl) ?_
    | refine wG_pure (e_istr rfl rfl (by omega)) ?_
    | refine wG_pure (e_istr0 rfl rfl (by omega)) ?_
    | refine wG_pure (o_not rfl) ?_
    | refine wG_pure (e_ia_vw0 rfl rfl (by omega) rfl) ?_
    | refine wG_pure (e_ia_vwp rfl rfl (by omega) rfl) ?_
    | refine wG_pure (e_ia_vwm rfl rfl (by omega) (by omega) rfl) ?_
    | refine wG_pure (e_ia_vwi rfl rfl (by omega) rfl) ?_
    | refine wG_pure (e_ia_vwn rfl rfl (by omega) (by omega) rfl) ?_
    | refine wG_n rfl rfl ?_
    | refine wG_u rfl rfl ?_
    | refine wG_new (o_mks rfl rfl (by omega) (by decide)) ?_))
    exact ret_d0 (.inr rfl) rfl (retV_ldt rfl rfl rfl rfl rfl) (retV_mv rfl)
theorem vis35 {c : Bool} {m : Md} {xs : List Ev} (hG : GoodM m xs) {k : Nat} (hk : (k : Int) ≤ (m.p - 1)) (s : List Int) (hs : s.length = m.y.toNat) (b : List Nat) (hb : GoodB m.y.toNat (m.p.toNat + 1) b) : Sh Try.prog 77 ([.sl (5 + 2) 1 0 (m.p.toNat + 1)] ++ [.pt 4 0 0, .pt 1 0 0, .pt 0 0 0]) (eF (mdR c m xs) 5 77 [.pt 4 0 0, .pt 1 0 0, .pt 0 0 0] (m.p.toNat + 1) b (hsV c m xs k s)) 10 (.tup []) (eF (mdR c m xs) 5 77 [.pt 4 0 0, .pt 1 0 0, .pt 0 0 0] (m.p.toNat + 1) b (hsV c m xs k (stV (atP k) (fW m xs (-1)) s b))) 10 := by
  refine sh_of_wp mixed fun77 (by simp) ?_
  unfold ac77 ro77
  simp only [zipT, List.cons_append, List.nil_append]
  have hY := hG.1
  have hf := hG.2.1
  have hPb := hG.2.2.1
  have e0 : ∀ n : Nat, 0 + ((n : Int)).toNat = n := fun n => by simp
  have cw := con66 c true m xs hG b hb (-1)
  have hl := hb.len
  have hk1 : k < m.p.toNat + 1 := by omega
  have b1 := hb.lt k (by omega)
  have gi : (b.map nRow)[k]? = some (nRow (gN b k)) := nGet (by omega)
  have gi1 : k + 1 < m.p.toNat + 1 → (b.map nRow)[k + 1]? = some (nRow (gN b (k + 1))) := fun h => nGet (by omega)
  have b2 : k + 1 < m.p.toNat + 1 → gN b k ≤ gN b (k + 1) ∧ gN b (k + 1) < m.y.toNat := fun h => ⟨hb.mono k h, hb.lt _ h⟩
  have hat : (atP k) b < m.y.toNat := by first | exact b1 | (have := b2 (by omega); show gN b (k + 1) - gN b k < _; omega)
  have gk : (s.map iRow)[(atP k) b]? = some (iRow (s.getD ((atP k) b) default)) := iGet (by omega)
  have ek : 0 + ((k : Int) + 1).toNat = k + 1 := by omega
  have es : 0 + (((gN b (k + 1) : Nat) : Int) - ((gN b k : Nat) : Int)).toNat = gN b (k + 1) - gN b k := by omega
  try (have b2' := b2 (by omega))
  repeat (first | refine wC_dregE ?_ | (refine wE_v (e_ia_sl rfl rfl (by omega) (by omega)) rfl ?_; simp only [ek, es, e0]) | refine wE_v (o_ldf_pt rfl rfl gi rfl) rfl ?_ | refine wE_v (o_ldf_pt rfl rfl (gi1 (by omega)) rfl) rfl ?_ | refine wE_v (o_ldf_pt rfl rfl gk rfl) rfl ?_ | refine wE_call cw (ag_any rfl (ag_sl rfl rfl hl.symm nRow_plain (ag_int rfl ag_nil))) rfl rfl ?_ | refine wE_upd (o_st1 rfl rfl gk rfl rfl mset) rfl ?_ | (first
    | refine wC_a rfl ?_
    | refine q_s rfl ?_
    | refine q_b rfl ?_
    | refine wG_nil ?_
    | refine wG_g rfl ?_
    | refine wG_pure (o_len_vwm rfl) ?_
    | refine wG_pure (o_not_d rfl) ?_
    | refine wG_p rfl (by first | exact rfl | omega) ?_
    | refine wG_pure (o_str2 rfl rfl rfl) ?_
    | refine wG_pure (e_istr rfl rfl (by omega)) ?_
    | refine wG_pure (e_istr0 rfl rfl (by omega)) ?_
    | refine wG_pure (o_not rfl) ?_
    | refine wG_pure (e_ia_vw0 rfl rfl (by omega) rfl) ?_
    | refine wG_pure (e_ia_vwp rfl rfl (by omega) rfl) ?_
    | refine wG_pure (e_ia_vwm rfl rfl (by omega) (by omega) rfl) ?_
    | refine wG_pure (e_ia_vwi rfl rfl (by omega) rfl) ?_
    | refine wG_pure (e_ia_vwn rfl rfl (by omega) (by omega) rfl) ?_
    | refine wG_n rfl rfl ?_
    | refine wG_u rfl rfl ?_
    | refine wG_new (o_mks rfl rfl (by omega) (by decide)) ?_) | (first
    | refine wE_nil (by kernel_rfl) ?_
    | refine wE_gy rfl ?_
    | refine wE_gn rfl rfl rfl ?_
    | refine wE_gu rfl rfl ?_
    | refine wE_gnn rfl rfl rfl ?_
    | refine wE_v (o_len_vwm rfl) rfl ?_
    | refine wE_v (o_not_d rfl) rfl ?_
    | refine wE_p rfl (by first | exact rfl | omega) rfl ?_
    | refine wE_v (o_str2 rfl rfl rfl) rfl ?_
    | refine wE_v (e_istr rfl rfl (by omega)) rfl ?_
    | refine wE_v (e_istr0 rfl rfl (by omega)) rfl ?_
    | refine wE_v (o_not rfl) rfl ?_
    | refine wE_v (e_ia_vw0 rfl rfl (by omega) rfl) rfl ?_
    | refine wE_v (e_ia_vwp rfl rfl (by omega) rfl) rfl ?_
    | refine wE_v (e_ia_vwm rfl rfl (by omega) (by omega) rfl) rfl ?_
    | refine wE_v (e_ia_vwi rfl rfl (by omega) rfl) rfl ?_
    | refine wE_v (e_ia_vwn rfl rfl (by omega) (by omega) rfl) rfl ?_
    | refine wE_n rfl rfl rfl ?_
    | refine wE_u rfl rfl rfl ?_
    | refine wE_new (o_mks rfl rfl (by omega) (by decide)) rfl ?_) | refine wE_v (o_addw rfl rfl) rfl ?_)
  refine ⟨trivial, [], rfl, Le_of ⟨⟨rfl, rfl⟩, trivial⟩ (fun q rows hq => ?_) (eF_wf (nr := 10) (by decide) (mdR_ltr _) rfl (hsV_wf (by decide) _)), Nat.le_refl _⟩
  refine Eq.trans ?_ hq
  by_cases e3 : q = 3
  · subst e3; rfl
  · simp only [eF, hsV, Ab.hg, upd, if_neg e3]
theorem con35_all (c : Bool) (m : Md) (xs : List Ev) (h3 : xs.length ≤ 1048576) (hL : LenE xs 1048576) (hG : GoodM m xs) {k : Nat} (hk : (k : Int) ≤ (m.p - 1)) :
    (mkOK 0 (scO (vS m xs (atP k) (aL m).length)) → Con Try.prog 35 true [.agg (mdR c m xs), .int .i64 (k : Int)] (mYes (mkO 0 (scO (vS m xs (atP k) (aL m).length)))) [(mkO 0 (scO (vS m xs (atP k) (aL m).length))).ws.map iRow]) ∧ (¬ mkOK 0 (scO (vS m xs (atP k) (aL m).length)) → Con Try.prog 35 true [.agg (mdR c m xs), .int .i64 (k : Int)] mNo []) := by
  classical
  have c1 := con14 c m xs h3 hL
  rw [decide_eq_true hG] at c1
  have c2 := con42 (k : Int) 0 ((m.p - 1))
  rw [decide_eq_true ⟨by omega, hk⟩] at c2
  have hY := hG.1
  have hf := hG.2.1
  have hPb := hG.2.2.1
  have h8 := aL_len hG
  obtain ⟨ml, mb⟩ := vS_b hG (atP k) (aL m).length (Nat.le_refl _)
  have mb' : bnd (vS m xs (atP k) (aL m).length) 8000000000000000000 := fun j hj => by have := mb j hj; omega
  have hE := (each_sh (σ := List Int) (step := stV (atP k) (fW m xs (-1))) (J := fun s => s.length = m.y.toNat) (hs := hsV c m xs k) (nrS := fun _ => 10) (c := c) (m := m) (xs := xs) (N := 5) (fv := 77) (n := m.p.toNat + 1) (caps := [.pt 4 0 0, .pt 1 0 0, .pt 0 0 0]) hG rfl (fun _ => Nat.le_refl _) (fun s _ => hsV_wf (by omega) s) rfl (fun _ _ => Nat.le_refl _) (fun s b hs hb => ⟨vis35 hG hk s hs b hb, by rw [stV, List.length_set]; exact hs⟩) (fun s q rows _ hq => by
    by_cases e : q < 5
    · exact .inl e
    · simp [hsV, Ab.hg, upd, show q ≠ 4 by omega, show q ≠ 3 by omega, show q ≠ 2 by omega, show q ≠ 1 by omega, show q ≠ 0 by omega] at hq) (List.replicate m.y.toNat 0) (by simp) rfl).1
  have ez : (bL m.y.toNat (m.p.toNat + 1)).foldl (stV (atP k) (fW m xs (-1))) (List.replicate m.y.toNat 0) = vS m xs (atP k) (aL m).length := by
    show (aL m).foldl _ _ = _
    rw [vS, List.take_length]
  rw [ez] at hE
  generalize vS m xs (atP k) (aL m).length = z at *
  have hrep : List.replicate m.y.toNat [AV.int .i64 0] = (List.replicate m.y.toNat (0 : Int)).map iRow := by rw [List.map_replicate]; rfl
  have hE2 : Sh Try.prog 64 [.agg (mdR c m xs), .fn 77 [.pt 4 0 0, .pt 1 0 0, .pt 0 0 0]] [(4, some [[.sl 3 1 0 m.y.toNat]]), (4, some [[.nilS]]), (3, some (List.replicate m.y.toNat [AV.int .i64 0])), (2, some [[.int .i64 0, .nilS]]), (1, some [[.int .i64 (k : Int)]]), (0, some [mdR c m xs])] 5 (.tup []) (hsV c m xs k z) 10 := by
    rw [hrep]
    refine Sh_hg ?_ hE
    funext q
    simp only [hsV, Ab.hg, upd]
    repeat' split
    all_goals (first | rfl | (exfalso; omega) | omega)
  constructor
  · intro hm
    have c5 := con56_Y true 0 z (by omega) (by omega) mb' (by decide) (by decide) (by omega) (by omega) hm
    refine con_of_wp mixed fun35 (by simp) [10] (plain_map iRow_plain _) ?_
    unfold ac35 ro35
    simp only [zipT]
    repeat (first | refine wG_call c1 rfl rfl ?_ | refine wG_call c2 rfl rfl ?_ | refine wG_new (o_mksZ (n := m.y.toNat) (by omega) rfl rfl (by omega) (by decide)) ?_ | refine wG_pure (o_mkf rfl) ?_ | refine wG_callS hE2 rfl ?_ | refine wG_call1 c5 (ag_int rfl (ag_sl rfl rfl ml.symm iRow_plain ag_nil)) rfl ?_ | (first
    | refine wC_a rfl ?_
    | refine q_s rfl ?_
    | refine q_b rfl ?_
    | refine wG_nil ?_
    | refine wG_g rfl ?_
    | refine wG_pure (o_len_vwm rfl) ?_
    | refine wG_pure (o_not_d rfl) ?_
    | refine wG_p rfl (by first | exact rfl | omega) ?_
    | refine wG_pure (o_str2 rfl rfl rfl) ?_
    | refine wG_pure (e_istr rfl rfl (by omega)) ?_
    | refine wG_pure (e_istr0 rfl rfl (by omega)) ?_
    | refine wG_pure (o_not rfl) ?_
    | refine wG_pure (e_ia_vw0 rfl rfl (by omega) rfl) ?_
    | refine wG_pure (e_ia_vwp rfl rfl (by omega) rfl) ?_
    | refine wG_pure (e_ia_vwm rfl rfl (by omega) (by omega) rfl) ?_
    | refine wG_pure (e_ia_vwi rfl rfl (by omega) rfl) ?_
    | refine wG_pure (e_ia_vwn rfl rfl (by omega) (by omega) rfl) ?_
    | refine wG_n rfl rfl ?_
    | refine wG_u rfl rfl ?_
    | refine wG_new (o_mks rfl rfl (by omega) (by decide)) ?_))
    exact ret_db (.inr rfl) rfl (retV_ldt rfl rfl rfl rfl rfl) (retV_mv rfl) rfl
  · intro hm
    have c5 := con56_N true 0 z (by omega) (by omega) mb' (by decide) (by decide) (by omega) (by omega) hm
    refine con_of_wp mixed fun35 (by simp) [] plain_nil ?_
    unfold ac35 ro35
    simp only [zipT]
    repeat (first | refine wG_call c1 rfl rfl ?_ | refine wG_call c2 rfl rfl ?_ | refine wG_new (o_mksZ (n := m.y.toNat) (by omega) rfl rfl (by omega) (by decide)) ?_ | refine wG_pure (o_mkf rfl) ?_ | refine wG_callS hE2 rfl ?_ | refine wG_call c5 (ag_int rfl (ag_sl rfl rfl ml.symm iRow_plain ag_nil)) rfl ?_ | (first
    | refine wC_a rfl ?_
    | refine q_s rfl ?_
    | refine q_b rfl ?_
    | refine wG_nil ?_
    | refine wG_g rfl ?_
    | refine wG_pure (o_len_vwm rfl) ?_
    | refine wG_pure (o_not_d rfl) ?_
    | refine wG_p rfl (by first | exact rfl | omega) ?_
    | refine wG_pure (o_str2 rfl rfl rfl) ?_
    | refine wG_pure (e_istr rfl rfl (by omega)) ?_
    | refine wG_pure (e_istr0 rfl rfl (by omega)) ?_
    | refine wG_pure (o_not rfl) ?_
    | refine wG_pure (e_ia_vw0 rfl rfl (by omega) rfl) ?_
    | refine wG_pure (e_ia_vwp rfl rfl (by omega) rfl) ?_
    | refine wG_pure (e_ia_vwm rfl rfl (by omega) (by omega) rfl) ?_
    | refine wG_pure (e_ia_vwi rfl rfl (by omega) rfl) ?_
    | refine wG_pure (e_ia_vwn rfl rfl (by omega) (by omega) rfl) ?_
    | refine wG_n rfl rfl ?_
    | refine wG_u rfl rfl ?_
    | refine wG_new (o_mks rfl rfl (by omega) (by decide)) ?_))
    exact ret_d0 (.inr rfl) rfl (retV_ldt rfl rfl rfl rfl rfl) (retV_mv rfl)
end Go.Proofs.Ytnohaclnpbpjbaa.Dst
