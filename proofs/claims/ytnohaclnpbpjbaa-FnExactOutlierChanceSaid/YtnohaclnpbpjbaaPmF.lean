/- The specification's lists of boundaries. -/
import Derived.Test.YtnohaclnpbpjbaaPmE
namespace Go.Proofs.Ytnohaclnpbpjbaa.Dst
open Go Go.Proofs.Ytnohaclnpbpjbaa.Ab Go.Proofs.Ytnohaclnpbpjbaa.Il
attribute [local irreducible] wpO wpC wpDr wpQ wpG wpE stepA seqQ blkQ Ret RetG ev
set_option maxRecDepth 10000
set_option maxHeartbeats 8000000
set_option linter.unusedSimpArgs false
set_option linter.unusedVariables false

def ac73 : AC := (.seq (.reg [⟨(some 1), none, (.box 4 true (.t 0))⟩, ⟨(some 2), none, (.mv (.c .nilS))⟩]) (.seq (.reg [⟨(some 9), none, (.bsl 1 [(.int .i64 0)] 0 [])⟩, ⟨(some 10), none, (.bsl 1 [.nilS] 1 [(0, (.t 9))])⟩, ⟨(some 3), none, (.mv (.t 10))⟩]) (.seq (.seq (.reg [⟨(some 4), none, (.mv (.c (.int .i64 0)))⟩]) (.blk 0 (.loop (.seq (.seq (.reg [⟨(some 11), none, (.mv (.t 4))⟩, ⟨(some 12), none, (.fa 2 (.t 1))⟩, ⟨(some 13), none, (.ld false 1 (.t 12))⟩, ⟨(some 14), none, (.bin .leq (.t 11) (.t 13))⟩]) (.cond (.t 14) .skip (.exit 0))) (.seq (.blk 1 (.seq (.reg [⟨(some 17), none, (.bsl 1 [.nilS] 0 [])⟩, ⟨(some 5), none, (.mv (.t 17))⟩]) (.seq (.seq (.reg [⟨(some 6), none, (.mv (.c (.int .i64 0)))⟩]) (.blk 2 (.loop (.seq (.seq (.reg [⟨(some 18), none, (.mv (.t 6))⟩, ⟨(some 19), none, (.mv (.t 3))⟩, ⟨(some 20), none, (.len (.t 19))⟩, ⟨(some 21), none, (.bin .lss (.t 18) (.t 20))⟩]) (.cond (.t 21) .skip (.exit 2))) (.seq (.blk 3 (.seq (.reg [⟨(some 7), none, (.mv (.c (.int .i64 0)))⟩]) (.seq (.seq (.reg [⟨(some 24), none, (.mv (.t 4))⟩, ⟨(some 25), none, (.bin .gtr (.t 24) (.c (.int .i64 0)))⟩]) (.cond (.t 25) (.reg [⟨(some 26), none, (.mv (.t 3))⟩, ⟨(some 27), none, (.mv (.t 6))⟩, ⟨(some 28), none, (.ia 1 (.t 26) (.t 27))⟩, ⟨(some 29), none, (.ld false 1 (.t 28))⟩, ⟨(some 30), none, (.mv (.t 4))⟩, ⟨(some 31), none, (.bin .sub (.t 30) (.c (.int .i64 1)))⟩, ⟨(some 32), none, (.ia 1 (.t 29) (.t 31))⟩, ⟨(some 33), none, (.ld false 1 (.t 32))⟩, ⟨(some 7), none, (.mv (.t 33))⟩]) .skip)) (.seq (.reg [⟨(some 34), none, (.mv (.t 7))⟩, ⟨(some 8), none, (.mv (.t 34))⟩]) (.blk 4 (.loop (.seq (.seq (.reg [⟨(some 35), none, (.mv (.t 8))⟩, ⟨(some 36), none, (.fa 1 (.t 1))⟩, ⟨(some 37), none, (.ld false 1 (.t 36))⟩, ⟨(some 38), none, (.bin .lss (.t 35) (.t 37))⟩]) (.cond (.t 38) .skip (.exit 4))) (.seq (.blk 5 (.reg [⟨(some 41), none, (.mv (.t 5))⟩, ⟨(some 42), none, (.mv (.t 3))⟩, ⟨(some 43), none, (.mv (.t 6))⟩, ⟨(some 44), none, (.ia 1 (.t 42) (.t 43))⟩, ⟨(some 45), none, (.ld false 1 (.t 44))⟩, ⟨(some 46), none, (.call 98 [(.t 45)])⟩, ⟨(some 47), none, (.mv (.t 8))⟩, ⟨(some 48), none, (.bsl 1 [(.int .i64 0)] 1 [(0, (.t 47))])⟩, ⟨(some 49), none, (.app 1 8 [(.int .i64 0)] (.t 46) (.t 48))⟩, ⟨(some 50), none, (.bsl 1 [.nilS] 1 [(0, (.t 49))])⟩, ⟨(some 51), none, (.app 1 24 [.nilS] (.t 41) (.t 50))⟩, ⟨(some 5), none, (.mv (.t 51))⟩])) (.reg [⟨(some 39), none, (.mv (.t 8))⟩, ⟨(some 40), none, (.bin .add (.t 39) (.c (.int .i64 1)))⟩, ⟨(some 8), none, (.mv (.t 40))⟩]))))))))) (.reg [⟨(some 22), none, (.mv (.t 6))⟩, ⟨(some 23), none, (.bin .add (.t 22) (.c (.int .i64 1)))⟩, ⟨(some 6), none, (.mv (.t 23))⟩])))))) (.reg [⟨(some 52), none, (.mv (.t 5))⟩, ⟨(some 3), none, (.mv (.t 52))⟩])))) (.reg [⟨(some 15), none, (.mv (.t 4))⟩, ⟨(some 16), none, (.bin .add (.t 15) (.c (.int .i64 1)))⟩, ⟨(some 4), none, (.mv (.t 16))⟩])))))) (.seq (.reg [⟨(some 53), none, (.mv (.t 3))⟩, ⟨(some 2), none, (.mv (.t 53))⟩]) .ret))))
def ro73 : List AOp := [(.mv (.t 2))]
theorem fun73 : Fun Try.prog 73 54 ac73 ro73 := ⟨Try.f73, _, Try.func73, by kernel_rfl, rfl, rfl, by kernel_rfl, by kernel_rfl, by decide⟩

def hB (D : List AV) (o n : List (List Int)) : List (Nat × Option Ab.Rows) := hQ (2 + o.length) (3 + o.length) n (hQ 1 2 o [(0, some [D])])
section
variable {D : List AV} {o n : List (List Int)}
theorem hB_0 : hg (hB D o n) 0 = some [D] := hQ_out (by omega) (by omega) (hQ_out (by omega) (by omega) hg_here)
theorem hB_1 : hg (hB D o n) 1 = some (nR hI 2 o o.length zI) := hQ_out (by omega) (by omega) hQ_q
theorem hB_i {i : Nat} (h : i < o.length) : hg (hB D o n) (2 + i) = some ((o.getD i default).map iRow) := hQ_out (by omega) (by omega) (hQ_in h (by omega))
theorem hB_Q : hg (hB D o n) (2 + o.length) = some (nR hI (3 + o.length) n n.length zI) := hQ_q
theorem hB_j {j : Nat} (h : j < n.length) : hg (hB D o n) (3 + o.length + j) = some ((n.getD j default).map iRow) := hQ_in h (by omega)
theorem hB_cs {r : Nat} {rows : Ab.Rows} (h : hg (hB D o n) r = some rows) : (r = 0 ∧ rows = [D]) ∨ (r = 1 ∧ rows = nR hI 2 o o.length zI) ∨ (∃ i, i < o.length ∧ r = 2 + i ∧ rows = (o.getD i default).map iRow) ∨ (r = 2 + o.length ∧ rows = nR hI (3 + o.length) n n.length zI) ∨ (∃ j, j < n.length ∧ r = 3 + o.length + j ∧ rows = (n.getD j default).map iRow) := by
  rcases hQ_cs h with ⟨rfl, rfl⟩ | ⟨_, j, hj, rfl, rfl⟩ | ⟨_, _, h2⟩
  · exact .inr (.inr (.inr (.inl ⟨rfl, rfl⟩)))
  · exact .inr (.inr (.inr (.inr ⟨j, hj, rfl, rfl⟩)))
  · rcases hQ_cs h2 with ⟨rfl, rfl⟩ | ⟨_, i, hi, rfl, rfl⟩ | ⟨_, _, h3⟩
    · exact .inr (.inl ⟨rfl, rfl⟩)
    · exact .inr (.inr (.inl ⟨i, hi, rfl, rfl⟩))
    · obtain ⟨rfl, rfl⟩ := hg_one h3
      exact .inl ⟨rfl, rfl⟩
theorem hB_wf {nr : Nat} (hD : ∀ x ∈ D, AV.ltr nr x = true) (h : 3 + o.length + n.length ≤ nr) : wfH (hB D o n) nr :=
  hQ_wf (by omega) h (hQ_wf (by omega) (by omega) (wfH_cons (by omega) (fun row hr x hx => by simp at hr; subst hr; exact hD x hx) wfH_nil))
/-- One list more. -/
theorem hB_up {x : List Int} {H : List (Nat × Option Ab.Rows)} {nr : Nat} {π : Nat → Nat} (hD : rnL π D = D) (hnr : nr = 3 + o.length + n.length)
    (p1 : π (2 + o.length) = nr + 1 + 1 + 1 + 1) (p2 : π nr = nr + 1 + 1) (p3 : ∀ r, r ≠ 2 + o.length → r ≠ nr → π r = r)
    (hQ' : hg H (nr + 1 + 1 + 1 + 1) = some (nR hI (3 + o.length) n n.length zI ++ [[.sl (nr + 1 + 1) 1 0 x.length]])) (hN : hg H (nr + 1 + 1) = some (x.map iRow)) (hold : ∀ r rows, r ≠ 2 + o.length → r < nr → hg (hB D o n) r = some rows → hg H r = some rows) :
    ∀ r rows, hg (hB D o (n ++ [x])) r = some rows → hg H (π r) = some (rows.map fun row => rnL π row) := by
  intro r rows hr
  rcases hB_cs hr with ⟨rfl, rfl⟩ | ⟨rfl, rfl⟩ | ⟨i, hi, rfl, rfl⟩ | ⟨rfl, rfl⟩ | ⟨j, hj, rfl, rfl⟩
  · rw [p3 0 (by omega) (by omega)]
    show _ = some [rnL π D]
    rw [hD]
    exact hold 0 _ (by omega) (by omega) hB_0
  · rw [p3 1 (by omega) (by omega), nI_rn (b' := 2) (fun j hj => p3 _ (by omega) (by omega))]
    exact hold 1 _ (by omega) (by omega) hB_1
  · rw [p3 _ (by omega) (by omega), ← rn_rows (rowsP _)]
    exact hold _ _ (by omega) (by omega) (hB_i hi)
  · rw [p1, nI_app, List.map_append, nI_rn (b' := 3 + o.length) (fun j hj => p3 _ (by omega) (by omega)), hQ']
    show _ = some (_ ++ [[AV.sl (π _) 1 0 _]])
    rw [← hnr, p2]
  · rw [← rn_rows (rowsP _)]
    rw [List.length_append] at hj
    have hj' : j < n.length + 1 := hj
    by_cases e : j = n.length
    · subst e
      rw [← hnr, p2, hN]
      simp [List.getD_eq_getElem?_getD]
    · rw [p3 _ (by omega) (by omega)]
      have e2 : (n ++ [x]).getD j default = n.getD j default := by simp [List.getD_eq_getElem?_getD, List.getElem?_append_left (show j < n.length by omega)]
      rw [e2]
      exact hold _ _ (by omega) (by omega) (hB_j (by omega))
end
theorem mci_get (l : List (List Nat)) (i : Nat) : (l.map ci).getD i default = ci (l.getD i []) := by
  by_cases h : i < l.length
  · simp [List.getD_eq_getElem?_getD, List.getElem?_map, List.getElem?_eq_getElem h]
  · simp only [List.getD_eq_getElem?_getD, List.getElem?_map, List.getElem?_eq_none (Nat.not_lt.1 h)]; rfl
def bI (m : Md) (k : Nat) : List (List Int) := (bL m.y.toNat k).map ci
theorem bI_len (m : Md) (k : Nat) : (bI m k).length = (bL m.y.toNat k).length := by simp [bI]
theorem con73 (c : Bool) (m : Md) (xs : List Ev) (hG : GoodM m xs) : ConG Try.prog 73 true [.agg (mdR c m xs)] (.sl 0 1 0 (bI m (m.p.toNat + 1)).length) (teL (bI m (m.p.toNat + 1))) := by
  refine con_of_wpG mixed fun73 (by simp) ((List.range ((bI m (m.p.toNat + 1)).length + 1)).map (· + 1)) nest_N ?_
  unfold ac73 ro73
  simp only [zipT]
  have hn4 := hG.2.2.2.1
  have hY := hG.1
  have hP := hG.2.2.1
  have e0 : ∀ n : Nat, 0 + ((n : Int)).toNat = n := fun n => by simp
  have hD : ∀ nr, ∀ x ∈ mdR c m xs, AV.ltr nr x = true := fun nr x hx => by
    simp [mdR] at hx
    rcases hx with rfl | rfl | rfl | rfl <;> rfl
  repeat (first
    | refine wC_a rfl ?_
    | refine q_s rfl ?_
    | refine q_b rfl ?_
    | refine wG_nil ?_
    | refine wG_g rfl ?_
    | refine wG_pure (o_len_vwm rfl) ?_
    | refine wG_pure (o_not_d rfl) ?_
    | refine wG_p rfl (by first | exact rfl | omega) ?_
    | refine wG_pure (o_str2 rfl rfl rfl) ?_
    | refine wG_pure (e_istr rfl rfl (by omega)) ?_
    | refine wG_pure (e_istr0 rfl rfl (by omega)) ?_
    | refine wG_pure (o_not rfl) ?_
    | refine wG_pure (e_ia_vw0 rfl rfl (by omega) rfl) ?_
    | refine wG_pure (e_ia_vwp rfl rfl (by omega) rfl) ?_
    | refine wG_pure (e_ia_vwm rfl rfl (by omega) (by omega) rfl) ?_
    | refine wG_pure (e_ia_vwi rfl rfl (by omega) rfl) ?_
    | refine wG_pure (e_ia_vwn rfl rfl (by omega) (by omega) rfl) ?_
    | refine wG_n rfl rfl ?_
    | refine wG_u rfl rfl ?_
    | refine wG_new (o_mks rfl rfl (by omega) (by decide)) ?_)
  have hwf : ∀ k, wfH (hQ 1 2 (bI m k) [(0, some [mdR c m xs])]) (2 + (bI m k).length) := fun k => hQ_wf (by omega) (Nat.le_refl _) (wfH_cons (by omega) (mdR_ltr1' _) wfH_nil)
  refine wC_loopX Nat (fun k => ⟨[(1, .pt 0 0 0), (3, .sl 1 1 0 (bI m k).length), (4, .int .i64 (k : Int))], hQ 1 2 (bI m k) [(0, some [mdR c m xs])], 2 + (bI m k).length⟩) (fun k => k ≤ m.p.toNat + 1) (fun k => m.p.toNat + 1 - k) 0 (Nat.zero_le _) ?_ ?_
  · refine .inr ⟨fun r => if r = 1 then 2 else if r = 2 then 1 else r, LeR_of ⟨⟨rfl, by simp [AV.ltr] <;> omega⟩, ⟨rfl, by simp [AV.ltr] <;> omega⟩, ⟨rfl, rfl⟩, trivial⟩ (fun q rows hq => ?_) (hwf 0) (fun q q' a1 a2 a3 => ?_)⟩
    · rcases hQ_cs hq with ⟨rfl, rfl⟩ | ⟨e1, j, hj, rfl, rfl⟩ | ⟨e1, e2, e3⟩
      · rfl
      · have hj1 : j < 1 := hj
        obtain rfl : j = 0 := by omega
        rfl
      · obtain ⟨rfl, rfl⟩ := hg_one e3
        rfl
    · split at a3 <;> split at a3 <;> (try split at a3) <;> (try split at a3) <;> omega
  intro k hk
  have h0 : hg (hQ 1 2 (bI m k) [(0, some [mdR c m xs])]) 0 = some [mdR c m xs] := hQ_out (by omega) (by omega) hg_here
  repeat (first | refine wG_pure (o_ldf_pt rfl h0 rfl rfl) ?_ | (first
    | refine wC_a rfl ?_
    | refine q_s rfl ?_
    | refine q_b rfl ?_
    | refine wG_nil ?_
    | refine wG_g rfl ?_
    | refine wG_pure (o_len_vwm rfl) ?_
    | refine wG_pure (o_not_d rfl) ?_
    | refine wG_p rfl (by first | exact rfl | omega) ?_
    | refine wG_pure (o_str2 rfl rfl rfl) ?_
    | refine wG_pure (e_istr rfl rfl (by omega)) ?_
    | refine wG_pure (e_istr0 rfl rfl (by omega)) ?_
    | refine wG_pure (o_not rfl) ?_
    | refine wG_pure (e_ia_vw0 rfl rfl (by omega) rfl) ?_
    | refine wG_pure (e_ia_vwp rfl rfl (by omega) rfl) ?_
    | refine wG_pure (e_ia_vwm rfl rfl (by omega) (by omega) rfl) ?_
    | refine wG_pure (e_ia_vwi rfl rfl (by omega) rfl) ?_
    | refine wG_pure (e_ia_vwn rfl rfl (by omega) (by omega) rfl) ?_
    | refine wG_n rfl rfl ?_
    | refine wG_u rfl rfl ?_
    | refine wG_new (o_mks rfl rfl (by omega) (by decide)) ?_))
  refine wC_cond_d rfl (fun h5 => ?_) (fun h5 => ?_)
  · have hk2 : k ≤ m.p.toNat := by omega
    have hgood := bL_good (Y := m.y.toNat) k
    have hbl := bL_len (Y := m.y.toNat) (by omega) (k := k) (by omega)
    have hbl1 := bL_len (Y := m.y.toNat) (by omega) (k := k + 1) (by omega)
    have hsucc : bL m.y.toNat (k + 1) = (bL m.y.toNat k).flatMap (eE m.y.toNat) := rfl
    have hbk : bI m k = (bL m.y.toNat k).map ci := rfl
    have hbk1 : bI m (k + 1) = (bL m.y.toNat (k + 1)).map ci := rfl
    rw [hsucc] at hbk1 hbl1
    generalize hout : bL m.y.toNat k = out at *
    generalize bI m k = o at *
    have hol : o.length = out.length := by rw [hbk]; simp
    repeat (first
    | refine wC_a rfl ?_
    | refine q_s rfl ?_
    | refine q_b rfl ?_
    | refine wG_nil ?_
    | refine wG_g rfl ?_
    | refine wG_pure (o_len_vwm rfl) ?_
    | refine wG_pure (o_not_d rfl) ?_
    | refine wG_p rfl (by first | exact rfl | omega) ?_
    | refine wG_pure (o_str2 rfl rfl rfl) ?_
    | refine wG_pure (e_istr rfl rfl (by omega)) ?_
    | refine wG_pure (e_istr0 rfl rfl (by omega)) ?_
    | refine wG_pure (o_not rfl) ?_
    | refine wG_pure (e_ia_vw0 rfl rfl (by omega) rfl) ?_
    | refine wG_pure (e_ia_vwp rfl rfl (by omega) rfl) ?_
    | refine wG_pure (e_ia_vwm rfl rfl (by omega) (by omega) rfl) ?_
    | refine wG_pure (e_ia_vwi rfl rfl (by omega) rfl) ?_
    | refine wG_pure (e_ia_vwn rfl rfl (by omega) (by omega) rfl) ?_
    | refine wG_n rfl rfl ?_
    | refine wG_u rfl rfl ?_
    | refine wG_new (o_mks rfl rfl (by omega) (by decide)) ?_)
    have hwB : ∀ n : List (List Int), wfH (hB (mdR c m xs) o n) (3 + o.length + n.length) := fun n => hB_wf (hD _) (Nat.le_refl _)
    refine wC_loopX Nat (fun i => ⟨[(1, .pt 0 0 0), (3, .sl 1 1 0 o.length), (4, .int .i64 (k : Int)), (5, .sl (2 + o.length) 1 0 ((nx m.y.toNat out i 0).map ci).length), (6, .int .i64 (i : Int))], hB (mdR c m xs) o ((nx m.y.toNat out i 0).map ci), 3 + o.length + ((nx m.y.toNat out i 0).map ci).length⟩) (fun i => i ≤ out.length) (fun i => out.length - i) 0 (Nat.zero_le _) ?_ ?_
    · refine .inl (Le_of ⟨⟨rfl, by simp [AV.ltr] <;> omega⟩, ⟨rfl, by simp [AV.ltr] <;> omega⟩, ⟨rfl, rfl⟩, ⟨by rw [nx_0]; rfl, by simp [AV.ltr] <;> omega⟩, ⟨rfl, rfl⟩, trivial⟩ (fun q rows hq => ?_) (hwB _))
      simp only at hq
      rw [nx_0] at hq
      exact hq
    intro i hi
    repeat (first
    | refine wC_a rfl ?_
    | refine q_s rfl ?_
    | refine q_b rfl ?_
    | refine wG_nil ?_
    | refine wG_g rfl ?_
    | refine wG_pure (o_len_vwm rfl) ?_
    | refine wG_pure (o_not_d rfl) ?_
    | refine wG_p rfl (by first | exact rfl | omega) ?_
    | refine wG_pure (o_str2 rfl rfl rfl) ?_
    | refine wG_pure (e_istr rfl rfl (by omega)) ?_
    | refine wG_pure (e_istr0 rfl rfl (by omega)) ?_
    | refine wG_pure (o_not rfl) ?_
    | refine wG_pure (e_ia_vw0 rfl rfl (by omega) rfl) ?_
    | refine wG_pure (e_ia_vwp rfl rfl (by omega) rfl) ?_
    | refine wG_pure (e_ia_vwm rfl rfl (by omega) (by omega) rfl) ?_
    | refine wG_pure (e_ia_vwi rfl rfl (by omega) rfl) ?_
    | refine wG_pure (e_ia_vwn rfl rfl (by omega) (by omega) rfl) ?_
    | refine wG_n rfl rfl ?_
    | refine wG_u rfl rfl ?_
    | refine wG_new (o_mks rfl rfl (by omega) (by decide)) ?_)
    refine wC_cond_d rfl (fun h6 => ?_) (fun h6 => ?_)
    · have hi2 : i < out.length := by omega
      have hbm : out.getD i [] ∈ out := by simp [List.getD_eq_getElem?_getD, List.getElem?_eq_getElem hi2]
      have gB := hgood _ hbm
      have hge := mci_get out i
      rw [← hbk] at hge
      have hrow : (nR hI 2 o o.length zI)[i]? = some [.sl (2 + i) 1 0 k] := by
        rw [hQ_row (by omega), hge, ci_len, gB.len]
      have hin : ∀ n, hg (hB (mdR c m xs) o n) (2 + i) = some ((ci (out.getD i [])).map iRow) := fun n => by rw [← hge]; exact hB_i (by omega)
      have hnle := fun c' (hc : c' ≤ m.y.toNat - fr (out.getD i [])) => nx_le (Y := m.y.toNat) hi2 hc
      have hni := nx_i (Y := m.y.toNat) hi2
      have hnc := fun c' (hc : c' < m.y.toNat - fr (out.getD i [])) => nx_c (Y := m.y.toNat) (out := out) (i := i) hc
      have hfr : 0 < k → ((ci (out.getD i [])).map iRow)[0 + ((k : Int) - 1).toNat]? = some (iRow ((fr (out.getD i []) : Nat) : Int)) := fun h => by
        have e1 : 0 + ((k : Int) - 1).toNat = k - 1 := by omega
        rw [e1, List.getElem?_map]
        have hl := gB.len
        have hlt : k - 1 < (ci (out.getD i [])).length := by rw [ci_len]; omega
        rw [List.getElem?_eq_getElem hlt]
        have := ci_get (out.getD i []) (k - 1)
        rw [List.getD_eq_getElem?_getD, List.getElem?_eq_getElem hlt] at this
        simp only [Option.map_some, Option.getD_some] at this ⊢
        rw [this, fr, hl]
      have hfr0 : k = 0 → fr (out.getD i []) = 0 := fun h => by
        have hl := gB.len
        rw [h] at hl
        rw [List.length_eq_zero_iff.1 hl]; rfl
      have hgl := gB.len
      generalize hb : out.getD i [] = b at *
      have hgo : (k = 0 ∧ decide ((k : Int) > 0) = false) ∨ (0 < k ∧ decide ((k : Int) > 0) = true) := by
        by_cases h : k = 0
        · exact .inl ⟨h, decide_eq_false (by omega)⟩
        · exact .inr ⟨by omega, decide_eq_true (by omega)⟩
      have cO := con98 true (ci b) (by rw [ci_len]; omega)
      rw [ci_len, hgl] at cO
      have hlb : k = (ci b).length := by rw [ci_len, hgl]
      rcases hgo with ⟨hk0, d0⟩ | ⟨hk0, d0⟩
      all_goals
        repeat (first
    | refine wC_a rfl ?_
    | refine q_s rfl ?_
    | refine q_b rfl ?_
    | refine wG_nil ?_
    | refine wG_g rfl ?_
    | refine wG_pure (o_len_vwm rfl) ?_
    | refine wG_pure (o_not_d rfl) ?_
    | refine wG_p rfl (by first | exact rfl | omega) ?_
    | refine wG_pure (o_str2 rfl rfl rfl) ?_
    | refine wG_pure (e_istr rfl rfl (by omega)) ?_
    | refine wG_pure (e_istr0 rfl rfl (by omega)) ?_
    | refine wG_pure (o_not rfl) ?_
    | refine wG_pure (e_ia_vw0 rfl rfl (by omega) rfl) ?_
    | refine wG_pure (e_ia_vwp rfl rfl (by omega) rfl) ?_
    | refine wG_pure (e_ia_vwm rfl rfl (by omega) (by omega) rfl) ?_
    | refine wG_pure (e_ia_vwi rfl rfl (by omega) rfl) ?_
    | refine wG_pure (e_ia_vwn rfl rfl (by omega) (by omega) rfl) ?_
    | refine wG_n rfl rfl ?_
    | refine wG_u rfl rfl ?_
    | refine wG_new (o_mks rfl rfl (by omega) (by decide)) ?_)
        simp only [d0]
        repeat (first | (refine wG_pure (e_ia_sl rfl rfl (by omega) (by omega)) ?_; simp only [e0]) | refine wG_pure (e_ia_sl rfl rfl (by omega) (by omega)) ?_ | refine wG_pure (o_ldf_pt rfl hB_1 hrow rfl) ?_ | refine wG_pure (o_ldf_pt rfl (hin _) (hfr hk0) rfl) ?_ | (first
    | refine wC_a rfl ?_
    | refine q_s rfl ?_
    | refine q_b rfl ?_
    | refine wG_nil ?_
    | refine wG_g rfl ?_
    | refine wG_pure (o_len_vwm rfl) ?_
    | refine wG_pure (o_not_d rfl) ?_
    | refine wG_p rfl (by first | exact rfl | omega) ?_
    | refine wG_pure (o_str2 rfl rfl rfl) ?_
    | refine wG_pure (e_istr rfl rfl (by omega)) ?_
    | refine wG_pure (e_istr0 rfl rfl (by omega)) ?_
    | refine wG_pure (o_not rfl) ?_
    | refine wG_pure (e_ia_vw0 rfl rfl (by omega) rfl) ?_
    | refine wG_pure (e_ia_vwp rfl rfl (by omega) rfl) ?_
    | refine wG_pure (e_ia_vwm rfl rfl (by omega) (by omega) rfl) ?_
    | refine wG_pure (e_ia_vwi rfl rfl (by omega) rfl) ?_
    | refine wG_pure (e_ia_vwn rfl rfl (by omega) (by omega) rfl) ?_
    | refine wG_n rfl rfl ?_
    | refine wG_u rfl rfl ?_
    | refine wG_new (o_mks rfl rfl (by omega) (by decide)) ?_))
        refine wC_loopX Nat (fun c' => ⟨[(1, .pt 0 0 0), (3, .sl 1 1 0 o.length), (4, .int .i64 (k : Int)), (5, .sl (2 + o.length) 1 0 ((nx m.y.toNat out i c').map ci).length), (6, .int .i64 (i : Int)), (8, .int .i64 ((fr b + c' : Nat) : Int))], hB (mdR c m xs) o ((nx m.y.toNat out i c').map ci), 3 + o.length + ((nx m.y.toNat out i c').map ci).length⟩) (fun c' => c' ≤ m.y.toNat - fr b) (fun c' => m.y.toNat - fr b - c') 0 (Nat.zero_le _) ?_ ?_
        · refine .inl (Le_of ⟨⟨rfl, by simp [AV.ltr] <;> omega⟩, ⟨rfl, by simp [AV.ltr] <;> omega⟩, ⟨rfl, rfl⟩, ⟨rfl, by simp [AV.ltr] <;> omega⟩, ⟨rfl, rfl⟩, ⟨?_, rfl⟩, trivial⟩ (fun q rows hq => hq) (hwB _))
          first | rfl | (rw [hfr0 hk0]; rfl)
        intro c' hc
        repeat (first | refine wG_pure (o_ldf_pt rfl hB_0 rfl rfl) ?_ | (first
    | refine wC_a rfl ?_
    | refine q_s rfl ?_
    | refine q_b rfl ?_
    | refine wG_nil ?_
    | refine wG_g rfl ?_
    | refine wG_pure (o_len_vwm rfl) ?_
    | refine wG_pure (o_not_d rfl) ?_
    | refine wG_p rfl (by first | exact rfl | omega) ?_
    | refine wG_pure (o_str2 rfl rfl rfl) ?_
    | refine wG_pure (e_istr rfl rfl (by omega)) ?_
    | refine wG_pure (e_istr0 rfl rfl (by omega)) ?_
    | refine wG_pure (o_not rfl) ?_
    | refine wG_pure (e_ia_vw0 rfl rfl (by omega) rfl) ?_
    | refine wG_pure (e_ia_vwp rfl rfl (by omega) rfl) ?_
    | refine wG_pure (e_ia_vwm rfl rfl (by omega) (by omega) rfl) ?_
    | refine wG_pure (e_ia_vwi rfl rfl (by omega) rfl) ?_
    | refine wG_pure (e_ia_vwn rfl rfl (by omega) (by omega) rfl) ?_
    | refine wG_n rfl rfl ?_
    | refine wG_u rfl rfl ?_
    | refine wG_new (o_mks rfl rfl (by omega) (by decide)) ?_))
        refine wC_cond_d rfl (fun h7 => ?_) (fun h7 => ?_)
        · have hc2 : c' < m.y.toNat - fr b := by omega
          have hup := hnc c' hc2
          have hle1 := hnle (c' + 1) hc2
          have hle0 := hnle c' hc
          have hnl : (List.map ci (nx m.y.toNat out i c')).length ≤ 8000 := by rw [List.length_map]; omega
          generalize hn : List.map ci (nx m.y.toNat out i c') = n at *
          have hn' : List.map ci (nx m.y.toNat out i (c' + 1)) = n ++ [ci (b ++ [fr b + c'])] := by rw [hup, List.map_append, hn]; rfl
          repeat (first | (refine wG_pure (e_ia_sl rfl rfl (by omega) (by omega)) ?_; simp only [e0]) | refine wG_pure (o_ldf_pt rfl hB_1 hrow rfl) ?_ | refine wG_call1 cO (ag_sl rfl (hin _) hlb iRow_plain ag_nil) rfl ?_ | refine wG_app rfl (hg_skip (by omega) hg_here) (by rw [List.length_map, ci_len, hgl]) (rows_sl rfl hg_here rfl) (by simp) (by rw [show ∀ a : List AV, [a].length = 1 from fun _ => rfl]; omega) (by decide) ?_ | refine wG_app rfl (hg_skip (by omega) (hg_skip (by omega) (hg_skip (by omega) (hg_skip (by omega) (hg_skip (by omega) hB_Q))))) (by rw [nR_len]) (rows_sl rfl hg_here rfl) (by simp) (by rw [show ∀ a : List AV, [a].length = 1 from fun _ => rfl]; omega) (by decide) ?_ | (first
    | refine wC_a rfl ?_
    | refine q_s rfl ?_
    | refine q_b rfl ?_
    | refine wG_nil ?_
    | refine wG_g rfl ?_
    | refine wG_pure (o_len_vwm rfl) ?_
    | refine wG_pure (o_not_d rfl) ?_
    | refine wG_p rfl (by first | exact rfl | omega) ?_
    | refine wG_pure (o_str2 rfl rfl rfl) ?_
    | refine wG_pure (e_istr rfl rfl (by omega)) ?_
    | refine wG_pure (e_istr0 rfl rfl (by omega)) ?_
    | refine wG_pure (o_not rfl) ?_
    | refine wG_pure (e_ia_vw0 rfl rfl (by omega) rfl) ?_
    | refine wG_pure (e_ia_vwp rfl rfl (by omega) rfl) ?_
    | refine wG_pure (e_ia_vwm rfl rfl (by omega) (by omega) rfl) ?_
    | refine wG_pure (e_ia_vwi rfl rfl (by omega) rfl) ?_
    | refine wG_pure (e_ia_vwn rfl rfl (by omega) (by omega) rfl) ?_
    | refine wG_n rfl rfl ?_
    | refine wG_u rfl rfl ?_
    | refine wG_new (o_mks rfl rfl (by omega) (by decide)) ?_))
          obtain ⟨π, p1, p2, p3⟩ : ∃ π : Nat → Nat, π (2 + o.length) = 3 + o.length + n.length + 1 + 1 + 1 + 1 ∧ π (3 + o.length + n.length) = 3 + o.length + n.length + 1 + 1 ∧ ∀ r, r ≠ 2 + o.length → r ≠ 3 + o.length + n.length → π r = r := by
            refine ⟨fun r => if r = 2 + o.length then 3 + o.length + n.length + 1 + 1 + 1 + 1 else if r = 3 + o.length + n.length then 3 + o.length + n.length + 1 + 1 else r, if_pos rfl, ?_, fun r h1 h2 => ?_⟩
            · show (if 3 + o.length + n.length = 2 + o.length then _ else if 3 + o.length + n.length = 3 + o.length + n.length then _ else _) = _
              rw [if_neg (by omega), if_pos rfl]
            · show (if r = 2 + o.length then _ else if r = 3 + o.length + n.length then _ else _) = _
              rw [if_neg h1, if_neg h2]
          refine ⟨c' + 1, by omega, by omega, .inr ⟨π, LeR_of ⟨⟨?_, by simp [AV.ltr] <;> omega⟩, ⟨?_, by simp [AV.ltr] <;> omega⟩, ⟨rfl, rfl⟩, ⟨?_, by simp [AV.ltr] <;> omega⟩, ⟨rfl, rfl⟩, ⟨rfl, rfl⟩, trivial⟩ (fun q rows hq => ?_) (hwB _) (fun q q' a1 a2 a3 => ?_)⟩⟩
          · show AV.pt 0 0 0 = AV.pt (π 0) 0 0
            rw [p3 0 (by omega) (by omega)]
          · show AV.sl 1 1 0 _ = AV.sl (π 1) 1 0 _
            rw [p3 1 (by omega) (by omega)]
          · show AV.sl _ 1 0 _ = AV.sl (π (2 + o.length)) 1 0 _
            rw [p1, hn', List.length_append]; rfl
          · simp only at hq
            rw [hn'] at hq
            refine hB_up (nr := 3 + o.length + n.length) rfl rfl p1 p2 p3 ?_ ?_ (fun r rows' g1 g2 g3 => ?_) q rows hq
            · refine (hg_skip (by omega) hg_here).trans ?_
              rw [ci_len, List.length_append, hgl]; rfl
            · refine (hg_skip (by omega) (hg_skip (by omega) (hg_skip (by omega) (hg_skip (by omega) hg_here)))).trans ?_
              rw [ci_app, List.map_append]; rfl
            · exact hg_skip g1 (hg_skip (by omega) (hg_skip (by omega) (hg_skip (by omega) (hg_skip (by omega) (hg_skip (by omega) (hg_skip (by omega) g3))))))
          · have b1 : q < 3 + o.length + (List.map ci (nx m.y.toNat out i (c' + 1))).length := a1
            have b2 : q' < 3 + o.length + (List.map ci (nx m.y.toNat out i (c' + 1))).length := a2
            rw [hn', List.length_append] at b1 b2
            have b3 : q < 3 + o.length + (n.length + 1) := b1
            have b4 : q' < 3 + o.length + (n.length + 1) := b2
            have hcs : ∀ r, (r = 2 + o.length ∧ π r = 3 + o.length + n.length + 1 + 1 + 1 + 1) ∨ (r = 3 + o.length + n.length ∧ π r = 3 + o.length + n.length + 1 + 1) ∨ (r ≠ 2 + o.length ∧ r ≠ 3 + o.length + n.length ∧ π r = r) := fun r => by
              by_cases g1 : r = 2 + o.length
              · exact .inl ⟨g1, by rw [g1, p1]⟩
              · by_cases g2 : r = 3 + o.length + n.length
                · exact .inr (.inl ⟨g2, by rw [g2, p2]⟩)
                · exact .inr (.inr ⟨g1, g2, p3 r g1 g2⟩)
            have k1 := hcs q
            have k2 := hcs q'
            omega
        · have hc3 : c' = m.y.toNat - fr b := by omega
          subst hc3
          repeat (first
    | refine wC_a rfl ?_
    | refine q_s rfl ?_
    | refine q_b rfl ?_
    | refine wG_nil ?_
    | refine wG_g rfl ?_
    | refine wG_pure (o_len_vwm rfl) ?_
    | refine wG_pure (o_not_d rfl) ?_
    | refine wG_p rfl (by first | exact rfl | omega) ?_
    | refine wG_pure (o_str2 rfl rfl rfl) ?_
    | refine wG_pure (e_istr rfl rfl (by omega)) ?_
    | refine wG_pure (e_istr0 rfl rfl (by omega)) ?_
    | refine wG_pure (o_not rfl) ?_
    | refine wG_pure (e_ia_vw0 rfl rfl (by omega) rfl) ?_
    | refine wG_pure (e_ia_vwp rfl rfl (by omega) rfl) ?_
    | refine wG_pure (e_ia_vwm rfl rfl (by omega) (by omega) rfl) ?_
    | refine wG_pure (e_ia_vwi rfl rfl (by omega) rfl) ?_
    | refine wG_pure (e_ia_vwn rfl rfl (by omega) (by omega) rfl) ?_
    | refine wG_n rfl rfl ?_
    | refine wG_u rfl rfl ?_
    | refine wG_new (o_mks rfl rfl (by omega) (by decide)) ?_)
          refine ⟨i + 1, by omega, by omega, .inl (Le_of ⟨⟨rfl, by simp [AV.ltr] <;> omega⟩, ⟨rfl, by simp [AV.ltr] <;> omega⟩, ⟨rfl, rfl⟩, ⟨by rw [hni]; rfl, by simp [AV.ltr] <;> omega⟩, ⟨rfl, rfl⟩, trivial⟩ (fun q rows hq => ?_) (hwB _))⟩
          rw [hni] at hq
          exact hq
    · have hi3 : i = out.length := by omega
      subst hi3
      rw [nx_end, ← hbk1]
      repeat (first
    | refine wC_a rfl ?_
    | refine q_s rfl ?_
    | refine q_b rfl ?_
    | refine wG_nil ?_
    | refine wG_g rfl ?_
    | refine wG_pure (o_len_vwm rfl) ?_
    | refine wG_pure (o_not_d rfl) ?_
    | refine wG_p rfl (by first | exact rfl | omega) ?_
    | refine wG_pure (o_str2 rfl rfl rfl) ?_
    | refine wG_pure (e_istr rfl rfl (by omega)) ?_
    | refine wG_pure (e_istr0 rfl rfl (by omega)) ?_
    | refine wG_pure (o_not rfl) ?_
    | refine wG_pure (e_ia_vw0 rfl rfl (by omega) rfl) ?_
    | refine wG_pure (e_ia_vwp rfl rfl (by omega) rfl) ?_
    | refine wG_pure (e_ia_vwm rfl rfl (by omega) (by omega) rfl) ?_
    | refine wG_pure (e_ia_vwi rfl rfl (by omega) rfl) ?_
    | refine wG_pure (e_ia_vwn rfl rfl (by omega) (by omega) rfl) ?_
    | refine wG_n rfl rfl ?_
    | refine wG_u rfl rfl ?_
    | refine wG_new (o_mks rfl rfl (by omega) (by decide)) ?_)
      refine ⟨k + 1, by omega, by omega, .inr ⟨fun r => if r = 0 then 0 else r - 1 + (2 + o.length), LeR_of ⟨⟨rfl, by simp [AV.ltr] <;> omega⟩, ⟨by show AV.sl _ 1 0 _ = AV.sl _ 1 0 _; congr 1; simp, by simp [AV.ltr] <;> omega⟩, ⟨rfl, rfl⟩, trivial⟩ (fun q rows hq => ?_) (hwf (k + 1)) (fun q q' a1 a2 a3 => ?_)⟩⟩
      · rcases hQ_cs hq with ⟨rfl, rfl⟩ | ⟨e1, j, hj, rfl, rfl⟩ | ⟨e1, e2, e3⟩
        · rw [nI_rn (π := fun r => if r = 0 then 0 else r - 1 + (2 + o.length)) (L := bI m (k + 1)) (b := 2) (b' := 3 + o.length) (fun j hj => by show (if 2 + j = 0 then 0 else 2 + j - 1 + (2 + o.length)) = _; rw [if_neg (by omega)]; omega)]
          show hg _ (if 1 = 0 then 0 else 1 - 1 + (2 + o.length)) = _
          rw [if_neg (by omega), show 1 - 1 + (2 + o.length) = 2 + o.length by omega]
          exact hB_Q
        · rw [← rn_rows (rowsP _)]
          show hg _ (if 2 + j = 0 then 0 else 2 + j - 1 + (2 + o.length)) = _
          rw [if_neg (by omega), show 2 + j - 1 + (2 + o.length) = 3 + o.length + j by omega]
          exact hB_j hj
        · obtain ⟨rfl, rfl⟩ := hg_one e3
          exact hB_0
      · split at a3 <;> split at a3 <;> omega
  · have hk3 : k = m.p.toNat + 1 := by omega
    subst hk3
    repeat (first
    | refine wC_a rfl ?_
    | refine q_s rfl ?_
    | refine q_b rfl ?_
    | refine wG_nil ?_
    | refine wG_g rfl ?_
    | refine wG_pure (o_len_vwm rfl) ?_
    | refine wG_pure (o_not_d rfl) ?_
    | refine wG_p rfl (by first | exact rfl | omega) ?_
    | refine wG_pure (o_str2 rfl rfl rfl) ?_
    | refine wG_pure (e_istr rfl rfl (by omega)) ?_
    | refine wG_pure (e_istr0 rfl rfl (by omega)) ?_
    | refine wG_pure (o_not rfl) ?_
    | refine wG_pure (e_ia_vw0 rfl rfl (by omega) rfl) ?_
    | refine wG_pure (e_ia_vwp rfl rfl (by omega) rfl) ?_
    | refine wG_pure (e_ia_vwm rfl rfl (by omega) (by omega) rfl) ?_
    | refine wG_pure (e_ia_vwi rfl rfl (by omega) rfl) ?_
    | refine wG_pure (e_ia_vwn rfl rfl (by omega) (by omega) rfl) ?_
    | refine wG_n rfl rfl ?_
    | refine wG_u rfl rfl ?_
    | refine wG_new (o_mks rfl rfl (by omega) (by decide)) ?_)
    exact retG_L (.inr rfl) (retV_mv rfl)
end Go.Proofs.Ytnohaclnpbpjbaa.Dst
