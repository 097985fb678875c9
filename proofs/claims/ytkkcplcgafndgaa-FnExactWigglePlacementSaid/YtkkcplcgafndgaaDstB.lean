/- Distributions: size, copy, comparison, marks. -/
import Derived.Test.YtkkcplcgafndgaaDstA
import Derived.Test.YtkkcplcgafndgaaAb1
namespace Go.Proofs.Ytkkcplcgafndgaa.Dst
open Go Go.Proofs.Ytkkcplcgafndgaa.Ab Go.Proofs.Ytkkcplcgafndgaa.Il
attribute [local irreducible] wpO wpC wpDr wpQ wpG wpE stepA seqQ blkQ Ret ev
set_option maxRecDepth 10000
set_option maxHeartbeats 4000000
set_option linter.unusedSimpArgs false
set_option linter.unusedVariables false

def ac9 : AC := (.seq (.reg [⟨(some 2), none, (.box 2 true (.t 0))⟩, ⟨(some 3), none, (.box 2 true (.t 1))⟩, ⟨(some 4), none, (.mv (.c (.bool false)))⟩]) (.seq (.seq (.reg [⟨(some 5), none, (.fa 0 (.t 2))⟩, ⟨(some 6), none, (.ld false 1 (.t 5))⟩, ⟨(some 7), none, (.fa 0 (.t 3))⟩, ⟨(some 8), none, (.ld false 1 (.t 7))⟩, ⟨(some 9), none, (.bin .neq (.t 6) (.t 8))⟩]) (.cond (.t 9) (.seq (.reg [⟨(some 4), none, (.mv (.c (.bool false)))⟩]) .ret) .skip)) (.seq (.seq (.reg [⟨(some 10), none, (.fa 1 (.t 2))⟩, ⟨(some 11), none, (.ld false 1 (.t 10))⟩, ⟨(some 12), none, (.fa 1 (.t 3))⟩, ⟨(some 13), none, (.ld false 1 (.t 12))⟩, ⟨(some 14), none, (.call 10 [(.t 11), (.t 13)])⟩, ⟨(some 15), none, (.un .not (.t 14))⟩]) (.cond (.t 15) (.seq (.reg [⟨(some 4), none, (.mv (.c (.bool false)))⟩]) .ret) .skip)) (.seq (.reg [⟨(some 4), none, (.mv (.c (.bool true)))⟩]) .ret))))
def ro9 : List AOp := [(.mv (.t 4))]
theorem fun9 : Fun Try.prog 9 16 ac9 ro9 := ⟨Try.f9, _, Try.func9, by kernel_rfl, rfl, rfl, by kernel_rfl, by kernel_rfl, by decide⟩
def ac12 : AC := (.seq (.reg [⟨(some 2), none, (.box 2 true (.t 0))⟩, ⟨(some 4), none, (.mv (.c (.int .i64 0)))⟩]) (.seq (.reg [⟨(some 5), none, (.fa 1 (.t 2))⟩, ⟨(some 6), none, (.ld false 1 (.t 5))⟩, ⟨(some 7), none, (.mv (.t 1))⟩, ⟨(some 8), none, (.call 11 [(.t 6), (.t 7)])⟩, ⟨(some 1), none, (.mv (.t 8))⟩]) (.seq (.reg [⟨(some 9), none, (.mv (.t 1))⟩, ⟨(some 4), none, (.mv (.t 9))⟩]) .ret)))
def ro12 : List AOp := [(.mv (.t 4))]
theorem fun12 : Fun Try.prog 12 10 ac12 ro12 := ⟨Try.f12, _, Try.func12, by kernel_rfl, rfl, rfl, by kernel_rfl, by kernel_rfl, by decide⟩
def ac13 : AC := (.seq (.reg [⟨(some 2), none, (.box 2 true (.t 0))⟩, ⟨(some 4), none, (.mv (.c (.int .i64 0)))⟩]) (.seq (.reg [⟨(some 5), none, (.fa 1 (.t 2))⟩, ⟨(some 6), none, (.ld false 1 (.t 5))⟩, ⟨(some 7), none, (.mv (.t 1))⟩, ⟨(some 8), none, (.call 34 [(.t 6), (.t 7)])⟩, ⟨(some 1), none, (.mv (.t 8))⟩]) (.seq (.seq (.reg [⟨(some 9), none, (.mv (.t 1))⟩, ⟨(some 10), none, (.bin .lss (.t 9) (.c (.int .i64 0)))⟩]) (.cond (.t 10) (.seq (.reg [⟨(some 4), none, (.mv (.c (.int .i64 (-1))))⟩]) .ret) .skip)) (.seq (.reg [⟨(some 11), none, (.mv (.t 1))⟩, ⟨(some 4), none, (.mv (.t 11))⟩]) .ret))))
def ro13 : List AOp := [(.mv (.t 4))]
theorem fun13 : Fun Try.prog 13 12 ac13 ro13 := ⟨Try.f13, _, Try.func13, by kernel_rfl, rfl, rfl, by kernel_rfl, by kernel_rfl, by decide⟩

theorem con9 (nn mm : Bool) (d e : Ds) (h1 : d.ws.length ≤ 1048576) (h2 : e.ws.length ≤ 1048576) : Con Try.prog 9 true [.agg (dRow nn d), .agg (dRow mm e)] (.bool (decide (d.f = e.f ∧ d.ws = e.ws))) [] := by
  obtain ⟨f, ws⟩ := d
  obtain ⟨g, vs⟩ := e
  simp only at h1 h2
  refine con_of_wp mixed fun9 (by simp) [] plain_nil ?_
  unfold ac9 ro9 dRow
  simp only [zipT]
  repeat' (first | refine wG_call (con10 nn mm ws vs h1 h2) rfl rfl ?_ | (first
    | refine wC_a rfl ?_
    | refine q_s rfl ?_
    | refine q_b rfl ?_
    | refine wG_nil ?_
    | refine wG_g rfl ?_
    | refine wG_pure (o_len_vwm rfl) ?_
    | refine wG_pure (o_not_d rfl) ?_
    | refine wG_p rfl (by first | exact rfl | omega) ?_
    | refine wG_pure (o_not rfl) ?_
    | refine wG_pure (e_ia_vw0 rfl rfl (by omega) rfl) ?_
    | refine wG_pure (e_ia_vwp rfl rfl (by omega) rfl) ?_
    | refine wG_pure (e_ia_vwm rfl rfl (by omega) (by omega) rfl) ?_
    | refine wG_pure (e_ia_vwi rfl rfl (by omega) rfl) ?_
    | refine wG_pure (e_ia_vwn rfl rfl (by omega) (by omega) rfl) ?_
    | refine wG_n rfl rfl ?_
    | refine wG_u rfl rfl ?_
    | refine wG_new (o_mks rfl rfl (by omega) (by decide)) ?_) | (refine wG_gd rfl (fun hgt => ?_) (fun hgf => ?_) <;> (first | simp only [eq_true hgt, decide_true] | simp only [eq_false hgf, decide_false])) | refine wC_cond_d rfl (fun hg => ?_) (fun hg => ?_))
  all_goals (refine ret_boolE (.inr rfl) ⟨_, retV_mv rfl, ?_⟩)
  · exact Eq.symm (decide_eq_false fun h => ‹f ≠ g› h.1)
  · exact Eq.symm (decide_eq_false fun h => ‹¬ ws = vs› h.2)
  · exact Eq.symm (decide_eq_true ⟨Decidable.not_not.1 ‹¬ f ≠ g›, Decidable.not_not.1 ‹¬ ¬ ws = vs›⟩)
theorem con9_same (nn mm : Bool) (d : Ds) (h1 : d.ws.length ≤ 1048576) : Con Try.prog 9 true [.agg (dRow nn d), .agg (dRow mm d)] (.bool true) [] := by
  have := con9 nn mm d d h1 h1
  rwa [decide_eq_true ⟨rfl, rfl⟩] at this
theorem sh12 (d : Ds) (k : Int) (hn : d.ws.length ≤ 1048576) (h0 : 0 ≤ k) (h1 : k ≤ 4294967296) {h : List (Nat × Option Ab.Rows)} {nr r : Nat} (hr : hg h r = some (d.ws.map iRow)) (hw : wfH h nr) :
    Sh Try.prog 12 [.agg [.int .i64 d.f, .sl r 1 0 d.ws.length], .int .i64 k] h nr (.int .i64 (k + d.ws.length)) ((r, some ((mks k d.ws.length).map iRow)) :: h) nr := by
  obtain ⟨f, ws⟩ := d
  simp only at hn hr
  have hrn := (hw r _ hr).1
  refine sh_of_wp mixed fun12 (by simp) ?_
  unfold ac12 ro12
  simp only [zipT]
  have hr2 : hg ((nr, some [[AV.int .i64 f, .sl r 1 0 ws.length]]) :: h) r = some (ws.map iRow) := by
    simp only [Ab.hg, upd]
    rw [if_neg (by omega)]
    exact hr
  have hw2 : wfH ((nr, some [[AV.int .i64 f, .sl r 1 0 ws.length]]) :: h) (nr + 1) :=
    wfH_cons (by omega) (by simp [AV.ltr]; omega) (wfH_le hw (Nat.le_succ _))
  have hb : hg ((nr, some [[AV.int .i64 f, .sl r 1 0 ws.length]]) :: h) nr = some [[AV.int .i64 f, .sl r 1 0 ws.length]] := by simp [Ab.hg, upd]
  repeat (first | refine wG_callS (sh11 ws k (by omega) h0 h1 hr2 hw2) rfl ?_ | refine wG_pure (o_ldf_pt rfl hb rfl rfl) ?_ | (first
    | refine wC_a rfl ?_
    | refine q_s rfl ?_
    | refine q_b rfl ?_
    | refine wG_nil ?_
    | refine wG_g rfl ?_
    | refine wG_pure (o_len_vwm rfl) ?_
    | refine wG_pure (o_not_d rfl) ?_
    | refine wG_p rfl (by first | exact rfl | omega) ?_
    | refine wG_pure (o_not rfl) ?_
    | refine wG_pure (e_ia_vw0 rfl rfl (by omega) rfl) ?_
    | refine wG_pure (e_ia_vwp rfl rfl (by omega) rfl) ?_
    | refine wG_pure (e_ia_vwm rfl rfl (by omega) (by omega) rfl) ?_
    | refine wG_pure (e_ia_vwi rfl rfl (by omega) rfl) ?_
    | refine wG_pure (e_ia_vwn rfl rfl (by omega) (by omega) rfl) ?_
    | refine wG_n rfl rfl ?_
    | refine wG_u rfl rfl ?_
    | refine wG_new (o_mks rfl rfl (by omega) (by decide)) ?_))
  refine ⟨trivial, _, retVs_1 (retV_mv rfl), ?_, Nat.le_refl _⟩
  refine Le_of ⟨⟨rfl, rfl⟩, trivial⟩ (fun q rows hq => ?_) (wfH_cons hrn (ltrI _ _) hw)
  simp only [Ab.hg, upd] at hq ⊢
  split at hq
  · rename_i e; rw [if_pos e]; exact hq
  · rename_i e
    have := (hw q rows hq).1
    rw [if_neg e, if_neg (by omega)]
    exact hq
theorem con13 (nn : Bool) (f : Int) (n : Nat) (k : Int) (hn : n ≤ 1048576) (h0 : 0 ≤ k) (h1 : k ≤ 4294967296) : Con Try.prog 13 true [.agg [.int .i64 f, .vw nn ((mks k n).map iRow)], .int .i64 k] (.int .i64 (k + n)) [] := by
  refine con_of_wp mixed fun13 (by simp) [] plain_nil ?_
  unfold ac13 ro13
  simp only [zipT]
  repeat (first | refine wG_call (con34 nn n k (by omega) h0 h1) rfl rfl ?_ | (first
    | refine wC_a rfl ?_
    | refine q_s rfl ?_
    | refine q_b rfl ?_
    | refine wG_nil ?_
    | refine wG_g rfl ?_
    | refine wG_pure (o_len_vwm rfl) ?_
    | refine wG_pure (o_not_d rfl) ?_
    | refine wG_p rfl (by first | exact rfl | omega) ?_
    | refine wG_pure (o_not rfl) ?_
    | refine wG_pure (e_ia_vw0 rfl rfl (by omega) rfl) ?_
    | refine wG_pure (e_ia_vwp rfl rfl (by omega) rfl) ?_
    | refine wG_pure (e_ia_vwm rfl rfl (by omega) (by omega) rfl) ?_
    | refine wG_pure (e_ia_vwi rfl rfl (by omega) rfl) ?_
    | refine wG_pure (e_ia_vwn rfl rfl (by omega) (by omega) rfl) ?_
    | refine wG_n rfl rfl ?_
    | refine wG_u rfl rfl ?_
    | refine wG_new (o_mks rfl rfl (by omega) (by decide)) ?_))
  refine wC_cond_d rfl (fun h => ?_) (fun h => ?_)
  · omega
  repeat (first
    | refine wC_a rfl ?_
    | refine q_s rfl ?_
    | refine q_b rfl ?_
    | refine wG_nil ?_
    | refine wG_g rfl ?_
    | refine wG_pure (o_len_vwm rfl) ?_
    | refine wG_pure (o_not_d rfl) ?_
    | refine wG_p rfl (by first | exact rfl | omega) ?_
    | refine wG_pure (o_not rfl) ?_
    | refine wG_pure (e_ia_vw0 rfl rfl (by omega) rfl) ?_
    | refine wG_pure (e_ia_vwp rfl rfl (by omega) rfl) ?_
    | refine wG_pure (e_ia_vwm rfl rfl (by omega) (by omega) rfl) ?_
    | refine wG_pure (e_ia_vwi rfl rfl (by omega) rfl) ?_
    | refine wG_pure (e_ia_vwn rfl rfl (by omega) (by omega) rfl) ?_
    | refine wG_n rfl rfl ?_
    | refine wG_u rfl rfl ?_
    | refine wG_new (o_mks rfl rfl (by omega) (by decide)) ?_)
  exact ret_intE (.inr rfl) ⟨_, retV_mv rfl, rfl⟩
end Go.Proofs.Ytkkcplcgafndgaa.Dst
