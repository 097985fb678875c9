/- Distributions: size, copy, comparison, marks. -/
import Derived.Test.YtnohaclnpbpjbaaDstA
import Derived.Test.YtnohaclnpbpjbaaAb1
namespace Go.Proofs.Ytnohaclnpbpjbaa.Dst
open Go Go.Proofs.Ytnohaclnpbpjbaa.Ab Go.Proofs.Ytnohaclnpbpjbaa.Il
attribute [local irreducible] wpO wpC wpDr wpQ wpG wpE stepA seqQ blkQ Ret ev
set_option maxRecDepth 10000
set_option maxHeartbeats 4000000
set_option linter.unusedSimpArgs false
set_option linter.unusedVariables false

def ac20 : AC := (.seq (.reg [⟨(some 2), none, (.box 2 true (.t 0))⟩, ⟨(some 3), none, (.box 2 true (.t 1))⟩, ⟨(some 4), none, (.mv (.c (.bool false)))⟩]) (.seq (.seq (.reg [⟨(some 5), none, (.fa 0 (.t 2))⟩, ⟨(some 6), none, (.ld false 1 (.t 5))⟩, ⟨(some 7), none, (.fa 0 (.t 3))⟩, ⟨(some 8), none, (.ld false 1 (.t 7))⟩, ⟨(some 9), none, (.bin .neq (.t 6) (.t 8))⟩]) (.cond (.t 9) (.seq (.reg [⟨(some 4), none, (.mv (.c (.bool false)))⟩]) .ret) .skip)) (.seq (.seq (.reg [⟨(some 10), none, (.fa 1 (.t 2))⟩, ⟨(some 11), none, (.ld false 1 (.t 10))⟩, ⟨(some 12), none, (.fa 1 (.t 3))⟩, ⟨(some 13), none, (.ld false 1 (.t 12))⟩, ⟨(some 14), none, (.call 57 [(.t 11), (.t 13)])⟩, ⟨(some 15), none, (.un .not (.t 14))⟩]) (.cond (.t 15) (.seq (.reg [⟨(some 4), none, (.mv (.c (.bool false)))⟩]) .ret) .skip)) (.seq (.reg [⟨(some 4), none, (.mv (.c (.bool true)))⟩]) .ret))))
def ro20 : List AOp := [(.mv (.t 4))]
theorem fun20 : Fun Try.prog 20 16 ac20 ro20 := ⟨Try.f20, _, Try.func20, by kernel_rfl, rfl, rfl, by kernel_rfl, by kernel_rfl, by decide⟩
def ac23 : AC := (.seq (.reg [⟨(some 2), none, (.box 2 true (.t 0))⟩, ⟨(some 4), none, (.mv (.c (.int .i64 0)))⟩]) (.seq (.reg [⟨(some 5), none, (.fa 1 (.t 2))⟩, ⟨(some 6), none, (.ld false 1 (.t 5))⟩, ⟨(some 7), none, (.mv (.t 1))⟩, ⟨(some 8), none, (.call 58 [(.t 6), (.t 7)])⟩, ⟨(some 1), none, (.mv (.t 8))⟩]) (.seq (.reg [⟨(some 9), none, (.mv (.t 1))⟩, ⟨(some 4), none, (.mv (.t 9))⟩]) .ret)))
def ro23 : List AOp := [(.mv (.t 4))]
theorem fun23 : Fun Try.prog 23 10 ac23 ro23 := ⟨Try.f23, _, Try.func23, by kernel_rfl, rfl, rfl, by kernel_rfl, by kernel_rfl, by decide⟩
def ac24 : AC := (.seq (.reg [⟨(some 2), none, (.box 2 true (.t 0))⟩, ⟨(some 4), none, (.mv (.c (.int .i64 0)))⟩]) (.seq (.reg [⟨(some 5), none, (.fa 1 (.t 2))⟩, ⟨(some 6), none, (.ld false 1 (.t 5))⟩, ⟨(some 7), none, (.mv (.t 1))⟩, ⟨(some 8), none, (.call 59 [(.t 6), (.t 7)])⟩, ⟨(some 1), none, (.mv (.t 8))⟩]) (.seq (.seq (.reg [⟨(some 9), none, (.mv (.t 1))⟩, ⟨(some 10), none, (.bin .lss (.t 9) (.c (.int .i64 0)))⟩]) (.cond (.t 10) (.seq (.reg [⟨(some 4), none, (.mv (.c (.int .i64 (-1))))⟩]) .ret) .skip)) (.seq (.reg [⟨(some 11), none, (.mv (.t 1))⟩, ⟨(some 4), none, (.mv (.t 11))⟩]) .ret))))
def ro24 : List AOp := [(.mv (.t 4))]
theorem fun24 : Fun Try.prog 24 12 ac24 ro24 := ⟨Try.f24, _, Try.func24, by kernel_rfl, rfl, rfl, by kernel_rfl, by kernel_rfl, by decide⟩
def ac46 : AC := (.seq (.reg [⟨(some 2), none, (.box 2 true (.t 0))⟩, ⟨(some 4), none, (.mv (.c (.int .i64 0)))⟩]) (.seq (.reg [⟨(some 5), none, (.fa 1 (.t 2))⟩, ⟨(some 6), none, (.ld false 1 (.t 5))⟩, ⟨(some 7), none, (.mv (.t 1))⟩, ⟨(some 8), none, (.call 87 [(.t 6), (.t 7)])⟩, ⟨(some 1), none, (.mv (.t 8))⟩]) (.seq (.seq (.reg [⟨(some 9), none, (.mv (.t 1))⟩, ⟨(some 10), none, (.bin .lss (.t 9) (.c (.int .i64 0)))⟩]) (.cond (.t 10) (.seq (.reg [⟨(some 4), none, (.mv (.c (.int .i64 (-1))))⟩]) .ret) .skip)) (.seq (.reg [⟨(some 11), none, (.mv (.t 1))⟩, ⟨(some 4), none, (.mv (.t 11))⟩]) .ret))))
def ro46 : List AOp := [(.mv (.t 4))]
theorem fun46 : Fun Try.prog 46 12 ac46 ro46 := ⟨Try.f46, _, Try.func46, by kernel_rfl, rfl, rfl, by kernel_rfl, by kernel_rfl, by decide⟩
def ac54 : AC := (.seq (.reg [⟨(some 1), none, (.box 2 true (.t 0))⟩, ⟨(some 2), none, (.alloc [(.int .i64 0), .nilS])⟩]) (.seq (.reg [⟨(some 3), none, (.alloc [(.int .i64 0), .nilS])⟩]) (.seq (.reg [⟨(some 4), none, (.fa 0 (.t 1))⟩, ⟨(some 5), none, (.ld false 1 (.t 4))⟩, ⟨(some 6), none, (.fa 0 (.t 3))⟩, ⟨none, none, (.st 1 (.t 6) (.t 5))⟩]) (.seq (.reg [⟨(some 7), none, (.fa 1 (.t 1))⟩, ⟨(some 8), none, (.ld false 1 (.t 7))⟩, ⟨(some 9), none, (.call 90 [(.t 8)])⟩, ⟨(some 10), none, (.fa 1 (.t 3))⟩, ⟨none, none, (.st 1 (.t 10) (.t 9))⟩]) (.seq (.reg [⟨(some 11), none, (.ld true 2 (.t 3))⟩, ⟨none, none, (.st 2 (.t 2) (.t 11))⟩]) .ret)))))
def ro54 : List AOp := [(.ld true 2 (.t 2))]
theorem fun54 : Fun Try.prog 54 12 ac54 ro54 := ⟨Try.f54, _, Try.func54, by kernel_rfl, rfl, rfl, by kernel_rfl, by kernel_rfl, by decide⟩

theorem con46 (nn : Bool) (d : Ds) (hlen : d.ws.length ≤ 9223372036854775807) (left : Int) (h0 : 0 ≤ left) (h1 : left ≤ 1048576) : Con Try.prog 46 true [.agg (dRow nn d), .int .i64 left] (.int .i64 (if (d.ws.length : Int) ≤ left then left - (d.ws.length : Int) else -1)) [] := by
  obtain ⟨f, ws⟩ := d
  simp only at hlen
  refine con_of_wp mixed fun46 (by simp) [] plain_nil ?_
  unfold ac46 ro46 dRow
  simp only [zipT]
  have c := con87 nn ws hlen left h0 h1
  by_cases hs : (ws.length : Int) ≤ left
  · rw [if_pos hs] at c ⊢
    repeat (first | refine wG_call c rfl rfl ?_ | (first
    | refine wC_a rfl ?_
    | refine q_s rfl ?_
    | refine q_b rfl ?_
    | refine wG_nil ?_
    | refine wG_g rfl ?_
    | refine wG_pure (o_len_vwm rfl) ?_
    | refine wG_pure (o_not_d rfl) ?_
    | refine wG_p rfl (by first | exact rfl | omega) ?_
    | refine wG_pure (o_not rfl) ?_
    | refine wG_pure (e_ia_vw0 rfl rfl (by omega) rfl) ?_
    | refine wG_pure (e_ia_vwp rfl rfl (by omega) rfl) ?_
    | refine wG_pure (e_ia_vwm rfl rfl (by omega) (by omega) rfl) ?_
    | refine wG_pure (e_ia_vwi rfl rfl (by omega) rfl) ?_
    | refine wG_pure (e_ia_vwn rfl rfl (by omega) (by omega) rfl) ?_
    | refine wG_n rfl rfl ?_
    | refine wG_u rfl rfl ?_
    | refine wG_new (o_mks rfl rfl (by omega) (by decide)) ?_))
    refine wC_cond_d rfl (fun h => ?_) (fun h => ?_)
    · omega
    repeat (first
    | refine wC_a rfl ?_
    | refine q_s rfl ?_
    | refine q_b rfl ?_
    | refine wG_nil ?_
    | refine wG_g rfl ?_
    | refine wG_pure (o_len_vwm rfl) ?_
    | refine wG_pure (o_not_d rfl) ?_
    | refine wG_p rfl (by first | exact rfl | omega) ?_
    | refine wG_pure (o_not rfl) ?_
    | refine wG_pure (e_ia_vw0 rfl rfl (by omega) rfl) ?_
    | refine wG_pure (e_ia_vwp rfl rfl (by omega) rfl) ?_
    | refine wG_pure (e_ia_vwm rfl rfl (by omega) (by omega) rfl) ?_
    | refine wG_pure (e_ia_vwi rfl rfl (by omega) rfl) ?_
    | refine wG_pure (e_ia_vwn rfl rfl (by omega) (by omega) rfl) ?_
    | refine wG_n rfl rfl ?_
    | refine wG_u rfl rfl ?_
    | refine wG_new (o_mks rfl rfl (by omega) (by decide)) ?_)
    exact ret_intE (.inr rfl) ⟨_, retV_mv rfl, rfl⟩
  · rw [if_neg hs] at c ⊢
    repeat (first | refine wG_call c rfl rfl ?_ | (first
    | refine wC_a rfl ?_
    | refine q_s rfl ?_
    | refine q_b rfl ?_
    | refine wG_nil ?_
    | refine wG_g rfl ?_
    | refine wG_pure (o_len_vwm rfl) ?_
    | refine wG_pure (o_not_d rfl) ?_
    | refine wG_p rfl (by first | exact rfl | omega) ?_
    | refine wG_pure (o_not rfl) ?_
    | refine wG_pure (e_ia_vw0 rfl rfl (by omega) rfl) ?_
    | refine wG_pure (e_ia_vwp rfl rfl (by omega) rfl) ?_
    | refine wG_pure (e_ia_vwm rfl rfl (by omega) (by omega) rfl) ?_
    | refine wG_pure (e_ia_vwi rfl rfl (by omega) rfl) ?_
    | refine wG_pure (e_ia_vwn rfl rfl (by omega) (by omega) rfl) ?_
    | refine wG_n rfl rfl ?_
    | refine wG_u rfl rfl ?_
    | refine wG_new (o_mks rfl rfl (by omega) (by decide)) ?_))
    exact ret_intE (.inr rfl) ⟨_, retV_mv rfl, rfl⟩
theorem con54 (nn : Bool) (d : Ds) (hlen : d.ws.length ≤ 1048576) : Con Try.prog 54 true [.agg (dRow nn d)] (.agg [.int .i64 d.f, .sl 0 1 0 d.ws.length]) [d.ws.map iRow] := by
  obtain ⟨f, ws⟩ := d
  simp only at hlen
  refine con_of_wp mixed fun54 (by simp) [3] (plain_map iRow_plain ws) ?_
  unfold ac54 ro54 dRow
  simp only [zipT]
  repeat (first | refine wG_call1 (con90 nn ws hlen) rfl rfl ?_ | (first
    | refine wC_a rfl ?_
    | refine q_s rfl ?_
    | refine q_b rfl ?_
    | refine wG_nil ?_
    | refine wG_g rfl ?_
    | refine wG_pure (o_len_vwm rfl) ?_
    | refine wG_pure (o_not_d rfl) ?_
    | refine wG_p rfl (by first | exact rfl | omega) ?_
    | refine wG_pure (o_not rfl) ?_
    | refine wG_pure (e_ia_vw0 rfl rfl (by omega) rfl) ?_
    | refine wG_pure (e_ia_vwp rfl rfl (by omega) rfl) ?_
    | refine wG_pure (e_ia_vwm rfl rfl (by omega) (by omega) rfl) ?_
    | refine wG_pure (e_ia_vwi rfl rfl (by omega) rfl) ?_
    | refine wG_pure (e_ia_vwn rfl rfl (by omega) (by omega) rfl) ?_
    | refine wG_n rfl rfl ?_
    | refine wG_u rfl rfl ?_
    | refine wG_new (o_mks rfl rfl (by omega) (by decide)) ?_))
  refine ret_gen (.inr rfl) (retVs_1 (retV_ldt rfl rfl rfl rfl rfl)) rfl trivial rfl rfl (by simp) (fun i rows h => ?_)
  cases i with
  | zero => simp at h; subst h; rfl
  | succ i => simp at h
theorem con20 (nn mm : Bool) (d e : Ds) (h1 : d.ws.length ≤ 1048576) (h2 : e.ws.length ≤ 1048576) : Con Try.prog 20 true [.agg (dRow nn d), .agg (dRow mm e)] (.bool (decide (d.f = e.f ∧ d.ws = e.ws))) [] := by
  obtain ⟨f, ws⟩ := d
  obtain ⟨g, vs⟩ := e
  simp only at h1 h2
  refine con_of_wp mixed fun20 (by simp) [] plain_nil ?_
  unfold ac20 ro20 dRow
  simp only [zipT]
  repeat' (first | refine wG_call (con57 nn mm ws vs h1 h2) rfl rfl ?_ | (first
    | refine wC_a rfl ?_
    | refine q_s rfl ?_
    | refine q_b rfl ?_
    | refine wG_nil ?_
    | refine wG_g rfl ?_
    | refine wG_pure (o_len_vwm rfl) ?_
    | refine wG_pure (o_not_d rfl) ?_
    | refine wG_p rfl (by first | exact rfl | omega) ?_
    | refine wG_pure (o_not rfl) ?_
    | refine wG_pure (e_ia_vw0 rfl rfl (by omega) rfl) ?_
    | refine wG_pure (e_ia_vwp rfl rfl (by omega) rfl) ?_
    | refine wG_pure (e_ia_vwm rfl rfl (by omega) (by omega) rfl) ?_
    | refine wG_pure (e_ia_vwi rfl rfl (by omega) rfl) ?_
    | refine wG_pure (e_ia_vwn rfl rfl (by omega) (by omega) rfl) ?_
    | refine wG_n rfl rfl ?_
    | refine wG_u rfl rfl ?_
    | refine wG_new (o_mks rfl rfl (by omega) (by decide)) ?_) | (refine wG_gd rfl (fun hgt => ?_) (fun hgf => ?_) <;> (first | simp only [eq_true hgt, decide_true] | simp only [eq_false hgf, decide_false])) | refine wC_cond_d rfl (fun hg => ?_) (fun hg => ?_))
  all_goals (refine ret_boolE (.inr rfl) ⟨_, retV_mv rfl, ?_⟩)
  · exact Eq.symm (decide_eq_false fun h => ‹f ≠ g› h.1)
  · exact Eq.symm (decide_eq_false fun h => ‹¬ ws = vs› h.2)
  · exact Eq.symm (decide_eq_true ⟨Decidable.not_not.1 ‹¬ f ≠ g›, Decidable.not_not.1 ‹¬ ¬ ws = vs›⟩)
theorem con20_same (nn mm : Bool) (d : Ds) (h1 : d.ws.length ≤ 1048576) : Con Try.prog 20 true [.agg (dRow nn d), .agg (dRow mm d)] (.bool true) [] := by
  have := con20 nn mm d d h1 h1
  rwa [decide_eq_true ⟨rfl, rfl⟩] at this
theorem sh23 (d : Ds) (k : Int) (hn : d.ws.length ≤ 1048576) (h0 : 0 ≤ k) (h1 : k ≤ 4294967296) {h : List (Nat × Option Ab.Rows)} {nr r : Nat} (hr : hg h r = some (d.ws.map iRow)) (hw : wfH h nr) :
    Sh Try.prog 23 [.agg [.int .i64 d.f, .sl r 1 0 d.ws.length], .int .i64 k] h nr (.int .i64 (k + d.ws.length)) ((r, some ((mks k d.ws.length).map iRow)) :: h) nr := by
  obtain ⟨f, ws⟩ := d
  simp only at hn hr
  have hrn := (hw r _ hr).1
  refine sh_of_wp mixed fun23 (by simp) ?_
  unfold ac23 ro23
  simp only [zipT]
  have hr2 : hg ((nr, some [[AV.int .i64 f, .sl r 1 0 ws.length]]) :: h) r = some (ws.map iRow) := by
    simp only [Ab.hg, upd]
    rw [if_neg (by omega)]
    exact hr
  have hw2 : wfH ((nr, some [[AV.int .i64 f, .sl r 1 0 ws.length]]) :: h) (nr + 1) :=
    wfH_cons (by omega) (by simp [AV.ltr]; omega) (wfH_le hw (Nat.le_succ _))
  have hb : hg ((nr, some [[AV.int .i64 f, .sl r 1 0 ws.length]]) :: h) nr = some [[AV.int .i64 f, .sl r 1 0 ws.length]] := by simp [Ab.hg, upd]
  repeat (first | refine wG_callS (sh58 ws k (by omega) h0 h1 hr2 hw2) rfl ?_ | refine wG_pure (o_ldf_pt rfl hb rfl rfl) ?_ | (first
    | refine wC_a rfl ?_
    | refine q_s rfl ?_
    | refine q_b rfl ?_
    | refine wG_nil ?_
    | refine wG_g rfl ?_
    | refine wG_pure (o_len_vwm rfl) ?_
    | refine wG_pure (o_not_d rfl) ?_
    | refine wG_p rfl (by first | exact rfl | omega) ?_
    | refine wG_pure (o_not rfl) ?_
    | refine wG_pure (e_ia_vw0 rfl rfl (by omega) rfl) ?_
    | refine wG_pure (e_ia_vwp rfl rfl (by omega) rfl) ?_
    | refine wG_pure (e_ia_vwm rfl rfl (by omega) (by omega) rfl) ?_
    | refine wG_pure (e_ia_vwi rfl rfl (by omega) rfl) ?_
    | refine wG_pure (e_ia_vwn rfl rfl (by omega) (by omega) rfl) ?_
    | refine wG_n rfl rfl ?_
    | refine wG_u rfl rfl ?_
    | refine wG_new (o_mks rfl rfl (by omega) (by decide)) ?_))
  refine ⟨trivial, _, retVs_1 (retV_mv rfl), ?_, Nat.le_refl _⟩
  refine Le_of ⟨⟨rfl, rfl⟩, trivial⟩ (fun q rows hq => ?_) (wfH_cons hrn (ltrI _ _) hw)
  simp only [Ab.hg, upd] at hq ⊢
  split at hq
  · rename_i e; rw [if_pos e]; exact hq
  · rename_i e
    have := (hw q rows hq).1
    rw [if_neg e, if_neg (by omega)]
    exact hq
theorem con24 (nn : Bool) (f : Int) (n : Nat) (k : Int) (hn : n ≤ 1048576) (h0 : 0 ≤ k) (h1 : k ≤ 4294967296) : Con Try.prog 24 true [.agg [.int .i64 f, .vw nn ((mks k n).map iRow)], .int .i64 k] (.int .i64 (k + n)) [] := by
  refine con_of_wp mixed fun24 (by simp) [] plain_nil ?_
  unfold ac24 ro24
  simp only [zipT]
  repeat (first | refine wG_call (con59 nn n k (by omega) h0 h1) rfl rfl ?_ | (first
    | refine wC_a rfl ?_
    | refine q_s rfl ?_
    | refine q_b rfl ?_
    | refine wG_nil ?_
    | refine wG_g rfl ?_
    | refine wG_pure (o_len_vwm rfl) ?_
    | refine wG_pure (o_not_d rfl) ?_
    | refine wG_p rfl (by first | exact rfl | omega) ?_
    | refine wG_pure (o_not rfl) ?_
    | refine wG_pure (e_ia_vw0 rfl rfl (by omega) rfl) ?_
    | refine wG_pure (e_ia_vwp rfl rfl (by omega) rfl) ?_
    | refine wG_pure (e_ia_vwm rfl rfl (by omega) (by omega) rfl) ?_
    | refine wG_pure (e_ia_vwi rfl rfl (by omega) rfl) ?_
    | refine wG_pure (e_ia_vwn rfl rfl (by omega) (by omega) rfl) ?_
    | refine wG_n rfl rfl ?_
    | refine wG_u rfl rfl ?_
    | refine wG_new (o_mks rfl rfl (by omega) (by decide)) ?_))
  refine wC_cond_d rfl (fun h => ?_) (fun h => ?_)
  · omega
  repeat (first
    | refine wC_a rfl ?_
    | refine q_s rfl ?_
    | refine q_b rfl ?_
    | refine wG_nil ?_
    | refine wG_g rfl ?_
    | refine wG_pure (o_len_vwm rfl) ?_
    | refine wG_pure (o_not_d rfl) ?_
    | refine wG_p rfl (by first | exact rfl | omega) ?_
    | refine wG_pure (o_not rfl) ?_
    | refine wG_pure (e_ia_vw0 rfl rfl (by omega) rfl) ?_
    | refine wG_pure (e_ia_vwp rfl rfl (by omega) rfl) ?_
    | refine wG_pure (e_ia_vwm rfl rfl (by omega) (by omega) rfl) ?_
    | refine wG_pure (e_ia_vwi rfl rfl (by omega) rfl) ?_
    | refine wG_pure (e_ia_vwn rfl rfl (by omega) (by omega) rfl) ?_
    | refine wG_n rfl rfl ?_
    | refine wG_u rfl rfl ?_
    | refine wG_new (o_mks rfl rfl (by omega) (by decide)) ?_)
  exact ret_intE (.inr rfl) ⟨_, retV_mv rfl, rfl⟩
end Go.Proofs.Ytnohaclnpbpjbaa.Dst
