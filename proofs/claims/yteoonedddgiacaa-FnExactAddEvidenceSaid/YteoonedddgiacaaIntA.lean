/- The small functions on whole numbers and on lists of whole numbers: what each gives, for every input. -/
import Derived.Test.YteoonedddgiacaaProg
import Derived.KernelRfl
import Derived.Test.YteoonedddgiacaaAb1
namespace Go.Proofs.Yteoonedddgiacaa.Il
open Go Go.Proofs.Yteoonedddgiacaa.Ab
attribute [local irreducible] wpO wpC wpDr wpQ wpG wpE stepA seqQ blkQ Ret ev
theorem mixed : Try.prog.follows .mixedOrders = true := by kernel_rfl
set_option maxRecDepth 10000
set_option maxHeartbeats 4000000
set_option linter.unusedSimpArgs false
set_option linter.unusedVariables false

def ac22 : AC := (.seq (.reg [⟨(some 4), none, (.mv (.c (.int .i64 0)))⟩]) (.seq (.seq (.reg [⟨(some 5), none, (.mv (.t 0))⟩, ⟨(some 6), none, (.mv (.t 1))⟩, ⟨(some 7), none, (.bin .gtr (.t 5) (.t 6))⟩]) (.cond (.t 7) (.seq (.reg [⟨(some 8), none, (.mv (.t 0))⟩, ⟨(some 4), none, (.mv (.t 8))⟩]) .ret) .skip)) (.seq (.reg [⟨(some 9), none, (.mv (.t 1))⟩, ⟨(some 4), none, (.mv (.t 9))⟩]) .ret)))
def ro22 : List AOp := [(.mv (.t 4))]
theorem fun22 : Fun Try.prog 22 10 ac22 ro22 := ⟨Try.f22, _, Try.func22, by kernel_rfl, rfl, rfl, by kernel_rfl, by kernel_rfl, by decide⟩
def ac23 : AC := (.seq (.reg [⟨(some 4), none, (.mv (.c (.int .i64 0)))⟩]) (.seq (.seq (.reg [⟨(some 5), none, (.mv (.t 0))⟩, ⟨(some 6), none, (.mv (.t 1))⟩, ⟨(some 7), none, (.bin .lss (.t 5) (.t 6))⟩]) (.cond (.t 7) (.seq (.reg [⟨(some 8), none, (.mv (.t 0))⟩, ⟨(some 4), none, (.mv (.t 8))⟩]) .ret) .skip)) (.seq (.reg [⟨(some 9), none, (.mv (.t 1))⟩, ⟨(some 4), none, (.mv (.t 9))⟩]) .ret)))
def ro23 : List AOp := [(.mv (.t 4))]
theorem fun23 : Fun Try.prog 23 10 ac23 ro23 := ⟨Try.f23, _, Try.func23, by kernel_rfl, rfl, rfl, by kernel_rfl, by kernel_rfl, by decide⟩
def ac47 : AC := (.seq (.reg [⟨(some 2), none, (.mv (.c (.bool false)))⟩]) (.seq (.reg [⟨(some 3), none, (.mv (.t 0))⟩, ⟨(some 4), none, (.call 59 [(.t 3), (.c (.int .i64 (-20000))), (.c (.int .i64 2100))])⟩, ⟨(some 2), none, (.mv (.t 4))⟩]) .ret))
def ro47 : List AOp := [(.mv (.t 2))]
theorem fun47 : Fun Try.prog 47 5 ac47 ro47 := ⟨Try.f47, _, Try.func47, by kernel_rfl, rfl, rfl, by kernel_rfl, by kernel_rfl, by decide⟩
def ac59 : AC := (.seq (.reg [⟨(some 6), none, (.mv (.c (.bool false)))⟩]) (.seq (.reg [⟨(some 7), none, (.mv (.t 0))⟩, ⟨(some 8), none, (.mv (.t 1))⟩, ⟨(some 9), none, (.bin .geq (.t 7) (.t 8))⟩, ⟨(some 10), none, (.mv (.t 9))⟩, ⟨(some 11), (some (10, true)), (.mv (.t 0))⟩, ⟨(some 12), (some (10, true)), (.mv (.t 2))⟩, ⟨(some 13), (some (10, true)), (.bin .leq (.t 11) (.t 12))⟩, ⟨(some 14), none, (.pick (.t 10) (.t 13) (.c (.bool false)))⟩, ⟨(some 6), none, (.mv (.t 14))⟩]) .ret))
def ro59 : List AOp := [(.mv (.t 6))]
theorem fun59 : Fun Try.prog 59 15 ac59 ro59 := ⟨Try.f59, _, Try.func59, by kernel_rfl, rfl, rfl, by kernel_rfl, by kernel_rfl, by decide⟩
def ac65 : AC := (.seq (.reg [⟨(some 6), none, (.mv (.c (.bool false)))⟩]) (.seq (.reg [⟨(some 7), none, (.mv (.t 0))⟩, ⟨(some 8), none, (.mv (.t 1))⟩, ⟨(some 9), none, (.bin .geq (.t 7) (.t 8))⟩, ⟨(some 10), none, (.mv (.t 9))⟩, ⟨(some 11), (some (10, true)), (.mv (.t 0))⟩, ⟨(some 12), (some (10, true)), (.mv (.t 2))⟩, ⟨(some 13), (some (10, true)), (.bin .leq (.t 11) (.t 12))⟩, ⟨(some 14), none, (.pick (.t 10) (.t 13) (.c (.bool false)))⟩, ⟨(some 6), none, (.mv (.t 14))⟩]) .ret))
def ro65 : List AOp := [(.mv (.t 6))]
theorem fun65 : Fun Try.prog 65 15 ac65 ro65 := ⟨Try.f65, _, Try.func65, by kernel_rfl, rfl, rfl, by kernel_rfl, by kernel_rfl, by decide⟩

def iRow (z : Int) : List AV := [.int .i64 z]
theorem iRow_plain : ∀ x : Int, ∀ v ∈ iRow x, AV.plain v = true := by intro x v hv; simp [iRow] at hv; subst hv; rfl
theorem iRow_len (x : Int) : (iRow x).length = 1 := rfl
theorem okI (ws : List Int) : okRows 1 (ws.map iRow) = true := okRows_map iRow_len ws
theorem ltrI (ws : List Int) (m : Nat) : ∀ row ∈ ws.map iRow, ∀ x ∈ row, AV.ltr m x = true := by
  refine rows_ltr _ m fun row hr x hx => ?_
  obtain ⟨p, _, rfl⟩ := List.mem_map.1 hr
  exact iRow_plain p x hx
theorem rowsP (ws : List Int) : ∀ row ∈ ws.map iRow, ∀ v ∈ row, AV.plain v = true := by
  intro row hr x hx
  obtain ⟨p, _, rfl⟩ := List.mem_map.1 hr
  exact iRow_plain p x hx
theorem getD_mem' (ws : List Int) {i : Nat} (h : i < ws.length) : ws.getD i default ∈ ws := by
  simp [List.getD_eq_getElem?_getD, List.getElem?_eq_getElem h]

theorem con65 (x a b : Int) : Con Try.prog 65 true [.int .i64 x, .int .i64 a, .int .i64 b] (.bool (decide (a ≤ x ∧ x ≤ b))) [] := by
  refine con_of_wp mixed fun65 (by simp) [] plain_nil ?_
  unfold ac65 ro65
  simp only [zipT]
  repeat' (first | (first
    | refine wC_a rfl ?_
    | refine q_s rfl ?_
    | refine q_b rfl ?_
    | refine wG_nil ?_
    | refine wG_g rfl ?_
    | refine wG_pure (o_len_vwm rfl) ?_
    | refine wG_pure (o_not_d rfl) ?_
    | refine wG_p rfl (by first | exact rfl | omega) ?_
    | refine wG_pure (o_not rfl) ?_
    | refine wG_pure (e_ia_vw0 rfl rfl (by omega) rfl) ?_
    | refine wG_pure (e_ia_vwp rfl rfl (by omega) rfl) ?_
    | refine wG_pure (e_ia_vwm rfl rfl (by omega) (by omega) rfl) ?_
    | refine wG_pure (e_ia_vwi rfl rfl (by omega) rfl) ?_
    | refine wG_pure (e_ia_vwn rfl rfl (by omega) (by omega) rfl) ?_
    | refine wG_n rfl rfl ?_
    | refine wG_u rfl rfl ?_
    | refine wG_new (o_mks rfl rfl (by omega) (by decide)) ?_) | (refine wG_gd rfl (fun hgt => ?_) (fun hgf => ?_) <;> (first | simp only [eq_true hgt, decide_true] | simp only [eq_false hgf, decide_false])) | refine wC_cond_d rfl (fun hg => ?_) (fun hg => ?_))
  all_goals (refine ret_boolE (.inr rfl) ⟨_, retV_mv rfl, ?_⟩; (simp [*]))
theorem con59 (x a b : Int) : Con Try.prog 59 true [.int .i64 x, .int .i64 a, .int .i64 b] (.bool (decide (a ≤ x ∧ x ≤ b))) [] := by
  refine con_of_wp mixed fun59 (by simp) [] plain_nil ?_
  unfold ac59 ro59
  simp only [zipT]
  repeat' (first | (first
    | refine wC_a rfl ?_
    | refine q_s rfl ?_
    | refine q_b rfl ?_
    | refine wG_nil ?_
    | refine wG_g rfl ?_
    | refine wG_pure (o_len_vwm rfl) ?_
    | refine wG_pure (o_not_d rfl) ?_
    | refine wG_p rfl (by first | exact rfl | omega) ?_
    | refine wG_pure (o_not rfl) ?_
    | refine wG_pure (e_ia_vw0 rfl rfl (by omega) rfl) ?_
    | refine wG_pure (e_ia_vwp rfl rfl (by omega) rfl) ?_
    | refine wG_pure (e_ia_vwm rfl rfl (by omega) (by omega) rfl) ?_
    | refine wG_pure (e_ia_vwi rfl rfl (by omega) rfl) ?_
    | refine wG_pure (e_ia_vwn rfl rfl (by omega) (by omega) rfl) ?_
    | refine wG_n rfl rfl ?_
    | refine wG_u rfl rfl ?_
    | refine wG_new (o_mks rfl rfl (by omega) (by decide)) ?_) | (refine wG_gd rfl (fun hgt => ?_) (fun hgf => ?_) <;> (first | simp only [eq_true hgt, decide_true] | simp only [eq_false hgf, decide_false])) | refine wC_cond_d rfl (fun hg => ?_) (fun hg => ?_))
  all_goals (refine ret_boolE (.inr rfl) ⟨_, retV_mv rfl, ?_⟩; (simp [*]))
theorem con47 (x : Int) : Con Try.prog 47 true [.int .i64 x] (.bool (decide (-20000 ≤ x ∧ x ≤ 2100))) [] := by
  refine con_of_wp mixed fun47 (by simp) [] plain_nil ?_
  unfold ac47 ro47
  simp only [zipT]
  repeat (first | refine wG_call (con59 _ _ _) rfl rfl ?_ | (first
    | refine wC_a rfl ?_
    | refine q_s rfl ?_
    | refine q_b rfl ?_
    | refine wG_nil ?_
    | refine wG_g rfl ?_
    | refine wG_pure (o_len_vwm rfl) ?_
    | refine wG_pure (o_not_d rfl) ?_
    | refine wG_p rfl (by first | exact rfl | omega) ?_
    | refine wG_pure (o_not rfl) ?_
    | refine wG_pure (e_ia_vw0 rfl rfl (by omega) rfl) ?_
    | refine wG_pure (e_ia_vwp rfl rfl (by omega) rfl) ?_
    | refine wG_pure (e_ia_vwm rfl rfl (by omega) (by omega) rfl) ?_
    | refine wG_pure (e_ia_vwi rfl rfl (by omega) rfl) ?_
    | refine wG_pure (e_ia_vwn rfl rfl (by omega) (by omega) rfl) ?_
    | refine wG_n rfl rfl ?_
    | refine wG_u rfl rfl ?_
    | refine wG_new (o_mks rfl rfl (by omega) (by decide)) ?_))
  refine ret_boolE (.inr rfl) ⟨_, retV_mv rfl, ?_⟩; (simp [*])
theorem con22 (x a : Int) : Con Try.prog 22 true [.int .i64 x, .int .i64 a] (.int .i64 (max x a)) [] := by
  refine con_of_wp mixed fun22 (by simp) [] plain_nil ?_
  unfold ac22 ro22
  simp only [zipT]
  repeat' (first | (first
    | refine wC_a rfl ?_
    | refine q_s rfl ?_
    | refine q_b rfl ?_
    | refine wG_nil ?_
    | refine wG_g rfl ?_
    | refine wG_pure (o_len_vwm rfl) ?_
    | refine wG_pure (o_not_d rfl) ?_
    | refine wG_p rfl (by first | exact rfl | omega) ?_
    | refine wG_pure (o_not rfl) ?_
    | refine wG_pure (e_ia_vw0 rfl rfl (by omega) rfl) ?_
    | refine wG_pure (e_ia_vwp rfl rfl (by omega) rfl) ?_
    | refine wG_pure (e_ia_vwm rfl rfl (by omega) (by omega) rfl) ?_
    | refine wG_pure (e_ia_vwi rfl rfl (by omega) rfl) ?_
    | refine wG_pure (e_ia_vwn rfl rfl (by omega) (by omega) rfl) ?_
    | refine wG_n rfl rfl ?_
    | refine wG_u rfl rfl ?_
    | refine wG_new (o_mks rfl rfl (by omega) (by decide)) ?_) | (refine wG_gd rfl (fun hgt => ?_) (fun hgf => ?_) <;> (first | simp only [eq_true hgt, decide_true] | simp only [eq_false hgf, decide_false])) | refine wC_cond_d rfl (fun hg => ?_) (fun hg => ?_))
  all_goals (refine ret_intE (.inr rfl) ⟨_, retV_mv rfl, by omega⟩)
theorem con23 (x a : Int) : Con Try.prog 23 true [.int .i64 x, .int .i64 a] (.int .i64 (min x a)) [] := by
  refine con_of_wp mixed fun23 (by simp) [] plain_nil ?_
  unfold ac23 ro23
  simp only [zipT]
  repeat' (first | (first
    | refine wC_a rfl ?_
    | refine q_s rfl ?_
    | refine q_b rfl ?_
    | refine wG_nil ?_
    | refine wG_g rfl ?_
    | refine wG_pure (o_len_vwm rfl) ?_
    | refine wG_pure (o_not_d rfl) ?_
    | refine wG_p rfl (by first | exact rfl | omega) ?_
    | refine wG_pure (o_not rfl) ?_
    | refine wG_pure (e_ia_vw0 rfl rfl (by omega) rfl) ?_
    | refine wG_pure (e_ia_vwp rfl rfl (by omega) rfl) ?_
    | refine wG_pure (e_ia_vwm rfl rfl (by omega) (by omega) rfl) ?_
    | refine wG_pure (e_ia_vwi rfl rfl (by omega) rfl) ?_
    | refine wG_pure (e_ia_vwn rfl rfl (by omega) (by omega) rfl) ?_
    | refine wG_n rfl rfl ?_
    | refine wG_u rfl rfl ?_
    | refine wG_new (o_mks rfl rfl (by omega) (by decide)) ?_) | (refine wG_gd rfl (fun hgt => ?_) (fun hgf => ?_) <;> (first | simp only [eq_true hgt, decide_true] | simp only [eq_false hgf, decide_false])) | refine wC_cond_d rfl (fun hg => ?_) (fun hg => ?_))
  all_goals (refine ret_intE (.inr rfl) ⟨_, retV_mv rfl, by omega⟩)

/-! ### Size, copy, comparison -/

/-! ### Marks -/
def mks (k : Int) (n : Nat) : List Int := (List.range n).map fun i : Nat => k + (i : Int)
theorem mks_len (k : Int) (n : Nat) : (mks k n).length = n := by simp [mks]
theorem mks_get (k : Int) (n i : Nat) (h : i < n) : (mks k n).getD i default = k + i := by
  simp [mks, List.getD_eq_getElem?_getD, List.getElem?_eq_getElem, h]

/-! ### Searching -/
/-- Where the first element stands that a test takes; -1 if there is none. -/
def idxP (p : Int → Bool) (ws : List Int) : Int := if ∀ j, j < ws.length → p (ws.getD j default) = false then -1 else (ws.findIdx p : Int)
def anyP (p : Int → Bool) (ws : List Int) : Bool := ws.any p
theorem idxP_ge (p : Int → Bool) (ws : List Int) : idxP p ws ≥ 0 ↔ ws.any p = true := by
  unfold idxP
  rw [List.any_eq_true]
  split
  · rename_i h
    constructor
    · intro h2; omega
    · rintro ⟨x, hx, hp⟩
      obtain ⟨j, hj, rfl⟩ := List.getElem_of_mem hx
      have := h j hj
      simp [List.getD_eq_getElem?_getD, List.getElem?_eq_getElem hj, hp] at this
  · rename_i h
    constructor
    · intro _
      refine Classical.byContradiction fun hn => h fun j hj => ?_
      cases hp : p (ws.getD j default) with
      | false => rfl
      | true => exact absurd ⟨_, getD_mem' ws hj, hp⟩ hn
    · intro _; exact Int.natCast_nonneg _

/-! ### Copies -/
end Go.Proofs.Yteoonedddgiacaa.Il
