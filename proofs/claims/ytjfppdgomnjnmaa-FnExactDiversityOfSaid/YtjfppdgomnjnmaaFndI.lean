/- The finds of one context, on both sides, and estimates of vessels with their law. -/
import Derived.Test.YtjfppdgomnjnmaaFndE
namespace Go.Proofs.Ytjfppdgomnjnmaa.Fnd
open Go Go.Proofs.Ytjfppdgomnjnmaa.Ab Go.Proofs.Ytjfppdgomnjnmaa.Il
attribute [local irreducible] wpO wpC wpDr wpQ wpG wpE stepA seqQ blkQ Ret ev
set_option maxRecDepth 10000
set_option maxHeartbeats 4000000
set_option linter.unusedSimpArgs false
set_option linter.unusedVariables false

def ac6 : AC := (.seq (.reg [⟨(some 4), none, (.mv (.c (.bool false)))⟩]) (.seq (.reg [⟨(some 5), none, (.mv (.c (.int .i64 1048576)))⟩]) (.seq (.reg [⟨(some 11), none, (.mv (.t 0))⟩, ⟨(some 12), none, (.mv (.t 5))⟩, ⟨(some 13), none, (.call 9 [(.t 11), (.t 12)])⟩, ⟨(some 5), none, (.mv (.t 13))⟩]) (.seq (.seq (.reg [⟨(some 14), none, (.mv (.t 5))⟩, ⟨(some 15), none, (.bin .lss (.t 14) (.c (.int .i64 0)))⟩]) (.cond (.t 15) (.seq (.reg [⟨(some 4), none, (.mv (.c (.bool true)))⟩]) .ret) .skip)) (.seq (.reg [⟨(some 17), none, (.mv (.t 0))⟩, ⟨(some 18), none, (.call 11 [(.t 17)])⟩, ⟨(some 19), none, (.mv (.t 1))⟩, ⟨(some 20), none, (.call 18 [(.t 18), (.t 19)])⟩, ⟨(some 16), none, (.mv (.t 20))⟩, ⟨(some 21), none, (.ext (.t 16) 0)⟩, ⟨(some 22), none, (.ext (.t 16) 1)⟩, ⟨(some 6), none, (.mv (.t 21))⟩, ⟨(some 7), none, (.mv (.t 22))⟩]) (.seq (.reg [⟨(some 23), none, (.mv (.t 0))⟩, ⟨(some 24), none, (.call 11 [(.t 23)])⟩, ⟨(some 8), none, (.mv (.t 24))⟩]) (.seq (.reg [⟨(some 26), none, (.mv (.t 8))⟩, ⟨(some 27), none, (.mv (.t 1))⟩, ⟨(some 28), none, (.call 19 [(.t 26), (.t 27)])⟩, ⟨(some 25), none, (.mv (.t 28))⟩, ⟨(some 29), none, (.ext (.t 25) 0)⟩, ⟨(some 30), none, (.ext (.t 25) 1)⟩, ⟨(some 9), none, (.mv (.t 29))⟩, ⟨(some 10), none, (.mv (.t 30))⟩]) (.seq (.seq (.reg [⟨(some 31), none, (.mv (.t 9))⟩, ⟨(some 32), none, (.mv (.t 6))⟩, ⟨(some 33), none, (.bin .neq (.t 31) (.t 32))⟩, ⟨(some 34), none, (.mv (.t 33))⟩, ⟨(some 35), (some (34, false)), (.mv (.t 10))⟩, ⟨(some 36), (some (34, false)), (.mv (.t 7))⟩, ⟨(some 37), (some (34, false)), (.bool2 true (.t 35) (.t 36))⟩, ⟨(some 38), none, (.pick (.t 34) (.c (.bool true)) (.t 37))⟩]) (.cond (.t 38) (.seq (.reg [⟨(some 4), none, (.mv (.c (.bool false)))⟩]) .ret) .skip)) (.seq (.seq (.reg [⟨(some 39), none, (.mv (.t 8))⟩, ⟨(some 40), none, (.mv (.t 0))⟩, ⟨(some 41), none, (.call 11 [(.t 40)])⟩, ⟨(some 42), none, (.call 13 [(.t 39), (.t 41)])⟩, ⟨(some 43), none, (.un .not (.t 42))⟩]) (.cond (.t 43) (.seq (.reg [⟨(some 4), none, (.mv (.c (.bool false)))⟩]) .ret) .skip)) (.seq (.reg [⟨(some 4), none, (.mv (.c (.bool true)))⟩]) .ret))))))))))
def ro6 : List AOp := [(.mv (.t 4))]
theorem fun6 : Fun Try.prog 6 44 ac6 ro6 := ⟨Try.f6, _, Try.func6, by kernel_rfl, rfl, rfl, by kernel_rfl, by kernel_rfl, by decide⟩
def ac18 : AC := (.seq (.reg [⟨(some 4), none, (.mv (.c (.int .i64 0)))⟩, ⟨(some 5), none, (.mv (.c (.bool false)))⟩]) (.seq (.seq (.reg [⟨(some 8), none, (.mv (.t 0))⟩, ⟨(some 9), none, (.mv (.t 1))⟩, ⟨(some 10), none, (.call 39 [(.t 8), (.t 9)])⟩, ⟨(some 11), none, (.un .not (.t 10))⟩]) (.cond (.t 11) (.seq (.reg [⟨(some 4), none, (.mv (.c (.int .i64 0)))⟩, ⟨(some 5), none, (.mv (.c (.bool false)))⟩]) .ret) .skip)) (.seq (.reg [⟨(some 6), none, (.mv (.c (.int .i64 0)))⟩]) (.seq (.seq (.reg [⟨(some 7), none, (.mv (.c (.int .i64 0)))⟩]) (.blk 0 (.loop (.seq (.seq (.reg [⟨(some 12), none, (.mv (.t 7))⟩, ⟨(some 13), none, (.mv (.t 0))⟩, ⟨(some 14), none, (.len (.t 13))⟩, ⟨(some 15), none, (.bin .lss (.t 12) (.t 14))⟩]) (.cond (.t 15) .skip (.exit 0))) (.seq (.blk 1 (.seq (.reg [⟨(some 18), none, (.mv (.t 0))⟩, ⟨(some 19), none, (.mv (.t 7))⟩, ⟨(some 20), none, (.ia 5 (.t 18) (.t 19))⟩, ⟨(some 21), none, (.fa 0 (.t 20))⟩, ⟨(some 22), none, (.ld false 1 (.t 21))⟩, ⟨(some 23), none, (.mv (.t 1))⟩, ⟨(some 24), none, (.bin .eql (.t 22) (.t 23))⟩]) (.cond (.t 24) (.reg [⟨(some 25), none, (.mv (.t 6))⟩, ⟨(some 26), none, (.mv (.t 0))⟩, ⟨(some 27), none, (.mv (.t 7))⟩, ⟨(some 28), none, (.ia 5 (.t 26) (.t 27))⟩, ⟨(some 29), none, (.fa 4 (.t 28))⟩, ⟨(some 30), none, (.ld false 1 (.t 29))⟩, ⟨(some 31), none, (.bin .add (.t 30) (.c (.int .i64 99)))⟩, ⟨(some 32), none, (.bin .quo (.t 31) (.c (.int .i64 100)))⟩, ⟨(some 33), none, (.call 40 [(.t 32), (.c (.int .i64 1))])⟩, ⟨(some 34), none, (.bin .add (.t 25) (.t 33))⟩, ⟨(some 6), none, (.mv (.t 34))⟩]) .skip))) (.reg [⟨(some 16), none, (.mv (.t 7))⟩, ⟨(some 17), none, (.bin .add (.t 16) (.c (.int .i64 1)))⟩, ⟨(some 7), none, (.mv (.t 17))⟩])))))) (.seq (.reg [⟨(some 35), none, (.mv (.t 6))⟩, ⟨(some 4), none, (.mv (.t 35))⟩, ⟨(some 5), none, (.mv (.c (.bool true)))⟩]) .ret)))))
def ro18 : List AOp := [(.mv (.t 4)), (.mv (.t 5))]
theorem fun18 : Fun Try.prog 18 36 ac18 ro18 := ⟨Try.f18, _, Try.func18, by kernel_rfl, rfl, rfl, by kernel_rfl, by kernel_rfl, by decide⟩
def ac19 : AC := (.seq (.reg [⟨(some 4), none, (.mv (.c (.int .i64 0)))⟩, ⟨(some 5), none, (.mv (.c (.bool false)))⟩]) (.seq (.reg [⟨(some 12), none, (.mv (.t 0))⟩, ⟨(some 13), none, (.mv (.t 1))⟩, ⟨(some 14), none, (.call 41 [(.t 12), (.t 13)])⟩, ⟨(some 11), none, (.mv (.t 14))⟩, ⟨(some 15), none, (.ext (.t 11) 0)⟩, ⟨(some 16), none, (.ext (.t 11) 1)⟩, ⟨(some 6), none, (.mv (.t 15))⟩, ⟨(some 7), none, (.mv (.t 16))⟩]) (.seq (.reg [⟨(some 8), none, (.mv (.c (.int .i64 0)))⟩]) (.seq (.seq (.reg [⟨(some 17), none, (.mv (.t 6))⟩, ⟨(some 18), none, (.len (.t 17))⟩, ⟨(some 19), none, (.mv (.c (.int .i64 0)))⟩]) (.blk 0 (.loop (.seq (.reg [⟨(some 20), none, (.bin .lss (.t 19) (.t 18))⟩]) (.seq (.cond (.t 20) .skip (.exit 0)) (.seq (.blk 1 (.seq (.reg [⟨(some 21), none, (.ia 5 (.t 17) (.t 19))⟩, ⟨(some 22), none, (.ld true 5 (.t 21))⟩, ⟨(some 10), none, (.alloc [(.int .i64 0), (.str ⟨#[]⟩), (.int .i64 0), (.int .i64 0), (.int .i64 0)])⟩, ⟨none, none, (.st 5 (.t 10) (.t 22))⟩]) (.reg [⟨(some 23), none, (.mv (.t 8))⟩, ⟨(some 24), none, (.fa 4 (.t 10))⟩, ⟨(some 25), none, (.ld false 1 (.t 24))⟩, ⟨(some 26), none, (.bin .add (.t 25) (.c (.int .i64 99)))⟩, ⟨(some 27), none, (.bin .quo (.t 26) (.c (.int .i64 100)))⟩, ⟨(some 28), none, (.mx (.c (.int .i64 1)) (.t 27))⟩, ⟨(some 29), none, (.bin .add (.t 23) (.t 28))⟩, ⟨(some 8), none, (.mv (.t 29))⟩]))) (.reg [⟨(some 30), none, (.bin .add (.t 19) (.c (.int .i64 1)))⟩, ⟨(some 19), none, (.mv (.t 30))⟩]))))))) (.seq (.reg [⟨(some 31), none, (.mv (.t 8))⟩, ⟨(some 32), none, (.mv (.t 7))⟩, ⟨(some 4), none, (.mv (.t 31))⟩, ⟨(some 5), none, (.mv (.t 32))⟩]) .ret)))))
def ro19 : List AOp := [(.mv (.t 4)), (.mv (.t 5))]
theorem fun19 : Fun Try.prog 19 33 ac19 ro19 := ⟨Try.f19, _, Try.func19, by kernel_rfl, rfl, rfl, by kernel_rfl, by kernel_rfl, by decide⟩

def Asked (xs : List Fd) (c : Int) : Prop := GoodF xs ∧ 1 ≤ c ∧ c ≤ 999
open Classical in
theorem con39 (nn : Bool) (xs : List Fd) (c : Int) (hlen : xs.length ≤ 1048576) (hsz : szB xs) : Con Try.prog 39 true [.vw nn (xs.map fRow), .int .i64 c] (.bool (decide (Asked xs c))) [] := by
  refine con_of_wp mixed fun39 (by simp) [] plain_nil ?_
  unfold ac39 ro39
  simp only [zipT]
  repeat' (first | refine wG_call (con30 nn xs hlen hsz) rfl rfl ?_ | refine wG_call (con44 _ _ _) rfl rfl ?_ | (first
    | refine wC_a rfl ?_
    | refine q_s rfl ?_
    | refine q_b rfl ?_
    | refine wG_nil ?_
    | refine wG_g rfl ?_
    | refine wG_pure (o_len_vwm rfl) ?_
    | refine wG_pure (o_not_d rfl) ?_
    | refine wG_p rfl (by first | exact rfl | omega) ?_
    | refine wG_pure (o_str2 rfl rfl rfl) ?_
    | refine wG_pure (e_istr rfl rfl (by omega)) ?_
    | refine wG_pure (e_istr0 rfl rfl (by omega)) ?_
    | refine wG_pure (o_not rfl) ?_
    | refine wG_pure (e_ia_vw0 rfl rfl (by omega) rfl) ?_
    | refine wG_pure (e_ia_vwp rfl rfl (by omega) rfl) ?_
    | refine wG_pure (e_ia_vwm rfl rfl (by omega) (by omega) rfl) ?_
    | refine wG_pure (e_ia_vwi rfl rfl (by omega) rfl) ?_
    | refine wG_pure (e_ia_vwn rfl rfl (by omega) (by omega) rfl) ?_
    | refine wG_n rfl rfl ?_
    | refine wG_u rfl rfl ?_
    | refine wG_new (o_mks rfl rfl (by omega) (by decide)) ?_) | (refine wG_gd rfl (fun hgt => ?_) (fun hgf => ?_) <;> (first | simp only [eq_true hgt, decide_true] | simp only [eq_false hgf, decide_false])) | refine wC_cond_d rfl (fun hg => ?_) (fun hg => ?_))
  all_goals (refine ret_boolE (.inr rfl) ⟨_, retV_mv rfl, ?_⟩; unfold Asked; first | rfl | simp [*])
/-- What the filter leaves in memory. -/
def kObj (c : Int) (xs : List Fd) : Ab.Rows := (keep c xs).map fRow ++ List.replicate (xs.length - (keep c xs).length) zF
theorem kObj_plain (c : Int) (xs : List Fd) : PlainObjs [kObj c xs] := by
  intro rows h row hr x hx
  simp at h; subst h
  unfold kObj at hr
  rcases List.mem_append.1 hr with hr | hr
  · obtain ⟨p, _, rfl⟩ := List.mem_map.1 hr
    exact fRow_plain p x hx
  · rw [(List.mem_replicate.1 hr).2] at hx
    exact zF_plain x hx
theorem kObj_at {c : Int} {xs : List Fd} {i : Nat} (h : i < (keep c xs).length) : (kObj c xs)[i]? = some (fRow ((keep c xs).getD i default)) := by
  unfold kObj
  rw [List.getElem?_append_left (by simpa using h)]
  exact row_any h
theorem con41_yes (xs : List Fd) (c : Int) (hlen : xs.length ≤ 1048576) (hsz : szB xs) (hA : Asked xs c) : Con Try.prog 41 true [.vw true (xs.map fRow), .int .i64 c] (.tup [.sl 0 5 0 (keep c xs).length, .bool true]) [kObj c xs] := by
  classical
  refine con_of_wp mixed fun41 (by simp) [1] (kObj_plain c xs) ?_
  unfold ac41 ro41
  simp only [zipT]
  have c1 := con12 true xs hlen hsz
  have c2 := con49 c
  rw [decide_eq_true hA.1] at c1
  rw [decide_eq_true hA.2] at c2
  repeat (first | refine wG_call c1 rfl rfl ?_ | refine wG_call c2 rfl rfl ?_ | refine wG_call1 (con55 xs hlen) rfl rfl ?_ | (first
    | refine wC_a rfl ?_
    | refine q_s rfl ?_
    | refine q_b rfl ?_
    | refine wG_nil ?_
    | refine wG_g rfl ?_
    | refine wG_pure (o_len_vwm rfl) ?_
    | refine wG_pure (o_not_d rfl) ?_
    | refine wG_p rfl (by first | exact rfl | omega) ?_
    | refine wG_pure (o_str2 rfl rfl rfl) ?_
    | refine wG_pure (e_istr rfl rfl (by omega)) ?_
    | refine wG_pure (e_istr0 rfl rfl (by omega)) ?_
    | refine wG_pure (o_not rfl) ?_
    | refine wG_pure (e_ia_vw0 rfl rfl (by omega) rfl) ?_
    | refine wG_pure (e_ia_vwp rfl rfl (by omega) rfl) ?_
    | refine wG_pure (e_ia_vwm rfl rfl (by omega) (by omega) rfl) ?_
    | refine wG_pure (e_ia_vwi rfl rfl (by omega) rfl) ?_
    | refine wG_pure (e_ia_vwn rfl rfl (by omega) (by omega) rfl) ?_
    | refine wG_n rfl rfl ?_
    | refine wG_u rfl rfl ?_
    | refine wG_new (o_mks rfl rfl (by omega) (by decide)) ?_))
  refine wG_callS (sh54 xs hlen c (r := 1) (b := 0) rfl rfl (by decide) ?_) rfl ?_
  · exact wfH_cons (by decide) (ltrF _ _) (wfH_cons (by decide) (ltr_dec rfl) wfH_nil)
  repeat (first
    | refine wC_a rfl ?_
    | refine q_s rfl ?_
    | refine q_b rfl ?_
    | refine wG_nil ?_
    | refine wG_g rfl ?_
    | refine wG_pure (o_len_vwm rfl) ?_
    | refine wG_pure (o_not_d rfl) ?_
    | refine wG_p rfl (by first | exact rfl | omega) ?_
    | refine wG_pure (o_str2 rfl rfl rfl) ?_
    | refine wG_pure (e_istr rfl rfl (by omega)) ?_
    | refine wG_pure (e_istr0 rfl rfl (by omega)) ?_
    | refine wG_pure (o_not rfl) ?_
    | refine wG_pure (e_ia_vw0 rfl rfl (by omega) rfl) ?_
    | refine wG_pure (e_ia_vwp rfl rfl (by omega) rfl) ?_
    | refine wG_pure (e_ia_vwm rfl rfl (by omega) (by omega) rfl) ?_
    | refine wG_pure (e_ia_vwi rfl rfl (by omega) rfl) ?_
    | refine wG_pure (e_ia_vwn rfl rfl (by omega) (by omega) rfl) ?_
    | refine wG_n rfl rfl ?_
    | refine wG_u rfl rfl ?_
    | refine wG_new (o_mks rfl rfl (by omega) (by decide)) ?_)
  exact ret_sb (.inr rfl) rfl ⟨_, retV_mv rfl, retV_mv rfl, rfl⟩ rfl
theorem con41_no (xs : List Fd) (c : Int) (hlen : xs.length ≤ 1048576) (hsz : szB xs) (hA : ¬ Asked xs c) : Con Try.prog 41 true [.vw true (xs.map fRow), .int .i64 c] (.tup [.nilS, .bool false]) [] := by
  classical
  refine con_of_wp mixed fun41 (by simp) [] plain_nil ?_
  unfold ac41 ro41
  simp only [zipT]
  have c1 := con12 true xs hlen hsz
  have c2 := con49 c
  by_cases hG : GoodF xs
  · rw [decide_eq_true hG] at c1
    rw [decide_eq_false (fun h => hA ⟨hG, h⟩)] at c2
    repeat (first | refine wG_call c1 rfl rfl ?_ | refine wG_call c2 rfl rfl ?_ | (first
    | refine wC_a rfl ?_
    | refine q_s rfl ?_
    | refine q_b rfl ?_
    | refine wG_nil ?_
    | refine wG_g rfl ?_
    | refine wG_pure (o_len_vwm rfl) ?_
    | refine wG_pure (o_not_d rfl) ?_
    | refine wG_p rfl (by first | exact rfl | omega) ?_
    | refine wG_pure (o_str2 rfl rfl rfl) ?_
    | refine wG_pure (e_istr rfl rfl (by omega)) ?_
    | refine wG_pure (e_istr0 rfl rfl (by omega)) ?_
    | refine wG_pure (o_not rfl) ?_
    | refine wG_pure (e_ia_vw0 rfl rfl (by omega) rfl) ?_
    | refine wG_pure (e_ia_vwp rfl rfl (by omega) rfl) ?_
    | refine wG_pure (e_ia_vwm rfl rfl (by omega) (by omega) rfl) ?_
    | refine wG_pure (e_ia_vwi rfl rfl (by omega) rfl) ?_
    | refine wG_pure (e_ia_vwn rfl rfl (by omega) (by omega) rfl) ?_
    | refine wG_n rfl rfl ?_
    | refine wG_u rfl rfl ?_
    | refine wG_new (o_mks rfl rfl (by omega) (by decide)) ?_))
    exact ret_pl (.inr rfl) (retVs_2 (retV_mv rfl) (retV_mv rfl)) rfl rfl (by simp)
  · rw [decide_eq_false hG] at c1
    repeat (first | refine wG_call c1 rfl rfl ?_ | (first
    | refine wC_a rfl ?_
    | refine q_s rfl ?_
    | refine q_b rfl ?_
    | refine wG_nil ?_
    | refine wG_g rfl ?_
    | refine wG_pure (o_len_vwm rfl) ?_
    | refine wG_pure (o_not_d rfl) ?_
    | refine wG_p rfl (by first | exact rfl | omega) ?_
    | refine wG_pure (o_str2 rfl rfl rfl) ?_
    | refine wG_pure (e_istr rfl rfl (by omega)) ?_
    | refine wG_pure (e_istr0 rfl rfl (by omega)) ?_
    | refine wG_pure (o_not rfl) ?_
    | refine wG_pure (e_ia_vw0 rfl rfl (by omega) rfl) ?_
    | refine wG_pure (e_ia_vwp rfl rfl (by omega) rfl) ?_
    | refine wG_pure (e_ia_vwm rfl rfl (by omega) (by omega) rfl) ?_
    | refine wG_pure (e_ia_vwi rfl rfl (by omega) rfl) ?_
    | refine wG_pure (e_ia_vwn rfl rfl (by omega) (by omega) rfl) ?_
    | refine wG_n rfl rfl ?_
    | refine wG_u rfl rfl ?_
    | refine wG_new (o_mks rfl rfl (by omega) (by decide)) ?_))
    exact ret_pl (.inr rfl) (retVs_2 (retV_mv rfl) (retV_mv rfl)) rfl rfl (by simp)

/-! ### Sums over the filtered list -/
open Classical in
noncomputable def sL2 (p : Fd → Prop) (g : Fd → Int) : List Fd → Int
  | [] => 0
  | x :: xs => (if p x then g x else 0) + sL2 p g xs
open Classical in
theorem sI_cons (p : Fd → Prop) (g : Fd → Int) (x : Fd) (xs : List Fd) : ∀ i, sI p g (x :: xs) (i + 1) = (if p x then g x else 0) + sI p g xs i
  | 0 => by
    show (0 : Int) + (if p x then g x else 0) = (if p x then g x else 0) + 0
    rw [Int.zero_add, Int.add_zero]
  | i + 1 => by
    have := sI_cons p g x xs i
    show sI p g (x :: xs) (i + 1) + (if p (xs.getD i default) then g (xs.getD i default) else 0) = (if p x then g x else 0) + (sI p g xs i + (if p (xs.getD i default) then g (xs.getD i default) else 0))
    rw [this, Int.add_assoc]
theorem sI_sL (p : Fd → Prop) (g : Fd → Int) : ∀ xs : List Fd, sI p g xs xs.length = sL2 p g xs
  | [] => rfl
  | x :: xs => by rw [List.length_cons, sI_cons, sI_sL p g xs, sL2]
theorem sL_keep (p : Fd → Prop) (g : Fd → Int) (c : Int) : ∀ xs : List Fd, sL2 p g (keep c xs) = sL2 (fun f => f.c = c ∧ p f) g xs
  | [] => rfl
  | x :: xs => by
    have ih := sL_keep p g c xs
    by_cases h : x.c = c
    · have e : keep c (x :: xs) = x :: keep c xs := by simp [keep, h]
      rw [e, sL2, sL2, ih]
      by_cases hp : p x <;> simp [h, hp]
    · have e : keep c (x :: xs) = keep c xs := by simp [keep, h]
      rw [e, sL2, ih]
      simp [h]
theorem sI_keep (p : Fd → Prop) (g : Fd → Int) (c : Int) (xs : List Fd) : sI p g (keep c xs) (keep c xs).length = sI (fun f => f.c = c ∧ p f) g xs xs.length := by
  rw [sI_sL, sI_sL, sL_keep]
theorem keep_mem {c : Int} {xs : List Fd} {i : Nat} (h : i < (keep c xs).length) : ∃ j, j < xs.length ∧ (keep c xs).getD i default = xs.getD j default := by
  have hm : (keep c xs).getD i default ∈ keep c xs := by simp [List.getD_eq_getElem?_getD, List.getElem?_eq_getElem h]
  obtain ⟨j, hj, e⟩ := List.getElem_of_mem (List.mem_filter.1 hm).1
  exact ⟨j, hj, by rw [← e]; simp [List.getD_eq_getElem?_getD, List.getElem?_eq_getElem hj]⟩
theorem keep_good {c : Int} {xs : List Fd} (h : GoodF xs) {i : Nat} (hi : i < (keep c xs).length) : isF ((keep c xs).getD i default) := by
  obtain ⟨j, hj, e⟩ := keep_mem hi
  rw [e]; exact h.b hj
theorem sI_bK {p : Fd → Prop} {g : Fd → Int} {c : Int} {xs : List Fd} (h : GoodF xs) (hg : ∀ f, isF f → 0 ≤ g f ∧ g f ≤ 1000000) {i : Nat} (hi : i ≤ (keep c xs).length) : 0 ≤ sI p g (keep c xs) i ∧ sI p g (keep c xs) i ≤ 30000000 := by
  have := sI_b (p := p) (g := g) (M := 1000000) (by decide) (fun j hj => hg _ (keep_good h hj)) i hi
  have := h.1
  have := keep_le c xs
  omega

/-! ### Vessels -/
def vs (f : Fd) : Int := max ((f.r + 99).tdiv 100) 1
theorem gv {f : Fd} (h : isF f) : 0 ≤ vs f ∧ vs f ≤ 1000000 := by
  have h1 := gr h
  have e : (f.r + 99).tdiv 100 = (f.r + 99) / 100 := Int.tdiv_eq_ediv_of_nonneg (by omega)
  unfold vs
  rw [e]
  omega
open Classical in
noncomputable def ves (xs : List Fd) (c : Int) : Int × Bool := if Asked xs c then (sI (fun f => f.c = c ∧ True) vs xs xs.length, true) else (0, false)
theorem con18 (nn : Bool) (xs : List Fd) (c : Int) (hlen : xs.length ≤ 1048576) (hsz : szB xs) : Con Try.prog 18 true [.vw nn (xs.map fRow), .int .i64 c] (.tup [.int .i64 (ves xs c).1, .bool (ves xs c).2]) [] := by
  classical
  refine con_of_wp mixed fun18 (by simp) [] plain_nil ?_
  unfold ac18 ro18
  simp only [zipT]
  have c1 := con39 nn xs c hlen hsz
  by_cases hA : Asked xs c
  · rw [decide_eq_true hA] at c1
    have e : ves xs c = (sI (fun f => f.c = c ∧ True) vs xs xs.length, true) := by unfold ves; rw [if_pos hA]
    rw [e]
    have hG := hA.1
    have h30 := hG.1
    repeat (first | refine wG_call c1 rfl rfl ?_ | (first
    | refine wC_a rfl ?_
    | refine q_s rfl ?_
    | refine q_b rfl ?_
    | refine wG_nil ?_
    | refine wG_g rfl ?_
    | refine wG_pure (o_len_vwm rfl) ?_
    | refine wG_pure (o_not_d rfl) ?_
    | refine wG_p rfl (by first | exact rfl | omega) ?_
    | refine wG_pure (o_str2 rfl rfl rfl) ?_
    | refine wG_pure (e_istr rfl rfl (by omega)) ?_
    | refine wG_pure (e_istr0 rfl rfl (by omega)) ?_
    | refine wG_pure (o_not rfl) ?_
    | refine wG_pure (e_ia_vw0 rfl rfl (by omega) rfl) ?_
    | refine wG_pure (e_ia_vwp rfl rfl (by omega) rfl) ?_
    | refine wG_pure (e_ia_vwm rfl rfl (by omega) (by omega) rfl) ?_
    | refine wG_pure (e_ia_vwi rfl rfl (by omega) rfl) ?_
    | refine wG_pure (e_ia_vwn rfl rfl (by omega) (by omega) rfl) ?_
    | refine wG_n rfl rfl ?_
    | refine wG_u rfl rfl ?_
    | refine wG_new (o_mks rfl rfl (by omega) (by decide)) ?_))
    refine wC_loop (Nat × Int) (fun x => ⟨[(0, .vw nn (xs.map fRow)), (1, .int .i64 c), (6, .int .i64 x.2), (7, .int .i64 (x.1 : Int))], [], 0⟩) (fun x => x.1 ≤ xs.length ∧ x.2 = sI (fun f => f.c = c ∧ True) vs xs x.1) (fun x => xs.length - x.1) (0, 0) ⟨Nat.zero_le _, rfl⟩ ?_ (fun _ _ => Nat.le_refl _) ?_
    · simp [LeP, leT, leH, lk, AV.ltr, ltrL, Ab.hg, upd, -List.getD_eq_getElem?_getD, -Int.default_eq_zero]
    rintro ⟨i, a⟩ ⟨hi, ha⟩
    simp only at hi ha ⊢
    by_cases hi2 : i < xs.length
    · have ba := sI_bG (p := fun f => f.c = c ∧ True) (g := vs) hG (fun _ => gv) hi
      rw [← ha] at ba
      have g1 := gr (hG.b hi2)
      have g2 := gv (hG.b hi2)
      have q : ((xs.getD i default).r + 99).tdiv 100 = ((xs.getD i default).r + 99) / 100 := Int.tdiv_eq_ediv_of_nonneg (by omega)
      have cm := con40 (((xs.getD i default).r + 99).tdiv 100) 1
      change Con _ _ _ _ (.int .i64 (vs (xs.getD i default))) _ at cm
      repeat' (first | refine wG_call cm rfl rfl ?_ | refine wG_pure (o_quo rfl rfl (by decide) (by omega) (by omega)) ?_ | (first
    | refine wC_a rfl ?_
    | refine q_s rfl ?_
    | refine q_b rfl ?_
    | refine wG_nil ?_
    | refine wG_g rfl ?_
    | refine wG_pure (o_len_vwm rfl) ?_
    | refine wG_pure (o_not_d rfl) ?_
    | refine wG_p rfl (by first | exact rfl | omega) ?_
    | refine wG_pure (o_str2 rfl rfl rfl) ?_
    | refine wG_pure (e_istr rfl rfl (by omega)) ?_
    | refine wG_pure (e_istr0 rfl rfl (by omega)) ?_
    | refine wG_pure (o_not rfl) ?_
    | refine wG_pure (e_ia_vw0 rfl rfl (by omega) rfl) ?_
    | refine wG_pure (e_ia_vwp rfl rfl (by omega) rfl) ?_
    | refine wG_pure (e_ia_vwm rfl rfl (by omega) (by omega) rfl) ?_
    | refine wG_pure (e_ia_vwi rfl rfl (by omega) rfl) ?_
    | refine wG_pure (e_ia_vwn rfl rfl (by omega) (by omega) rfl) ?_
    | refine wG_n rfl rfl ?_
    | refine wG_u rfl rfl ?_
    | refine wG_new (o_mks rfl rfl (by omega) (by decide)) ?_) | (refine wG_gd rfl (fun hgt => ?_) (fun hgf => ?_) <;> (first | simp only [eq_true hgt, decide_true] | simp only [eq_false hgf, decide_false])) | refine wC_cond_d rfl (fun hg => ?_) (fun hg => ?_))
      any_goals (exfalso; omega)
      · exact ⟨(i + 1, a + vs (xs.getD i default)), ⟨by omega, by rw [ha]; exact (sI_y ⟨by assumption, trivial⟩).symm⟩, by simp only; omega, by simp [LeP, leT, leH, lk, AV.ltr, ltrL, Ab.hg, upd, -List.getD_eq_getElem?_getD, -Int.default_eq_zero]⟩
      · exact ⟨(i + 1, a), ⟨by omega, by rw [ha]; exact (sI_n (fun h => by have := h.1; contradiction)).symm⟩, by simp only; omega, by simp [LeP, leT, leH, lk, AV.ltr, ltrL, Ab.hg, upd, -List.getD_eq_getElem?_getD, -Int.default_eq_zero]⟩
    · have hi3 : i = xs.length := by omega
      subst hi3
      repeat' (first | (first
    | refine wC_a rfl ?_
    | refine q_s rfl ?_
    | refine q_b rfl ?_
    | refine wG_nil ?_
    | refine wG_g rfl ?_
    | refine wG_pure (o_len_vwm rfl) ?_
    | refine wG_pure (o_not_d rfl) ?_
    | refine wG_p rfl (by first | exact rfl | omega) ?_
    | refine wG_pure (o_str2 rfl rfl rfl) ?_
    | refine wG_pure (e_istr rfl rfl (by omega)) ?_
    | refine wG_pure (e_istr0 rfl rfl (by omega)) ?_
    | refine wG_pure (o_not rfl) ?_
    | refine wG_pure (e_ia_vw0 rfl rfl (by omega) rfl) ?_
    | refine wG_pure (e_ia_vwp rfl rfl (by omega) rfl) ?_
    | refine wG_pure (e_ia_vwm rfl rfl (by omega) (by omega) rfl) ?_
    | refine wG_pure (e_ia_vwi rfl rfl (by omega) rfl) ?_
    | refine wG_pure (e_ia_vwn rfl rfl (by omega) (by omega) rfl) ?_
    | refine wG_n rfl rfl ?_
    | refine wG_u rfl rfl ?_
    | refine wG_new (o_mks rfl rfl (by omega) (by decide)) ?_) | (refine wG_gd rfl (fun hgt => ?_) (fun hgf => ?_) <;> (first | simp only [eq_true hgt, decide_true] | simp only [eq_false hgf, decide_false])) | refine wC_cond_d rfl (fun hg => ?_) (fun hg => ?_))
      any_goals (exfalso; omega)
      refine ret_pl (.inr rfl) (retVs_2 (retV_mv rfl) (retV_mv rfl)) ?_ rfl (by simp)
      rw [ha]; rfl
  · rw [decide_eq_false hA] at c1
    have e : ves xs c = (0, false) := by unfold ves; rw [if_neg hA]
    rw [e]
    repeat (first | refine wG_call c1 rfl rfl ?_ | (first
    | refine wC_a rfl ?_
    | refine q_s rfl ?_
    | refine q_b rfl ?_
    | refine wG_nil ?_
    | refine wG_g rfl ?_
    | refine wG_pure (o_len_vwm rfl) ?_
    | refine wG_pure (o_not_d rfl) ?_
    | refine wG_p rfl (by first | exact rfl | omega) ?_
    | refine wG_pure (o_str2 rfl rfl rfl) ?_
    | refine wG_pure (e_istr rfl rfl (by omega)) ?_
    | refine wG_pure (e_istr0 rfl rfl (by omega)) ?_
    | refine wG_pure (o_not rfl) ?_
    | refine wG_pure (e_ia_vw0 rfl rfl (by omega) rfl) ?_
    | refine wG_pure (e_ia_vwp rfl rfl (by omega) rfl) ?_
    | refine wG_pure (e_ia_vwm rfl rfl (by omega) (by omega) rfl) ?_
    | refine wG_pure (e_ia_vwi rfl rfl (by omega) rfl) ?_
    | refine wG_pure (e_ia_vwn rfl rfl (by omega) (by omega) rfl) ?_
    | refine wG_n rfl rfl ?_
    | refine wG_u rfl rfl ?_
    | refine wG_new (o_mks rfl rfl (by omega) (by decide)) ?_))
    exact ret_pl (.inr rfl) (retVs_2 (retV_mv rfl) (retV_mv rfl)) rfl rfl (by simp)
theorem con19 (xs : List Fd) (c : Int) (hlen : xs.length ≤ 1048576) (hsz : szB xs) : Con Try.prog 19 true [.vw true (xs.map fRow), .int .i64 c] (.tup [.int .i64 (ves xs c).1, .bool (ves xs c).2]) [] := by
  classical
  refine con_of_wp mixed fun19 (by simp) [] plain_nil ?_
  unfold ac19 ro19
  simp only [zipT]
  by_cases hA : Asked xs c
  · have c1 := con41_yes xs c hlen hsz hA
    have e : ves xs c = (sI (fun f => f.c = c ∧ True) vs xs xs.length, true) := by unfold ves; rw [if_pos hA]
    rw [e, ← sI_keep]
    have hG := hA.1
    have h30 := hG.1
    have hkl := keep_le c xs
    repeat (first | refine wG_call1 c1 rfl rfl ?_ | (first
    | refine wC_a rfl ?_
    | refine q_s rfl ?_
    | refine q_b rfl ?_
    | refine wG_nil ?_
    | refine wG_g rfl ?_
    | refine wG_pure (o_len_vwm rfl) ?_
    | refine wG_pure (o_not_d rfl) ?_
    | refine wG_p rfl (by first | exact rfl | omega) ?_
    | refine wG_pure (o_str2 rfl rfl rfl) ?_
    | refine wG_pure (e_istr rfl rfl (by omega)) ?_
    | refine wG_pure (e_istr0 rfl rfl (by omega)) ?_
    | refine wG_pure (o_not rfl) ?_
    | refine wG_pure (e_ia_vw0 rfl rfl (by omega) rfl) ?_
    | refine wG_pure (e_ia_vwp rfl rfl (by omega) rfl) ?_
    | refine wG_pure (e_ia_vwm rfl rfl (by omega) (by omega) rfl) ?_
    | refine wG_pure (e_ia_vwi rfl rfl (by omega) rfl) ?_
    | refine wG_pure (e_ia_vwn rfl rfl (by omega) (by omega) rfl) ?_
    | refine wG_n rfl rfl ?_
    | refine wG_u rfl rfl ?_
    | refine wG_new (o_mks rfl rfl (by omega) (by decide)) ?_))
    refine wC_loop (Nat × Int) (fun x => ⟨[(7, .bool true), (17, .sl 0 5 0 (keep c xs).length), (18, .int .i64 ((keep c xs).length : Int)), (8, .int .i64 x.2), (19, .int .i64 (x.1 : Int))], [(0, some (kObj c xs))], 1⟩) (fun x => x.1 ≤ (keep c xs).length ∧ x.2 = sI (fun _ => True) vs (keep c xs) x.1) (fun x => (keep c xs).length - x.1) (0, 0) ⟨Nat.zero_le _, rfl⟩ ?_ (fun _ _ => Nat.zero_le _) ?_
    · refine ⟨⟨⟨rfl, rfl⟩, ⟨rfl, rfl⟩, ⟨rfl, rfl⟩, ⟨rfl, rfl⟩, ⟨rfl, rfl⟩, trivial⟩, ⟨rfl, Nat.zero_lt_one, fill_ltr xs c 1⟩, trivial⟩
    rintro ⟨i, a⟩ ⟨hi, ha⟩
    simp only at hi ha ⊢
    by_cases hi2 : i < (keep c xs).length
    · have ba := sI_bK (p := fun _ => True) (g := vs) (c := c) hG (fun _ => gv) hi
      rw [← ha] at ba
      have g1 := gr (keep_good hG hi2)
      have g2 := gv (keep_good hG hi2)
      have hrow := kObj_at hi2
      have e0 : 0 + ((i : Int)).toNat = i := by simp
      have q : (((keep c xs).getD i default).r + 99).tdiv 100 = (((keep c xs).getD i default).r + 99) / 100 := Int.tdiv_eq_ediv_of_nonneg (by omega)
      have em : max 1 ((((keep c xs).getD i default).r + 99).tdiv 100) = vs ((keep c xs).getD i default) := Int.max_comm _ _
      repeat' (first | (refine wG_pure (e_ia_sl rfl rfl (by omega) (by omega)) ?_; simp only [e0]) | refine wG_pure (o_ldt_pt rfl rfl hrow rfl rfl) ?_ | refine wG_pure (o_quo rfl rfl (by decide) (by omega) (by omega)) ?_ | (refine wG_pure (o_mx rfl rfl) ?_; rw [em]) | (first
    | refine wC_a rfl ?_
    | refine q_s rfl ?_
    | refine q_b rfl ?_
    | refine wG_nil ?_
    | refine wG_g rfl ?_
    | refine wG_pure (o_len_vwm rfl) ?_
    | refine wG_pure (o_not_d rfl) ?_
    | refine wG_p rfl (by first | exact rfl | omega) ?_
    | refine wG_pure (o_str2 rfl rfl rfl) ?_
    | refine wG_pure (e_istr rfl rfl (by omega)) ?_
    | refine wG_pure (e_istr0 rfl rfl (by omega)) ?_
    | refine wG_pure (o_not rfl) ?_
    | refine wG_pure (e_ia_vw0 rfl rfl (by omega) rfl) ?_
    | refine wG_pure (e_ia_vwp rfl rfl (by omega) rfl) ?_
    | refine wG_pure (e_ia_vwm rfl rfl (by omega) (by omega) rfl) ?_
    | refine wG_pure (e_ia_vwi rfl rfl (by omega) rfl) ?_
    | refine wG_pure (e_ia_vwn rfl rfl (by omega) (by omega) rfl) ?_
    | refine wG_n rfl rfl ?_
    | refine wG_u rfl rfl ?_
    | refine wG_new (o_mks rfl rfl (by omega) (by decide)) ?_) | (refine wG_gd rfl (fun hgt => ?_) (fun hgf => ?_) <;> (first | simp only [eq_true hgt, decide_true] | simp only [eq_false hgf, decide_false])) | refine wC_cond_d rfl (fun hg => ?_) (fun hg => ?_))
      any_goals (exfalso; omega)
      refine ⟨(i + 1, a + vs ((keep c xs).getD i default)), ⟨by omega, by rw [ha]; exact (sI_y trivial).symm⟩, by simp only; omega, ⟨⟨rfl, rfl⟩, ⟨rfl, rfl⟩, ⟨rfl, rfl⟩, ⟨rfl, rfl⟩, ⟨rfl, rfl⟩, trivial⟩, ⟨rfl, Nat.zero_lt_one, fill_ltr xs c 1⟩, trivial⟩
    · have hi3 : i = (keep c xs).length := by omega
      subst hi3
      repeat' (first | (first
    | refine wC_a rfl ?_
    | refine q_s rfl ?_
    | refine q_b rfl ?_
    | refine wG_nil ?_
    | refine wG_g rfl ?_
    | refine wG_pure (o_len_vwm rfl) ?_
    | refine wG_pure (o_not_d rfl) ?_
    | refine wG_p rfl (by first | exact rfl | omega) ?_
    | refine wG_pure (o_str2 rfl rfl rfl) ?_
    | refine wG_pure (e_istr rfl rfl (by omega)) ?_
    | refine wG_pure (e_istr0 rfl rfl (by omega)) ?_
    | refine wG_pure (o_not rfl) ?_
    | refine wG_pure (e_ia_vw0 rfl rfl (by omega) rfl) ?_
    | refine wG_pure (e_ia_vwp rfl rfl (by omega) rfl) ?_
    | refine wG_pure (e_ia_vwm rfl rfl (by omega) (by omega) rfl) ?_
    | refine wG_pure (e_ia_vwi rfl rfl (by omega) rfl) ?_
    | refine wG_pure (e_ia_vwn rfl rfl (by omega) (by omega) rfl) ?_
    | refine wG_n rfl rfl ?_
    | refine wG_u rfl rfl ?_
    | refine wG_new (o_mks rfl rfl (by omega) (by decide)) ?_) | (refine wG_gd rfl (fun hgt => ?_) (fun hgf => ?_) <;> (first | simp only [eq_true hgt, decide_true] | simp only [eq_false hgf, decide_false])) | refine wC_cond_d rfl (fun hg => ?_) (fun hg => ?_))
      any_goals (exfalso; omega)
      refine ret_pl (.inr rfl) (retVs_2 (retV_mv rfl) (retV_mv rfl)) ?_ rfl (by simp)
      rw [ha]; rfl
  · have c1 := con41_no xs c hlen hsz hA
    have e : ves xs c = (0, false) := by unfold ves; rw [if_neg hA]
    rw [e]
    repeat (first | refine wG_call c1 rfl rfl ?_ | (first
    | refine wC_a rfl ?_
    | refine q_s rfl ?_
    | refine q_b rfl ?_
    | refine wG_nil ?_
    | refine wG_g rfl ?_
    | refine wG_pure (o_len_vwm rfl) ?_
    | refine wG_pure (o_not_d rfl) ?_
    | refine wG_p rfl (by first | exact rfl | omega) ?_
    | refine wG_pure (o_str2 rfl rfl rfl) ?_
    | refine wG_pure (e_istr rfl rfl (by omega)) ?_
    | refine wG_pure (e_istr0 rfl rfl (by omega)) ?_
    | refine wG_pure (o_not rfl) ?_
    | refine wG_pure (e_ia_vw0 rfl rfl (by omega) rfl) ?_
    | refine wG_pure (e_ia_vwp rfl rfl (by omega) rfl) ?_
    | refine wG_pure (e_ia_vwm rfl rfl (by omega) (by omega) rfl) ?_
    | refine wG_pure (e_ia_vwi rfl rfl (by omega) rfl) ?_
    | refine wG_pure (e_ia_vwn rfl rfl (by omega) (by omega) rfl) ?_
    | refine wG_n rfl rfl ?_
    | refine wG_u rfl rfl ?_
    | refine wG_new (o_mks rfl rfl (by omega) (by decide)) ?_))
    refine wC_loop Unit (fun _ => ⟨[(7, .bool false), (17, .nilS), (18, .int .i64 0), (8, .int .i64 0), (19, .int .i64 0)], [], 0⟩) (fun _ => True) (fun _ => 0) () trivial ?_ (fun _ _ => Nat.zero_le _) ?_
    · simp [LeP, leT, leH, lk, AV.ltr, ltrL, Ab.hg, upd, -List.getD_eq_getElem?_getD, -Int.default_eq_zero]
    rintro ⟨⟩ -
    repeat (first
    | refine wC_a rfl ?_
    | refine q_s rfl ?_
    | refine q_b rfl ?_
    | refine wG_nil ?_
    | refine wG_g rfl ?_
    | refine wG_pure (o_len_vwm rfl) ?_
    | refine wG_pure (o_not_d rfl) ?_
    | refine wG_p rfl (by first | exact rfl | omega) ?_
    | refine wG_pure (o_str2 rfl rfl rfl) ?_
    | refine wG_pure (e_istr rfl rfl (by omega)) ?_
    | refine wG_pure (e_istr0 rfl rfl (by omega)) ?_
    | refine wG_pure (o_not rfl) ?_
    | refine wG_pure (e_ia_vw0 rfl rfl (by omega) rfl) ?_
    | refine wG_pure (e_ia_vwp rfl rfl (by omega) rfl) ?_
    | refine wG_pure (e_ia_vwm rfl rfl (by omega) (by omega) rfl) ?_
    | refine wG_pure (e_ia_vwi rfl rfl (by omega) rfl) ?_
    | refine wG_pure (e_ia_vwn rfl rfl (by omega) (by omega) rfl) ?_
    | refine wG_n rfl rfl ?_
    | refine wG_u rfl rfl ?_
    | refine wG_new (o_mks rfl rfl (by omega) (by decide)) ?_)
    exact ret_pl (.inr rfl) (retVs_2 (retV_mv rfl) (retV_mv rfl)) rfl rfl (by simp)
theorem con6 (nn : Bool) (xs : List Fd) (c : Int) (hlen : xs.length ≤ 9223372036854775807) (hsz : ∀ i, i < xs.length → (xs.getD i default).t.size ≤ 9223372036854775807) : Con Try.prog 6 true [.vw nn (xs.map fRow), .int .i64 c] (.bool true) [] := by
  refine con_of_wp mixed fun6 (by simp) [] plain_nil ?_
  unfold ac6 ro6
  simp only [zipT]
  have c9 := con9 nn xs hlen hsz 1048576 (by omega) (by omega)
  repeat (first | refine wG_call c9 rfl rfl ?_ | (first
    | refine wC_a rfl ?_
    | refine q_s rfl ?_
    | refine q_b rfl ?_
    | refine wG_nil ?_
    | refine wG_g rfl ?_
    | refine wG_pure (o_len_vwm rfl) ?_
    | refine wG_pure (o_not_d rfl) ?_
    | refine wG_p rfl (by first | exact rfl | omega) ?_
    | refine wG_pure (o_str2 rfl rfl rfl) ?_
    | refine wG_pure (e_istr rfl rfl (by omega)) ?_
    | refine wG_pure (e_istr0 rfl rfl (by omega)) ?_
    | refine wG_pure (o_not rfl) ?_
    | refine wG_pure (e_ia_vw0 rfl rfl (by omega) rfl) ?_
    | refine wG_pure (e_ia_vwp rfl rfl (by omega) rfl) ?_
    | refine wG_pure (e_ia_vwm rfl rfl (by omega) (by omega) rfl) ?_
    | refine wG_pure (e_ia_vwi rfl rfl (by omega) rfl) ?_
    | refine wG_pure (e_ia_vwn rfl rfl (by omega) (by omega) rfl) ?_
    | refine wG_n rfl rfl ?_
    | refine wG_u rfl rfl ?_
    | refine wG_new (o_mks rfl rfl (by omega) (by decide)) ?_))
  refine wC_cond_d rfl (fun h => ?_) (fun h => ?_)
  · repeat (first
    | refine wC_a rfl ?_
    | refine q_s rfl ?_
    | refine q_b rfl ?_
    | refine wG_nil ?_
    | refine wG_g rfl ?_
    | refine wG_pure (o_len_vwm rfl) ?_
    | refine wG_pure (o_not_d rfl) ?_
    | refine wG_p rfl (by first | exact rfl | omega) ?_
    | refine wG_pure (o_str2 rfl rfl rfl) ?_
    | refine wG_pure (e_istr rfl rfl (by omega)) ?_
    | refine wG_pure (e_istr0 rfl rfl (by omega)) ?_
    | refine wG_pure (o_not rfl) ?_
    | refine wG_pure (e_ia_vw0 rfl rfl (by omega) rfl) ?_
    | refine wG_pure (e_ia_vwp rfl rfl (by omega) rfl) ?_
    | refine wG_pure (e_ia_vwm rfl rfl (by omega) (by omega) rfl) ?_
    | refine wG_pure (e_ia_vwi rfl rfl (by omega) rfl) ?_
    | refine wG_pure (e_ia_vwn rfl rfl (by omega) (by omega) rfl) ?_
    | refine wG_n rfl rfl ?_
    | refine wG_u rfl rfl ?_
    | refine wG_new (o_mks rfl rfl (by omega) (by decide)) ?_)
    exact ret_boolE (.inr rfl) ⟨_, retV_mv rfl, rfl⟩
  obtain ⟨g1, g2, g3⟩ := szFS_ok (by omega) (Int.not_lt.1 h)
  have hs : xs.length ≤ 1048576 := by omega
  have hb : szB xs := fun i hi => by have := g3 i hi; omega
  have cT := con11 nn xs hs
  repeat' (first | refine wG_call1 cT rfl rfl ?_ | refine wG_call (con18 true xs c hs hb) (ag_sl rfl rfl rfl fRow_plain (ag_int rfl ag_nil)) rfl ?_ | refine wG_call (con19 xs c hs hb) (ag_sl rfl rfl rfl fRow_plain (ag_int rfl ag_nil)) rfl ?_ | refine wG_call (con13 true true xs hs) (ag_sl rfl rfl rfl fRow_plain (ag_sl rfl rfl rfl fRow_plain ag_nil)) rfl ?_ | (first
    | refine wC_a rfl ?_
    | refine q_s rfl ?_
    | refine q_b rfl ?_
    | refine wG_nil ?_
    | refine wG_g rfl ?_
    | refine wG_pure (o_len_vwm rfl) ?_
    | refine wG_pure (o_not_d rfl) ?_
    | refine wG_p rfl (by first | exact rfl | omega) ?_
    | refine wG_pure (o_str2 rfl rfl rfl) ?_
    | refine wG_pure (e_istr rfl rfl (by omega)) ?_
    | refine wG_pure (e_istr0 rfl rfl (by omega)) ?_
    | refine wG_pure (o_not rfl) ?_
    | refine wG_pure (e_ia_vw0 rfl rfl (by omega) rfl) ?_
    | refine wG_pure (e_ia_vwp rfl rfl (by omega) rfl) ?_
    | refine wG_pure (e_ia_vwm rfl rfl (by omega) (by omega) rfl) ?_
    | refine wG_pure (e_ia_vwi rfl rfl (by omega) rfl) ?_
    | refine wG_pure (e_ia_vwn rfl rfl (by omega) (by omega) rfl) ?_
    | refine wG_n rfl rfl ?_
    | refine wG_u rfl rfl ?_
    | refine wG_new (o_mks rfl rfl (by omega) (by decide)) ?_) | (refine wG_gd rfl (fun hgt => ?_) (fun hgf => ?_) <;> (first | simp only [eq_true hgt, decide_true] | simp only [eq_false hgf, decide_false])) | refine wC_cond_d rfl (fun hg => ?_) (fun hg => ?_))
  any_goals contradiction
  exact ret_boolE (.inr rfl) ⟨_, retV_mv rfl, rfl⟩
end Go.Proofs.Ytjfppdgomnjnmaa.Fnd
