/- Square tables of truth values, new in memory. -/
import Derived.Test.YteoonedddgiacaaRecC
import Derived.Test.YteoonedddgiacaaAb4
namespace Go.Proofs.Yteoonedddgiacaa.Rec
open Go Go.Proofs.Yteoonedddgiacaa.Ab Go.Proofs.Yteoonedddgiacaa.Il
attribute [local irreducible] wpO wpC wpDr wpQ wpG wpE stepA seqQ blkQ Ret RetG ev
set_option maxRecDepth 10000
set_option maxHeartbeats 8000000
set_option linter.unusedSimpArgs false
set_option linter.unusedVariables false

def ac73 : AC := (.seq (.reg [⟨(some 2), none, (.mv (.c .nilS))⟩]) (.seq (.reg [⟨(some 5), none, (.mv (.t 0))⟩, ⟨(some 6), none, (.mks 1 24 [.nilS] (.t 5) (.t 5))⟩, ⟨(some 3), none, (.mv (.t 6))⟩]) (.seq (.seq (.reg [⟨(some 7), none, (.mv (.t 3))⟩, ⟨(some 8), none, (.len (.t 7))⟩, ⟨(some 9), none, (.mv (.c (.int .i64 0)))⟩]) (.blk 0 (.loop (.seq (.reg [⟨(some 10), none, (.bin .lss (.t 9) (.t 8))⟩]) (.seq (.cond (.t 10) .skip (.exit 0)) (.seq (.blk 1 (.seq (.reg [⟨(some 11), none, (.mv (.t 9))⟩, ⟨(some 4), none, (.mv (.t 11))⟩]) (.reg [⟨(some 12), none, (.mv (.t 3))⟩, ⟨(some 13), none, (.mv (.t 4))⟩, ⟨(some 14), none, (.mv (.t 0))⟩, ⟨(some 15), none, (.mks 1 1 [(.bool false)] (.t 14) (.t 14))⟩, ⟨(some 16), none, (.ia 1 (.t 12) (.t 13))⟩, ⟨none, none, (.st 1 (.t 16) (.t 15))⟩]))) (.reg [⟨(some 17), none, (.bin .add (.t 9) (.c (.int .i64 1)))⟩, ⟨(some 9), none, (.mv (.t 17))⟩]))))))) (.seq (.reg [⟨(some 18), none, (.mv (.t 3))⟩, ⟨(some 2), none, (.mv (.t 18))⟩]) .ret))))
def ro73 : List AOp := [(.mv (.t 2))]
theorem fun73 : Fun Try.prog 73 19 ac73 ro73 := ⟨Try.f73, _, Try.func73, by kernel_rfl, rfl, rfl, by kernel_rfl, by kernel_rfl, by decide⟩

/-- A table's rows, by the numbers of the objects that hold them: from b on. -/
def outB (n b : Nat) : Ab.Rows := (List.range n).map fun q => [.sl (q + b) 1 0 n]
def boolR (f : Nat → Bool) (n : Nat) : Ab.Rows := (List.range n).map fun k => [.bool (f k)]
def boolRs (W : Nat → Nat → Bool) (n : Nat) : List Ab.Rows := (List.range n).map fun i => boolR (W i) n
theorem boolRs_len (W : Nat → Nat → Bool) (n : Nat) : (boolRs W n).length = n := by simp [boolRs]
theorem outB_len (n b : Nat) : (outB n b).length = n := by simp [outB]
theorem boolR_get {f : Nat → Bool} {n k : Nat} (h : k < n) : (boolR f n)[k]? = some [.bool (f k)] := get_range h
theorem boolRs_get {W : Nat → Nat → Bool} {n i : Nat} (h : i < n) : (boolRs W n)[i]? = some (boolR (W i) n) := get_range h
theorem outB_get {n b i : Nat} (h : i < n) : (outB n b)[i]? = some [.sl (i + b) 1 0 n] := get_range h
theorem boolR_plain (f : Nat → Bool) (n : Nat) : ∀ row ∈ boolR f n, ∀ x ∈ row, AV.plain x = true := by
  intro row hr x hx
  obtain ⟨k, _, rfl⟩ := List.mem_map.1 hr
  simp at hx; subst hx; rfl
theorem boolR_ltr (f : Nat → Bool) (n m : Nat) : ∀ row ∈ boolR f n, ∀ x ∈ row, AV.ltr m x = true := rows_ltr _ m (boolR_plain f n)
theorem boolRs_ltr (W : Nat → Nat → Bool) (n m : Nat) : ∀ rows ∈ boolRs W n, ∀ row ∈ rows, ∀ x ∈ row, AV.ltr m x = true := by
  intro rows hr
  obtain ⟨k, _, rfl⟩ := List.mem_map.1 hr
  exact boolR_ltr _ n m
theorem outB_ltr {n b m : Nat} (h : n + b ≤ m) : ∀ row ∈ outB n b, ∀ x ∈ row, AV.ltr m x = true := by
  intro row hr x hx
  obtain ⟨k, hk, rfl⟩ := List.mem_map.1 hr
  simp at hx; subst hx
  have := List.mem_range.1 hk
  simp [AV.ltr]; omega
def outP (n i : Nat) : Ab.Rows := (List.range n).map fun q => if q < i then [.sl (q + 1) 1 0 n] else [.nilS]
theorem outP_0 (n : Nat) : outP n 0 = List.replicate n [.nilS] := by
  refine List.eq_replicate_iff.2 ⟨by simp [outP], fun x hx => ?_⟩
  obtain ⟨i, _, rfl⟩ := List.mem_map.1 hx
  simp
theorem outP_n (n : Nat) : outP n n = outB n 1 := by
  refine List.map_congr_left fun q hq => ?_
  rw [if_pos (List.mem_range.1 hq)]
theorem outP_set {n i : Nat} : (outP n i).set i [.sl (i + 1) 1 0 n] = outP n (i + 1) := by
  refine set_range (by simp) (fun a ha => ?_)
  by_cases h : a < i
  · rw [if_pos h, if_pos (by omega)]
  · rw [if_neg h, if_neg (by omega)]
theorem outP_get {n i : Nat} (h : i < n) : (outP n i)[i]? = some [.nilS] := by
  have := get_range (f := fun q => if q < i then [AV.sl (q + 1) 1 0 n] else [AV.nilS]) h
  rw [outP, this, if_neg (Nat.lt_irrefl i)]
theorem outP_ltr {n i m : Nat} (h : i + 1 ≤ m) : ∀ row ∈ outP n i, ∀ x ∈ row, AV.ltr m x = true := by
  intro row hr x hx
  obtain ⟨k, hk, rfl⟩ := List.mem_map.1 hr
  split at hx
  · simp at hx; subst hx; simp [AV.ltr]; omega
  · simp at hx; subst hx; rfl
def fR (n : Nat) : Ab.Rows := List.replicate n [.bool false]
theorem fR_eq (n : Nat) : fR n = boolR (fun _ => false) n := by
  refine (List.eq_replicate_iff.2 ⟨by simp [boolR], fun x hx => ?_⟩).symm
  obtain ⟨i, _, rfl⟩ := List.mem_map.1 hx
  rfl
theorem fR_ltr (n m : Nat) : ∀ row ∈ fR n, ∀ x ∈ row, AV.ltr m x = true := by rw [fR_eq]; exact boolR_ltr _ n m
def sqO (n : Nat) : List Ab.Rows := outB n 1 :: List.replicate n (fR n)
theorem πr {m i : Nat} (h : i < m) : πof (List.range m) i = i := by simp [πof, h]
theorem con73 (n : Nat) (hn : n ≤ 10) : ConG Try.prog 73 true [.int .i64 (n : Int)] (.sl 0 1 0 n) (sqO n) := by
  have hlen : (sqO n).length = n + 1 := by simp [sqO]
  refine con_of_wpG mixed fun73 (by simp) (List.range (n + 1)) (fun rows hr row hrow x hx => ?_) ?_
  · rw [hlen]
    rcases List.mem_cons.1 hr with rfl | hr
    · refine ⟨outB_ltr (Nat.le_refl _) row hrow x hx, ?_⟩
      obtain ⟨k, hk, rfl⟩ := List.mem_map.1 hrow
      simp at hx; subst hx; rfl
    · obtain ⟨_, rfl⟩ := List.mem_replicate.1 hr
      refine ⟨fR_ltr n _ row hrow x hx, ?_⟩
      obtain ⟨_, rfl⟩ := List.mem_replicate.1 hrow
      simp at hx; subst hx; rfl
  unfold ac73 ro73
  simp only [zipT]
  have e0 : ∀ n : Nat, 0 + ((n : Int)).toNat = n := fun n => by simp
  repeat (first
    | refine wC_a rfl ?_
    | refine q_s rfl ?_
    | refine q_b rfl ?_
    | refine wG_nil ?_
    | refine wG_g rfl ?_
    | refine wG_pure (o_len_vwm rfl) ?_
    | refine wG_pure (o_not_d rfl) ?_
    | refine wG_p rfl (by first | exact rfl | omega) ?_
    | refine wG_pure (o_str2 rfl rfl rfl) ?_
    | refine wG_pure (e_istr rfl rfl (by omega)) ?_
    | refine wG_pure (e_istr0 rfl rfl (by omega)) ?_
    | refine wG_pure (o_not rfl) ?_
    | refine wG_pure (e_ia_vw0 rfl rfl (by omega) rfl) ?_
    | refine wG_pure (e_ia_vwp rfl rfl (by omega) rfl) ?_
    | refine wG_pure (e_ia_vwm rfl rfl (by omega) (by omega) rfl) ?_
    | refine wG_pure (e_ia_vwi rfl rfl (by omega) rfl) ?_
    | refine wG_pure (e_ia_vwn rfl rfl (by omega) (by omega) rfl) ?_
    | refine wG_n rfl rfl ?_
    | refine wG_u rfl rfl ?_
    | refine wG_new (o_mks rfl rfl (by omega) (by decide)) ?_)
  refine wC_loopS Nat (fun i => ⟨[(0, .int .i64 (n : Int)), (3, .sl 0 1 0 n), (8, .int .i64 (n : Int)), (9, .int .i64 (i : Int))], (0, some (outP n i)) :: mkh 1 (List.replicate i (fR n)), i + 1⟩) (fun i => i ≤ n) (fun i => n - i) 0 (Nat.zero_le _) ?_ (fun _ _ => Nat.zero_le _) ?_
  · refine Le_of ⟨⟨rfl, rfl⟩, ⟨rfl, rfl⟩, ⟨rfl, rfl⟩, ⟨rfl, rfl⟩, trivial⟩ (fun q rows hq => ?_) (wfH_cons (by simp only; omega) (outP_ltr (Nat.le_refl _)) (wfH_mkh (by simp) (fun rows hr => by simp at hr)))
    rw [outP_0] at hq
    exact hq
  intro i hi
  by_cases hi2 : i < n
  · repeat' (first | refine wG_new (o_mks rfl rfl (by omega) (by decide)) ?_ | (refine wG_pure (e_ia_sl rfl rfl (by omega) (by omega)) ?_; simp only [e0]) | refine wG_upd (o_st1 rfl (hg_skip (by omega) hg_here) (outP_get hi2) rfl rfl rfl) ?_ | (first
    | refine wC_a rfl ?_
    | refine q_s rfl ?_
    | refine q_b rfl ?_
    | refine wG_nil ?_
    | refine wG_g rfl ?_
    | refine wG_pure (o_len_vwm rfl) ?_
    | refine wG_pure (o_not_d rfl) ?_
    | refine wG_p rfl (by first | exact rfl | omega) ?_
    | refine wG_pure (o_str2 rfl rfl rfl) ?_
    | refine wG_pure (e_istr rfl rfl (by omega)) ?_
    | refine wG_pure (e_istr0 rfl rfl (by omega)) ?_
    | refine wG_pure (o_not rfl) ?_
    | refine wG_pure (e_ia_vw0 rfl rfl (by omega) rfl) ?_
    | refine wG_pure (e_ia_vwp rfl rfl (by omega) rfl) ?_
    | refine wG_pure (e_ia_vwm rfl rfl (by omega) (by omega) rfl) ?_
    | refine wG_pure (e_ia_vwi rfl rfl (by omega) rfl) ?_
    | refine wG_pure (e_ia_vwn rfl rfl (by omega) (by omega) rfl) ?_
    | refine wG_n rfl rfl ?_
    | refine wG_u rfl rfl ?_
    | refine wG_new (o_mks rfl rfl (by omega) (by decide)) ?_) | (refine wG_gd rfl (fun hgt => ?_) (fun hgf => ?_) <;> (first | simp only [eq_true hgt, decide_true] | simp only [eq_false hgf, decide_false])) | refine wC_cond_d rfl (fun hg => ?_) (fun hg => ?_))
    any_goals (exfalso; omega)
    refine ⟨i + 1, by omega, by omega, Le_of ⟨⟨rfl, rfl⟩, ⟨rfl, by simp [AV.ltr]⟩, ⟨rfl, rfl⟩, ⟨rfl, rfl⟩, trivial⟩ (fun q rows hq => ?_) (wfH_cons (by simp only; omega) (outP_ltr (by simp only; omega)) (wfH_mkh (by simp; omega) (fun rows hr => by obtain ⟨_, rfl⟩ := List.mem_replicate.1 hr; exact fR_ltr n _)))⟩
    by_cases hq0 : q = 0
    · subst hq0
      rw [hg_here] at hq
      rw [← hq, ← outP_set]
      exact hg_here
    · have h1 : Ab.hg (mkh 1 (List.replicate (i + 1) (fR n))) q = some rows := by simpa [Ab.hg, upd, hq0] using hq
      rw [hg_mkh, List.length_replicate] at h1
      split at h1
      · rename_i hc
        have e : rows = fR n := by
          have := List.mem_of_getElem? h1
          exact (List.mem_replicate.1 this).2
        refine hg_skip hq0 ?_
        by_cases hqi : q = i + 1
        · subst hqi; rw [e]; exact hg_here
        · refine hg_skip hqi (hg_skip hq0 ?_)
          rw [hg_mkh, List.length_replicate, if_pos ⟨by omega, by omega⟩, e, List.getElem?_replicate, if_pos (by omega)]
      · cases h1
  · have hi3 : i = n := by omega
    subst hi3
    repeat' (first | (first
    | refine wC_a rfl ?_
    | refine q_s rfl ?_
    | refine q_b rfl ?_
    | refine wG_nil ?_
    | refine wG_g rfl ?_
    | refine wG_pure (o_len_vwm rfl) ?_
    | refine wG_pure (o_not_d rfl) ?_
    | refine wG_p rfl (by first | exact rfl | omega) ?_
    | refine wG_pure (o_str2 rfl rfl rfl) ?_
    | refine wG_pure (e_istr rfl rfl (by omega)) ?_
    | refine wG_pure (e_istr0 rfl rfl (by omega)) ?_
    | refine wG_pure (o_not rfl) ?_
    | refine wG_pure (e_ia_vw0 rfl rfl (by omega) rfl) ?_
    | refine wG_pure (e_ia_vwp rfl rfl (by omega) rfl) ?_
    | refine wG_pure (e_ia_vwm rfl rfl (by omega) (by omega) rfl) ?_
    | refine wG_pure (e_ia_vwi rfl rfl (by omega) rfl) ?_
    | refine wG_pure (e_ia_vwn rfl rfl (by omega) (by omega) rfl) ?_
    | refine wG_n rfl rfl ?_
    | refine wG_u rfl rfl ?_
    | refine wG_new (o_mks rfl rfl (by omega) (by decide)) ?_) | (refine wG_gd rfl (fun hgt => ?_) (fun hgf => ?_) <;> (first | simp only [eq_true hgt, decide_true] | simp only [eq_false hgf, decide_false])) | refine wC_cond_d rfl (fun hg => ?_) (fun hg => ?_))
    any_goals (exfalso; omega)
    refine retG_gen (.inr rfl) (retVs_1 (retV_mv rfl)) ?_ trivial (by rw [hlen]; simp [AV.ltr]) (by rw [hlen]; simp) List.nodup_range (fun q rows hq => ?_)
    · show [AV.sl 0 1 0 i] = [AV.sl (πof (List.range (i + 1)) 0) 1 0 i]
      rw [πr (by omega)]
    cases q with
    | zero =>
      simp [sqO] at hq
      subst hq
      rw [πr (by omega)]
      refine Eq.trans hg_here (congrArg some ?_)
      rw [outP_n, outB, List.map_map]
      refine List.map_congr_left fun q hq => ?_
      have hq2 := List.mem_range.1 hq
      simp only [Function.comp, rnL, rn]
      rw [πr (by omega)]
    | succ q =>
      simp [sqO, List.getElem?_replicate] at hq
      obtain ⟨hq1, rfl⟩ := hq
      rw [πr (by omega)]
      refine hg_skip (by omega) (hg_in0 (by omega) ?_)
      rw [List.getElem?_replicate, if_pos (by omega)]
      refine congrArg some ?_
      rw [fR_eq]
      exact rn_rows (boolR_plain _ _)
end Go.Proofs.Yteoonedddgiacaa.Rec
