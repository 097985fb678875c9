/- Whether a list is a sequence, and its rank: both sides. -/
import Derived.Test.YthicnjgdngfbkaaSeqF
import Derived.Test.YthicnjgdngfbkaaSeqC
namespace Go.Proofs.Ythicnjgdngfbkaa.Rec
open Go Go.Proofs.Ythicnjgdngfbkaa.Ab Go.Proofs.Ythicnjgdngfbkaa.Il
attribute [local irreducible] wpO wpC wpDr wpQ wpG wpE stepA seqQ blkQ Ret RetG ev
set_option maxRecDepth 10000
set_option maxHeartbeats 8000000
set_option linter.unusedSimpArgs false
set_option linter.unusedVariables false

def ac53 : AC := (.seq (.reg [⟨(some 4), none, (.mv (.c (.bool false)))⟩]) (.seq (.reg [⟨(some 5), none, (.mv (.c (.int .i64 0)))⟩]) (.seq (.seq (.reg [⟨(some 9), none, (.mv (.t 1))⟩, ⟨(some 10), none, (.len (.t 9))⟩, ⟨(some 11), none, (.mv (.c (.int .i64 0)))⟩]) (.blk 0 (.loop (.seq (.reg [⟨(some 12), none, (.bin .lss (.t 11) (.t 10))⟩]) (.seq (.cond (.t 12) .skip (.exit 0)) (.seq (.blk 1 (.seq (.reg [⟨(some 13), none, (.ia 1 (.t 9) (.t 11))⟩, ⟨(some 14), none, (.ld false 1 (.t 13))⟩, ⟨(some 7), none, (.mv (.t 14))⟩]) (.seq (.reg [⟨(some 15), none, (.mv (.t 0))⟩, ⟨(some 16), none, (.nck (.t 15))⟩, ⟨(some 17), none, (.fa 0 (.t 16))⟩, ⟨(some 18), none, (.ld false 1 (.t 17))⟩, ⟨(some 19), none, (.nck (.t 18))⟩, ⟨(some 20), none, (.fa 0 (.t 19))⟩, ⟨(some 21), none, (.ld false 1 (.t 20))⟩, ⟨(some 22), none, (.mv (.t 7))⟩, ⟨(some 23), none, (.call 55 [(.t 21), (.t 22)])⟩, ⟨(some 8), none, (.mv (.t 23))⟩]) (.seq (.seq (.reg [⟨(some 24), none, (.mv (.t 8))⟩, ⟨(some 25), none, (.bin .lss (.t 24) (.c (.int .i64 0)))⟩, ⟨(some 26), none, (.mv (.t 25))⟩, ⟨(some 27), (some (26, false)), (.mv (.t 0))⟩, ⟨(some 28), (some (26, false)), (.nck (.t 27))⟩, ⟨(some 29), (some (26, false)), (.fa 0 (.t 28))⟩, ⟨(some 30), (some (26, false)), (.ld false 1 (.t 29))⟩, ⟨(some 31), (some (26, false)), (.mv (.t 5))⟩, ⟨(some 32), (some (26, false)), (.mv (.t 8))⟩, ⟨(some 33), (some (26, false)), (.call 51 [(.t 30), (.t 31), (.t 32)])⟩, ⟨(some 34), (some (26, false)), (.un .not (.t 33))⟩, ⟨(some 35), none, (.pick (.t 26) (.c (.bool true)) (.t 34))⟩]) (.cond (.t 35) (.seq (.reg [⟨(some 4), none, (.mv (.c (.bool false)))⟩]) .ret) .skip)) (.reg [⟨(some 36), none, (.mv (.t 5))⟩, ⟨(some 37), none, (.mv (.t 8))⟩, ⟨(some 38), none, (.bin .shl (.c (.int .i64 1)) (.t 37))⟩, ⟨(some 39), none, (.bin .or (.t 36) (.t 38))⟩, ⟨(some 5), none, (.mv (.t 39))⟩]))))) (.reg [⟨(some 40), none, (.bin .add (.t 11) (.c (.int .i64 1)))⟩, ⟨(some 11), none, (.mv (.t 40))⟩]))))))) (.seq (.reg [⟨(some 41), none, (.mv (.t 1))⟩, ⟨(some 42), none, (.len (.t 41))⟩, ⟨(some 43), none, (.mv (.t 0))⟩, ⟨(some 44), none, (.nck (.t 43))⟩, ⟨(some 45), none, (.fa 0 (.t 44))⟩, ⟨(some 46), none, (.ld false 1 (.t 45))⟩, ⟨(some 47), none, (.nck (.t 46))⟩, ⟨(some 48), none, (.fa 0 (.t 47))⟩, ⟨(some 49), none, (.ld false 1 (.t 48))⟩, ⟨(some 50), none, (.len (.t 49))⟩, ⟨(some 51), none, (.bin .eql (.t 42) (.t 50))⟩, ⟨(some 4), none, (.mv (.t 51))⟩]) .ret))))
def ro53 : List AOp := [(.mv (.t 4))]
theorem fun53 : Fun Try.prog 53 52 ac53 ro53 := ⟨Try.f53, _, Try.func53, by kernel_rfl, rfl, rfl, by kernel_rfl, by kernel_rfl, by decide⟩
def ac55 : AC := (.seq (.reg [⟨(some 4), none, (.mv (.c (.int .i64 0)))⟩]) (.seq (.seq (.reg [⟨(some 6), none, (.mv (.t 0))⟩, ⟨(some 7), none, (.len (.t 6))⟩, ⟨(some 8), none, (.mv (.c (.int .i64 0)))⟩]) (.blk 0 (.loop (.seq (.reg [⟨(some 9), none, (.bin .lss (.t 8) (.t 7))⟩]) (.seq (.cond (.t 9) .skip (.exit 0)) (.seq (.blk 1 (.seq (.reg [⟨(some 10), none, (.mv (.t 8))⟩, ⟨(some 5), none, (.mv (.t 10))⟩]) (.seq (.reg [⟨(some 11), none, (.mv (.t 1))⟩, ⟨(some 12), none, (.mv (.t 0))⟩, ⟨(some 13), none, (.mv (.t 5))⟩, ⟨(some 14), none, (.ia 1 (.t 12) (.t 13))⟩, ⟨(some 15), none, (.ld false 1 (.t 14))⟩, ⟨(some 16), none, (.bin .eql (.t 11) (.t 15))⟩]) (.cond (.t 16) (.seq (.reg [⟨(some 17), none, (.mv (.t 5))⟩, ⟨(some 4), none, (.mv (.t 17))⟩]) .ret) .skip)))) (.reg [⟨(some 18), none, (.bin .add (.t 8) (.c (.int .i64 1)))⟩, ⟨(some 8), none, (.mv (.t 18))⟩]))))))) (.seq (.reg [⟨(some 4), none, (.mv (.c (.int .i64 (-1))))⟩]) .ret)))
def ro55 : List AOp := [(.mv (.t 4))]
theorem fun55 : Fun Try.prog 55 19 ac55 ro55 := ⟨Try.f55, _, Try.func55, by kernel_rfl, rfl, rfl, by kernel_rfl, by kernel_rfl, by decide⟩

noncomputable def oC (r : Rc) : AV := ordC (nums r r.cs.length) (later r) (lk0 r r.xs.length) r.cs.length
noncomputable def cgC (r : Rc) : AV := .vp [oC r, .vw true ((befL r.cs.length (later r)).map iRow), .vw true ((cntL r.cs.length (later r)).map iRow)]
theorem dr_numC {H : Nat → Option Ab.Rows} {m : Nat} (ns : List Int) (n : Nat) : dr H (m + 1) (numC ns n) = numC ns n := by cases n <;> rfl
noncomputable def ixI (ns : List Int) (m : Int) : Int := ixN (fun j => ns.getD j default = m) ns.length
theorem con55 (nn : Bool) (ns : List Int) (m : Int) (h1 : ns.length ≤ 1048576) : Con Try.prog 55 true [.vw nn (ns.map iRow), .int .i64 m] (.int .i64 (ixI ns m)) [] := by
  refine con_of_wp mixed fun55 (by simp) [] plain_nil ?_
  unfold ac55 ro55
  simp only [zipT]
  repeat (first
    | refine wC_a rfl ?_
    | refine q_s rfl ?_
    | refine q_b rfl ?_
    | refine wG_nil ?_
    | refine wG_g rfl ?_
    | refine wG_pure (o_len_vwm rfl) ?_
    | refine wG_pure (o_not_d rfl) ?_
    | refine wG_p rfl (by first | exact rfl | omega) ?_
    | refine wG_pure (o_str2 rfl rfl rfl) ?_
    | refine wG_pure (e_istr rfl rfl (by omega)) ?_
    | refine wG_pure (e_istr0 rfl rfl (by omega)) ?_
    | refine wG_pure (o_not rfl) ?_
    | refine wG_pure (e_ia_vw0 rfl rfl (by omega) rfl) ?_
    | refine wG_pure (e_ia_vwp rfl rfl (by omega) rfl) ?_
    | refine wG_pure (e_ia_vwm rfl rfl (by omega) (by omega) rfl) ?_
    | refine wG_pure (e_ia_vwi rfl rfl (by omega) rfl) ?_
    | refine wG_pure (e_ia_vwn rfl rfl (by omega) (by omega) rfl) ?_
    | refine wG_n rfl rfl ?_
    | refine wG_u rfl rfl ?_
    | refine wG_new (o_mks rfl rfl (by omega) (by decide)) ?_)
  refine wC_loop Nat (fun i => ⟨[(0, .vw nn (ns.map iRow)), (1, .int .i64 m), (7, .int .i64 (ns.length : Int)), (8, .int .i64 (i : Int))], [], 0⟩) (fun i => i ≤ ns.length ∧ ∀ j, j < i → ¬ ns.getD j default = m) (fun i => ns.length - i) 0 ⟨Nat.zero_le _, fun j hj => absurd hj (Nat.not_lt_zero _)⟩ ?_ (fun _ _ => Nat.zero_le _) ?_
  · simp [LeP, leT, leH, lk, AV.ltr, ltrL, Ab.hg, upd, -List.getD_eq_getElem?_getD, -Int.default_eq_zero]
  rintro i ⟨hi, hok⟩
  by_cases hi2 : i < ns.length
  · repeat' (first | (first
    | refine wC_a rfl ?_
    | refine q_s rfl ?_
    | refine q_b rfl ?_
    | refine wG_nil ?_
    | refine wG_g rfl ?_
    | refine wG_pure (o_len_vwm rfl) ?_
    | refine wG_pure (o_not_d rfl) ?_
    | refine wG_p rfl (by first | exact rfl | omega) ?_
    | refine wG_pure (o_str2 rfl rfl rfl) ?_
    | refine wG_pure (e_istr rfl rfl (by omega)) ?_
    | refine wG_pure (e_istr0 rfl rfl (by omega)) ?_
    | refine wG_pure (o_not rfl) ?_
    | refine wG_pure (e_ia_vw0 rfl rfl (by omega) rfl) ?_
    | refine wG_pure (e_ia_vwp rfl rfl (by omega) rfl) ?_
    | refine wG_pure (e_ia_vwm rfl rfl (by omega) (by omega) rfl) ?_
    | refine wG_pure (e_ia_vwi rfl rfl (by omega) rfl) ?_
    | refine wG_pure (e_ia_vwn rfl rfl (by omega) (by omega) rfl) ?_
    | refine wG_n rfl rfl ?_
    | refine wG_u rfl rfl ?_
    | refine wG_new (o_mks rfl rfl (by omega) (by decide)) ?_) | (refine wG_gd rfl (fun hgt => ?_) (fun hgf => ?_) <;> (first | simp only [eq_true hgt, decide_true] | simp only [eq_false hgf, decide_false])) | refine wC_cond_d rfl (fun hg => ?_) (fun hg => ?_))
    all_goals (try (exfalso; omega))
    · refine ret_intE (.inr rfl) ⟨_, retV_mv rfl, ?_⟩
      exact (ixN_at hi2 (by first | assumption | exact Eq.symm (by assumption)) hok).symm
    · refine ⟨i + 1, ⟨by omega, fun j hj => ?_⟩, by omega, by simp [LeP, leT, leH, lk, AV.ltr, ltrL, Ab.hg, upd, -List.getD_eq_getElem?_getD, -Int.default_eq_zero]⟩
      rcases Nat.lt_or_ge j i with hji | hji
      · exact hok j hji
      · obtain rfl : j = i := by omega
        first | assumption | exact Ne.symm (by assumption)
  · have hi3 : i = ns.length := by omega
    subst hi3
    repeat' (first | (first
    | refine wC_a rfl ?_
    | refine q_s rfl ?_
    | refine q_b rfl ?_
    | refine wG_nil ?_
    | refine wG_g rfl ?_
    | refine wG_pure (o_len_vwm rfl) ?_
    | refine wG_pure (o_not_d rfl) ?_
    | refine wG_p rfl (by first | exact rfl | omega) ?_
    | refine wG_pure (o_str2 rfl rfl rfl) ?_
    | refine wG_pure (e_istr rfl rfl (by omega)) ?_
    | refine wG_pure (e_istr0 rfl rfl (by omega)) ?_
    | refine wG_pure (o_not rfl) ?_
    | refine wG_pure (e_ia_vw0 rfl rfl (by omega) rfl) ?_
    | refine wG_pure (e_ia_vwp rfl rfl (by omega) rfl) ?_
    | refine wG_pure (e_ia_vwm rfl rfl (by omega) (by omega) rfl) ?_
    | refine wG_pure (e_ia_vwi rfl rfl (by omega) rfl) ?_
    | refine wG_pure (e_ia_vwn rfl rfl (by omega) (by omega) rfl) ?_
    | refine wG_n rfl rfl ?_
    | refine wG_u rfl rfl ?_
    | refine wG_new (o_mks rfl rfl (by omega) (by decide)) ?_) | (refine wG_gd rfl (fun hgt => ?_) (fun hgf => ?_) <;> (first | simp only [eq_true hgt, decide_true] | simp only [eq_false hgf, decide_false])) | refine wC_cond_d rfl (fun hg => ?_) (fun hg => ?_))
    all_goals (try (exfalso; omega))
    exact ret_intE (.inr rfl) ⟨_, retV_mv rfl, (ixN_no hok).symm⟩
theorem ixI_nums (r : Rc) (m : Int) : ixI (nums r r.cs.length) m = idx r m := by
  have hl : (nums r r.cs.length).length = r.cs.length := nums_len (Nat.le_refl _)
  have hg : ∀ j, j < r.cs.length → (nums r r.cs.length).getD j default = (r.cs.getD j default).n := fun j hj => by
    simp [nums, List.getD_eq_getElem?_getD, List.getElem?_map, List.getElem?_eq_getElem hj]
  unfold ixI idx
  rw [hl]
  rcases ixN_p (fun j => (r.cs.getD j default).n = m) r.cs.length with ⟨h1, h2⟩ | ⟨k, h1, h2, h3, h4⟩
  · rw [h1]
    exact ixN_no fun j hj => by rw [hg j hj]; exact h2 j hj
  · rw [h1]
    exact ixN_at h2 (by rw [hg k h2]; exact h3) fun j hj => by rw [hg j (by omega)]; exact h4 j hj
theorem con55_num (r : Rc) (m : Int) (h10 : r.cs.length ≤ 10) : Con Try.prog 55 true [numC (nums r r.cs.length) r.cs.length, .int .i64 m] (.int .i64 (idx r m)) [] := by
  have hl : (nums r r.cs.length).length = r.cs.length := nums_len (Nat.le_refl _)
  have h := con55 true (nums r r.cs.length) m (by omega)
  rw [ixI_nums] at h
  cases hn : r.cs.length with
  | zero =>
    have h2 := con55 false [] m (by decide)
    have e : ixI [] m = idx r m := by
      rw [← ixI_nums]
      have : nums r r.cs.length = [] := List.eq_nil_of_length_eq_zero (by rw [hl, hn])
      rw [this]
    rw [e] at h2
    exact con_nil h2
  | succ n =>
    rw [← hn]
    show Con Try.prog _ _ [numC _ _, _] _ _
    rw [hn] at h ⊢
    exact h
open Classical in
theorem con53 (nn : Bool) (r : Rc) (ls : List Int) (h10 : r.cs.length ≤ 10) (h3 : ls.length ≤ 1048576) : Con Try.prog 53 true [cgC r, .vw nn (ls.map iRow)] (.bool (decide (isSeq r ls))) [] := by
  refine con_of_wp mixed fun53 (by simp) [] plain_nil ?_
  unfold ac53 ro53
  simp only [zipT]
  have hnl : (nums r r.cs.length).length = r.cs.length := nums_len (Nat.le_refl _)
  have cI := fun m => con55_num r m h10
  repeat (first
    | refine wC_a rfl ?_
    | refine q_s rfl ?_
    | refine q_b rfl ?_
    | refine wG_nil ?_
    | refine wG_g rfl ?_
    | refine wG_pure (o_len_vwm rfl) ?_
    | refine wG_pure (o_not_d rfl) ?_
    | refine wG_p rfl (by first | exact rfl | omega) ?_
    | refine wG_pure (o_str2 rfl rfl rfl) ?_
    | refine wG_pure (e_istr rfl rfl (by omega)) ?_
    | refine wG_pure (e_istr0 rfl rfl (by omega)) ?_
    | refine wG_pure (o_not rfl) ?_
    | refine wG_pure (e_ia_vw0 rfl rfl (by omega) rfl) ?_
    | refine wG_pure (e_ia_vwp rfl rfl (by omega) rfl) ?_
    | refine wG_pure (e_ia_vwm rfl rfl (by omega) (by omega) rfl) ?_
    | refine wG_pure (e_ia_vwi rfl rfl (by omega) rfl) ?_
    | refine wG_pure (e_ia_vwn rfl rfl (by omega) (by omega) rfl) ?_
    | refine wG_n rfl rfl ?_
    | refine wG_u rfl rfl ?_
    | refine wG_new (o_mks rfl rfl (by omega) (by decide)) ?_)
  refine wC_loop Nat (fun q => ⟨[(0, cgC r), (1, .vw nn (ls.map iRow)), (5, .int .i64 ((sqS r ls q : Nat) : Int)), (9, .vw nn (ls.map iRow)), (10, .int .i64 (ls.length : Int)), (11, .int .i64 (q : Int))], [], 0⟩) (fun q => q ≤ ls.length ∧ ∀ j, j < q → okQ r ls j) (fun q => ls.length - q) 0 ⟨Nat.zero_le _, fun j hj => absurd hj (Nat.not_lt_zero _)⟩ ?_ (fun _ _ => Nat.zero_le _) ?_
  · exact ⟨⟨⟨rfl, rfl⟩, ⟨rfl, rfl⟩, ⟨rfl, rfl⟩, ⟨rfl, rfl⟩, ⟨rfl, rfl⟩, ⟨rfl, rfl⟩, trivial⟩, trivial⟩
  rintro q ⟨hq, hok⟩
  repeat (first
    | refine wC_a rfl ?_
    | refine q_s rfl ?_
    | refine q_b rfl ?_
    | refine wG_nil ?_
    | refine wG_g rfl ?_
    | refine wG_pure (o_len_vwm rfl) ?_
    | refine wG_pure (o_not_d rfl) ?_
    | refine wG_p rfl (by first | exact rfl | omega) ?_
    | refine wG_pure (o_str2 rfl rfl rfl) ?_
    | refine wG_pure (e_istr rfl rfl (by omega)) ?_
    | refine wG_pure (e_istr0 rfl rfl (by omega)) ?_
    | refine wG_pure (o_not rfl) ?_
    | refine wG_pure (e_ia_vw0 rfl rfl (by omega) rfl) ?_
    | refine wG_pure (e_ia_vwp rfl rfl (by omega) rfl) ?_
    | refine wG_pure (e_ia_vwm rfl rfl (by omega) (by omega) rfl) ?_
    | refine wG_pure (e_ia_vwi rfl rfl (by omega) rfl) ?_
    | refine wG_pure (e_ia_vwn rfl rfl (by omega) (by omega) rfl) ?_
    | refine wG_n rfl rfl ?_
    | refine wG_u rfl rfl ?_
    | refine wG_new (o_mks rfl rfl (by omega) (by decide)) ?_)
  refine wC_cond_d rfl (fun h4 => ?_) (fun h4 => ?_)
  · have hq2 : q < ls.length := by omega
    have cq := cI (ls.getD q default)
    have bq := idx_b r (ls.getD q default)
    have hS := sqS_lt q hok
    have hS2 := lt10 h10 hS
    by_cases hi : 0 ≤ idx r (ls.getD q default)
    · obtain ⟨k, hk⟩ : ∃ k : Nat, idx r (ls.getD q default) = k := ⟨_, (Int.toNat_of_nonneg hi).symm⟩
      have hsk : sqI r ls q = k := by unfold sqI; rw [hk]; rfl
      rw [hk] at cq bq
      have hk2 : k < r.cs.length := by omega
      have cF := con51 (nums r r.cs.length) (later r) (lk0 r r.xs.length) hnl h10 hS2 hk2
      have hd : decide ((k : Int) < 0) = false := decide_eq_false (by omega)
      have hp := p10 hk2 h10
      by_cases hr : rdy r.cs.length (later r) (sqS r ls q) k
      · rw [decide_eq_true hr] at cF
        repeat (first | refine wG_call cq (ag_any (dr_numC _ _) (ag_int rfl ag_nil)) rfl ?_ | (first
    | refine wC_a rfl ?_
    | refine q_s rfl ?_
    | refine q_b rfl ?_
    | refine wG_nil ?_
    | refine wG_g rfl ?_
    | refine wG_pure (o_len_vwm rfl) ?_
    | refine wG_pure (o_not_d rfl) ?_
    | refine wG_p rfl (by first | exact rfl | omega) ?_
    | refine wG_pure (o_str2 rfl rfl rfl) ?_
    | refine wG_pure (e_istr rfl rfl (by omega)) ?_
    | refine wG_pure (e_istr0 rfl rfl (by omega)) ?_
    | refine wG_pure (o_not rfl) ?_
    | refine wG_pure (e_ia_vw0 rfl rfl (by omega) rfl) ?_
    | refine wG_pure (e_ia_vwp rfl rfl (by omega) rfl) ?_
    | refine wG_pure (e_ia_vwm rfl rfl (by omega) (by omega) rfl) ?_
    | refine wG_pure (e_ia_vwi rfl rfl (by omega) rfl) ?_
    | refine wG_pure (e_ia_vwn rfl rfl (by omega) (by omega) rfl) ?_
    | refine wG_n rfl rfl ?_
    | refine wG_u rfl rfl ?_
    | refine wG_new (o_mks rfl rfl (by omega) (by decide)) ?_))
        simp only [hd]
        repeat (first | refine wG_call cF rfl rfl ?_ | refine wG_pure (o_shl1 rfl rfl (by omega)) ?_ | refine wG_pure (o_or rfl rfl (by omega) (by omega)) ?_ | (first
    | refine wC_a rfl ?_
    | refine q_s rfl ?_
    | refine q_b rfl ?_
    | refine wG_nil ?_
    | refine wG_g rfl ?_
    | refine wG_pure (o_len_vwm rfl) ?_
    | refine wG_pure (o_not_d rfl) ?_
    | refine wG_p rfl (by first | exact rfl | omega) ?_
    | refine wG_pure (o_str2 rfl rfl rfl) ?_
    | refine wG_pure (e_istr rfl rfl (by omega)) ?_
    | refine wG_pure (e_istr0 rfl rfl (by omega)) ?_
    | refine wG_pure (o_not rfl) ?_
    | refine wG_pure (e_ia_vw0 rfl rfl (by omega) rfl) ?_
    | refine wG_pure (e_ia_vwp rfl rfl (by omega) rfl) ?_
    | refine wG_pure (e_ia_vwm rfl rfl (by omega) (by omega) rfl) ?_
    | refine wG_pure (e_ia_vwi rfl rfl (by omega) rfl) ?_
    | refine wG_pure (e_ia_vwn rfl rfl (by omega) (by omega) rfl) ?_
    | refine wG_n rfl rfl ?_
    | refine wG_u rfl rfl ?_
    | refine wG_new (o_mks rfl rfl (by omega) (by decide)) ?_))
        have hokq : okQ r ls q := ⟨hi, by rw [hsk]; exact hr⟩
        refine ⟨q + 1, ⟨by omega, lt_up' hok hokq⟩, by omega, ⟨⟨rfl, rfl⟩, ⟨rfl, rfl⟩, ⟨?_, rfl⟩, ⟨rfl, rfl⟩, ⟨rfl, rfl⟩, ⟨rfl, rfl⟩, trivial⟩, trivial⟩
        rw [sqS, hsk]; rfl
      · rw [decide_eq_false hr] at cF
        repeat (first | refine wG_call cq (ag_any (dr_numC _ _) (ag_int rfl ag_nil)) rfl ?_ | (first
    | refine wC_a rfl ?_
    | refine q_s rfl ?_
    | refine q_b rfl ?_
    | refine wG_nil ?_
    | refine wG_g rfl ?_
    | refine wG_pure (o_len_vwm rfl) ?_
    | refine wG_pure (o_not_d rfl) ?_
    | refine wG_p rfl (by first | exact rfl | omega) ?_
    | refine wG_pure (o_str2 rfl rfl rfl) ?_
    | refine wG_pure (e_istr rfl rfl (by omega)) ?_
    | refine wG_pure (e_istr0 rfl rfl (by omega)) ?_
    | refine wG_pure (o_not rfl) ?_
    | refine wG_pure (e_ia_vw0 rfl rfl (by omega) rfl) ?_
    | refine wG_pure (e_ia_vwp rfl rfl (by omega) rfl) ?_
    | refine wG_pure (e_ia_vwm rfl rfl (by omega) (by omega) rfl) ?_
    | refine wG_pure (e_ia_vwi rfl rfl (by omega) rfl) ?_
    | refine wG_pure (e_ia_vwn rfl rfl (by omega) (by omega) rfl) ?_
    | refine wG_n rfl rfl ?_
    | refine wG_u rfl rfl ?_
    | refine wG_new (o_mks rfl rfl (by omega) (by decide)) ?_))
        simp only [hd]
        repeat (first | refine wG_call cF rfl rfl ?_ | (first
    | refine wC_a rfl ?_
    | refine q_s rfl ?_
    | refine q_b rfl ?_
    | refine wG_nil ?_
    | refine wG_g rfl ?_
    | refine wG_pure (o_len_vwm rfl) ?_
    | refine wG_pure (o_not_d rfl) ?_
    | refine wG_p rfl (by first | exact rfl | omega) ?_
    | refine wG_pure (o_str2 rfl rfl rfl) ?_
    | refine wG_pure (e_istr rfl rfl (by omega)) ?_
    | refine wG_pure (e_istr0 rfl rfl (by omega)) ?_
    | refine wG_pure (o_not rfl) ?_
    | refine wG_pure (e_ia_vw0 rfl rfl (by omega) rfl) ?_
    | refine wG_pure (e_ia_vwp rfl rfl (by omega) rfl) ?_
    | refine wG_pure (e_ia_vwm rfl rfl (by omega) (by omega) rfl) ?_
    | refine wG_pure (e_ia_vwi rfl rfl (by omega) rfl) ?_
    | refine wG_pure (e_ia_vwn rfl rfl (by omega) (by omega) rfl) ?_
    | refine wG_n rfl rfl ?_
    | refine wG_u rfl rfl ?_
    | refine wG_new (o_mks rfl rfl (by omega) (by decide)) ?_))
        refine ret_boolE (.inr rfl) ⟨_, retV_mv rfl, (decide_eq_false fun h => hr ?_).symm⟩
        have := (h.1 q hq2).2
        rwa [hsk] at this
    · have hd : decide (idx r (ls.getD q default) < 0) = true := decide_eq_true (by omega)
      repeat (first | refine wG_call cq (ag_any (dr_numC _ _) (ag_int rfl ag_nil)) rfl ?_ | (first
    | refine wC_a rfl ?_
    | refine q_s rfl ?_
    | refine q_b rfl ?_
    | refine wG_nil ?_
    | refine wG_g rfl ?_
    | refine wG_pure (o_len_vwm rfl) ?_
    | refine wG_pure (o_not_d rfl) ?_
    | refine wG_p rfl (by first | exact rfl | omega) ?_
    | refine wG_pure (o_str2 rfl rfl rfl) ?_
    | refine wG_pure (e_istr rfl rfl (by omega)) ?_
    | refine wG_pure (e_istr0 rfl rfl (by omega)) ?_
    | refine wG_pure (o_not rfl) ?_
    | refine wG_pure (e_ia_vw0 rfl rfl (by omega) rfl) ?_
    | refine wG_pure (e_ia_vwp rfl rfl (by omega) rfl) ?_
    | refine wG_pure (e_ia_vwm rfl rfl (by omega) (by omega) rfl) ?_
    | refine wG_pure (e_ia_vwi rfl rfl (by omega) rfl) ?_
    | refine wG_pure (e_ia_vwn rfl rfl (by omega) (by omega) rfl) ?_
    | refine wG_n rfl rfl ?_
    | refine wG_u rfl rfl ?_
    | refine wG_new (o_mks rfl rfl (by omega) (by decide)) ?_))
      simp only [hd]
      repeat (first
    | refine wC_a rfl ?_
    | refine q_s rfl ?_
    | refine q_b rfl ?_
    | refine wG_nil ?_
    | refine wG_g rfl ?_
    | refine wG_pure (o_len_vwm rfl) ?_
    | refine wG_pure (o_not_d rfl) ?_
    | refine wG_p rfl (by first | exact rfl | omega) ?_
    | refine wG_pure (o_str2 rfl rfl rfl) ?_
    | refine wG_pure (e_istr rfl rfl (by omega)) ?_
    | refine wG_pure (e_istr0 rfl rfl (by omega)) ?_
    | refine wG_pure (o_not rfl) ?_
    | refine wG_pure (e_ia_vw0 rfl rfl (by omega) rfl) ?_
    | refine wG_pure (e_ia_vwp rfl rfl (by omega) rfl) ?_
    | refine wG_pure (e_ia_vwm rfl rfl (by omega) (by omega) rfl) ?_
    | refine wG_pure (e_ia_vwi rfl rfl (by omega) rfl) ?_
    | refine wG_pure (e_ia_vwn rfl rfl (by omega) (by omega) rfl) ?_
    | refine wG_n rfl rfl ?_
    | refine wG_u rfl rfl ?_
    | refine wG_new (o_mks rfl rfl (by omega) (by decide)) ?_)
      exact ret_boolE (.inr rfl) ⟨_, retV_mv rfl, (decide_eq_false fun h => hi (h.1 q hq2).1).symm⟩
  · have hq3 : q = ls.length := by omega
    subst hq3
    repeat (first | refine wG_pure (hlenC hnl _ _ _ _ rfl) ?_ | (first
    | refine wC_a rfl ?_
    | refine q_s rfl ?_
    | refine q_b rfl ?_
    | refine wG_nil ?_
    | refine wG_g rfl ?_
    | refine wG_pure (o_len_vwm rfl) ?_
    | refine wG_pure (o_not_d rfl) ?_
    | refine wG_p rfl (by first | exact rfl | omega) ?_
    | refine wG_pure (o_str2 rfl rfl rfl) ?_
    | refine wG_pure (e_istr rfl rfl (by omega)) ?_
    | refine wG_pure (e_istr0 rfl rfl (by omega)) ?_
    | refine wG_pure (o_not rfl) ?_
    | refine wG_pure (e_ia_vw0 rfl rfl (by omega) rfl) ?_
    | refine wG_pure (e_ia_vwp rfl rfl (by omega) rfl) ?_
    | refine wG_pure (e_ia_vwm rfl rfl (by omega) (by omega) rfl) ?_
    | refine wG_pure (e_ia_vwi rfl rfl (by omega) rfl) ?_
    | refine wG_pure (e_ia_vwn rfl rfl (by omega) (by omega) rfl) ?_
    | refine wG_n rfl rfl ?_
    | refine wG_u rfl rfl ?_
    | refine wG_new (o_mks rfl rfl (by omega) (by decide)) ?_))
    refine ret_boolE (.inr rfl) ⟨_, retV_mv rfl, decide_eq_decide.2 ?_⟩
    constructor
    · intro h; exact ⟨hok, by omega⟩
    · intro h; have := h.2; omega
end Go.Proofs.Ythicnjgdngfbkaa.Rec
