/- 'laws.FnExactWigglePlacement' returns true for every input: both sides agree, nothing is shared, and the input reads behind the call as it read before. No condition. -/
import Derived.Test.YtkkcplcgafndgaaIvcD
import Derived.Test.YtkkcplcgafndgaaIntA
import Derived.Test.YtkkcplcgafndgaaAb1
import Derived.Test.YtkkcplcgafndgaaMsrB
import Derived.Test.YtkkcplcgafndgaaWigD
import Derived.Test.YtkkcplcgafndgaaRows
import Derived.ProofKit
import Derived.OpenShut
import Derived.ChangeOld
import Derived.SizedLaws
namespace Go.Proofs.Ytkkcplcgafndgaa.Cvm
open Go Go.Proofs.Ytkkcplcgafndgaa Go.Proofs.Ytkkcplcgafndgaa.Ab Go.Proofs.Ytkkcplcgafndgaa.Il
attribute [local irreducible] wpO wpC wpDr wpQ wpG wpE stepA seqQ blkQ Ret ev
set_option maxRecDepth 10000
set_option maxHeartbeats 4000000
set_option linter.unusedSimpArgs false
set_option linter.unusedVariables false
def ac20 : AC := (.seq (.reg [⟨(some 4), none, (.mv (.c (.int .i64 0)))⟩]) (.seq (.seq (.reg [⟨(some 5), none, (.mv (.c (.int .i64 0)))⟩]) (.blk 0 (.loop (.seq (.seq (.reg [⟨(some 6), none, (.mv (.t 5))⟩, ⟨(some 7), none, (.mv (.t 0))⟩, ⟨(some 8), none, (.len (.t 7))⟩, ⟨(some 9), none, (.bin .lss (.t 6) (.t 8))⟩]) (.cond (.t 9) .skip (.exit 0))) (.seq (.blk 1 (.seq (.reg [⟨(some 12), none, (.mv (.t 0))⟩, ⟨(some 13), none, (.mv (.t 5))⟩, ⟨(some 14), none, (.mv (.t 1))⟩, ⟨(some 15), none, (.ia 3 (.t 12) (.t 13))⟩, ⟨(some 16), none, (.fa 0 (.t 15))⟩, ⟨none, none, (.st 1 (.t 16) (.t 14))⟩]) (.seq (.reg [⟨(some 17), none, (.mv (.t 1))⟩, ⟨(some 18), none, (.bin .add (.t 17) (.c (.int .i64 1)))⟩, ⟨(some 1), none, (.mv (.t 18))⟩]) (.seq (.reg [⟨(some 19), none, (.mv (.t 0))⟩, ⟨(some 20), none, (.mv (.t 5))⟩, ⟨(some 21), none, (.mv (.t 1))⟩, ⟨(some 22), none, (.ia 3 (.t 19) (.t 20))⟩, ⟨(some 23), none, (.fa 1 (.t 22))⟩, ⟨none, none, (.st 1 (.t 23) (.t 21))⟩]) (.seq (.reg [⟨(some 24), none, (.mv (.t 1))⟩, ⟨(some 25), none, (.bin .add (.t 24) (.c (.int .i64 1)))⟩, ⟨(some 1), none, (.mv (.t 25))⟩]) (.seq (.reg [⟨(some 26), none, (.mv (.t 0))⟩, ⟨(some 27), none, (.mv (.t 5))⟩, ⟨(some 28), none, (.mv (.t 1))⟩, ⟨(some 29), none, (.ia 3 (.t 26) (.t 27))⟩, ⟨(some 30), none, (.fa 2 (.t 29))⟩, ⟨none, none, (.st 1 (.t 30) (.t 28))⟩]) (.reg [⟨(some 31), none, (.mv (.t 1))⟩, ⟨(some 32), none, (.bin .add (.t 31) (.c (.int .i64 1)))⟩, ⟨(some 1), none, (.mv (.t 32))⟩]))))))) (.reg [⟨(some 10), none, (.mv (.t 5))⟩, ⟨(some 11), none, (.bin .add (.t 10) (.c (.int .i64 1)))⟩, ⟨(some 5), none, (.mv (.t 11))⟩])))))) (.seq (.reg [⟨(some 33), none, (.mv (.t 1))⟩, ⟨(some 4), none, (.mv (.t 33))⟩]) .ret)))
def ro20 : List AOp := [(.mv (.t 4))]
theorem fun20 : Fun Try.prog 20 34 ac20 ro20 := ⟨Try.f20, _, Try.func20, by kernel_rfl, rfl, rfl, by kernel_rfl, by kernel_rfl, by decide⟩

theorem cpP (xs : List CP) : ∀ row ∈ xs.map cpRow, ∀ v ∈ row, AV.plain v = true := by
  intro row hr x hx
  obtain ⟨p, _, rfl⟩ := List.mem_map.1 hr
  exact cp_plain p x hx
theorem ltrC (xs : List CP) (m : Nat) : ∀ row ∈ xs.map cpRow, ∀ x ∈ row, AV.ltr m x = true := rows_ltr _ m (cpP xs)
theorem eqC_same (nn mm : Bool) (xs : List CP) (h1 : xs.length ≤ 1048576) : Con Try.prog 19 true [.vw nn (xs.map cpRow), .vw mm (xs.map cpRow)] (.bool true) [] := by
  have := con19 nn mm xs xs h1 h1
  rwa [decide_eq_true (by exact ⟨rfl, fun _ _ => ⟨rfl, rfl, rfl⟩⟩)] at this

def mkC (k : Int) (n : Nat) : List CP := (List.range n).map fun i : Nat => ⟨k + 3 * (i : Int), k + 3 * (i : Int) + 1, k + 3 * (i : Int) + 2⟩
theorem mkC_len (k : Int) (n : Nat) : (mkC k n).length = n := by simp [mkC]
theorem mkC_get (k : Int) (n i : Nat) (h : i < n) : (mkC k n).getD i default = ⟨k + 3 * (i : Int), k + 3 * (i : Int) + 1, k + 3 * (i : Int) + 2⟩ := by
  simp [mkC, List.getD_eq_getElem?_getD, List.getElem?_eq_getElem, h]
def mkdC (xs : List CP) (k : Int) (i : Nat) : List CP := mkC k i ++ xs.drop i
theorem mkdC_len (xs : List CP) (k : Int) (i : Nat) (h : i ≤ xs.length) : (mkdC xs k i).length = xs.length := by simp [mkdC, mkC_len]; omega
theorem mkdC_end (xs : List CP) (k : Int) : mkdC xs k xs.length = mkC k xs.length := by simp [mkdC]
theorem mkdC_set (xs : List CP) (k : Int) (i : Nat) (h : i < xs.length) : (mkdC xs k i).set i ⟨k + 3 * (i : Int), k + 3 * (i : Int) + 1, k + 3 * (i : Int) + 2⟩ = mkdC xs k (i + 1) := by
  unfold mkdC
  rw [List.set_append_right _ _ (by rw [mkC_len]; omega), mkC_len, Nat.sub_self, List.drop_eq_getElem_cons h, List.set_cons_zero]
  have : mkC k (i + 1) = mkC k i ++ [⟨k + 3 * (i : Int), k + 3 * (i : Int) + 1, k + 3 * (i : Int) + 2⟩] := by simp [mkC, List.range_succ]
  rw [this, List.append_assoc]
  rfl
theorem sh20 (xs : List CP) (k : Int) (hn : xs.length ≤ 4294967296) (h0 : 0 ≤ k) (h1 : k ≤ 4294967296) {h : List (Nat × Option Ab.Rows)} {nr r : Nat} (hr : hg h r = some (xs.map cpRow)) (hw : wfH h nr) :
    Sh Try.prog 20 [.sl r 3 0 xs.length, .int .i64 k] h nr (.int .i64 (k + 3 * xs.length)) ((r, some ((mkC k xs.length).map cpRow)) :: h) nr := by
  refine sh_of_wp mixed fun20 (by simp) ?_
  unfold ac20 ro20
  simp only [zipT]
  have hrn := (hw r _ hr).1
  repeat (first
    | refine wC_a rfl ?_
    | refine q_s rfl ?_
    | refine q_b rfl ?_
    | refine wG_nil ?_
    | refine wG_g rfl ?_
    | refine wG_pure (o_len_vwm rfl) ?_
    | refine wG_pure (o_not_d rfl) ?_
    | refine wG_p rfl (by first | exact rfl | omega) ?_
    | refine wG_pure (o_not rfl) ?_
    | refine wG_pure (e_ia_vw0 rfl rfl (by omega) rfl) ?_
    | refine wG_pure (e_ia_vwp rfl rfl (by omega) rfl) ?_
    | refine wG_pure (e_ia_vwm rfl rfl (by omega) (by omega) rfl) ?_
    | refine wG_pure (e_ia_vwi rfl rfl (by omega) rfl) ?_
    | refine wG_pure (e_ia_vwn rfl rfl (by omega) (by omega) rfl) ?_
    | refine wG_n rfl rfl ?_
    | refine wG_u rfl rfl ?_
    | refine wG_new (o_mks rfl rfl (by omega) (by decide)) ?_)
  refine wC_loopS Nat (fun i => ⟨[(0, .sl r 3 0 xs.length), (1, .int .i64 (k + 3 * i)), (5, .int .i64 (i : Int))], (r, some ((mkdC xs k i).map cpRow)) :: h, nr⟩) (fun i => i ≤ xs.length) (fun i => xs.length - i) 0 (Nat.zero_le _) ?_ (fun _ _ => Nat.le_refl _) ?_
  · refine Le_of (by simp [leT, lk, AV.ltr, hrn]) (fun q rows hq => ?_) (wfH_cons hrn (ltrC _ _) hw)
    simp only [Ab.hg, upd] at hq ⊢
    split at hq
    · rename_i e; subst e; cases hq; simpa [mkdC, mkC, Ab.hg] using hr
    · exact hq
  intro i hi
  have hml := mkdC_len xs k i hi
  repeat (first
    | refine wC_a rfl ?_
    | refine q_s rfl ?_
    | refine q_b rfl ?_
    | refine wG_nil ?_
    | refine wG_g rfl ?_
    | refine wG_pure (o_len_vwm rfl) ?_
    | refine wG_pure (o_not_d rfl) ?_
    | refine wG_p rfl (by first | exact rfl | omega) ?_
    | refine wG_pure (o_not rfl) ?_
    | refine wG_pure (e_ia_vw0 rfl rfl (by omega) rfl) ?_
    | refine wG_pure (e_ia_vwp rfl rfl (by omega) rfl) ?_
    | refine wG_pure (e_ia_vwm rfl rfl (by omega) (by omega) rfl) ?_
    | refine wG_pure (e_ia_vwi rfl rfl (by omega) rfl) ?_
    | refine wG_pure (e_ia_vwn rfl rfl (by omega) (by omega) rfl) ?_
    | refine wG_n rfl rfl ?_
    | refine wG_u rfl rfl ?_
    | refine wG_new (o_mks rfl rfl (by omega) (by decide)) ?_)
  refine wC_cond_d rfl (fun h2 => ?_) (fun h2 => ?_)
  · have hi2 : i < xs.length := by omega
    have e0 : 0 + ((i : Int)).toNat = i := by simp
    have hge : ((mkdC xs k i).map cpRow)[i]? = some (cpRow ((mkdC xs k i).getD i default)) := by
      simp [List.getElem?_map, List.getElem?_eq_getElem (show i < (mkdC xs k i).length by omega), List.getD_eq_getElem?_getD]
    have hgs : ∀ (rw : List AV) (rows : List (List AV)), rows.length = xs.length → (rows.set i rw)[i]? = some rw := by
      intro rw rows hl
      rw [List.getElem?_set_self (by omega)]
    repeat (first
    | refine wC_a rfl ?_
    | refine q_s rfl ?_
    | refine q_b rfl ?_
    | refine wG_nil ?_
    | refine wG_g rfl ?_
    | refine wG_pure (o_len_vwm rfl) ?_
    | refine wG_pure (o_not_d rfl) ?_
    | refine wG_p rfl (by first | exact rfl | omega) ?_
    | refine wG_pure (o_not rfl) ?_
    | refine wG_pure (e_ia_vw0 rfl rfl (by omega) rfl) ?_
    | refine wG_pure (e_ia_vwp rfl rfl (by omega) rfl) ?_
    | refine wG_pure (e_ia_vwm rfl rfl (by omega) (by omega) rfl) ?_
    | refine wG_pure (e_ia_vwi rfl rfl (by omega) rfl) ?_
    | refine wG_pure (e_ia_vwn rfl rfl (by omega) (by omega) rfl) ?_
    | refine wG_n rfl rfl ?_
    | refine wG_u rfl rfl ?_
    | refine wG_new (o_mks rfl rfl (by omega) (by decide)) ?_)
    refine wG_pure (e_ia_sl rfl rfl (by omega) (by omega)) ?_
    simp only [e0]
    repeat (first
    | refine wC_a rfl ?_
    | refine q_s rfl ?_
    | refine q_b rfl ?_
    | refine wG_nil ?_
    | refine wG_g rfl ?_
    | refine wG_pure (o_len_vwm rfl) ?_
    | refine wG_pure (o_not_d rfl) ?_
    | refine wG_p rfl (by first | exact rfl | omega) ?_
    | refine wG_pure (o_not rfl) ?_
    | refine wG_pure (e_ia_vw0 rfl rfl (by omega) rfl) ?_
    | refine wG_pure (e_ia_vwp rfl rfl (by omega) rfl) ?_
    | refine wG_pure (e_ia_vwm rfl rfl (by omega) (by omega) rfl) ?_
    | refine wG_pure (e_ia_vwi rfl rfl (by omega) rfl) ?_
    | refine wG_pure (e_ia_vwn rfl rfl (by omega) (by omega) rfl) ?_
    | refine wG_n rfl rfl ?_
    | refine wG_u rfl rfl ?_
    | refine wG_new (o_mks rfl rfl (by omega) (by decide)) ?_)
    refine wG_upd (o_st_int rfl hg_here hge rfl rfl rfl) ?_
    repeat (first
    | refine wC_a rfl ?_
    | refine q_s rfl ?_
    | refine q_b rfl ?_
    | refine wG_nil ?_
    | refine wG_g rfl ?_
    | refine wG_pure (o_len_vwm rfl) ?_
    | refine wG_pure (o_not_d rfl) ?_
    | refine wG_p rfl (by first | exact rfl | omega) ?_
    | refine wG_pure (o_not rfl) ?_
    | refine wG_pure (e_ia_vw0 rfl rfl (by omega) rfl) ?_
    | refine wG_pure (e_ia_vwp rfl rfl (by omega) rfl) ?_
    | refine wG_pure (e_ia_vwm rfl rfl (by omega) (by omega) rfl) ?_
    | refine wG_pure (e_ia_vwi rfl rfl (by omega) rfl) ?_
    | refine wG_pure (e_ia_vwn rfl rfl (by omega) (by omega) rfl) ?_
    | refine wG_n rfl rfl ?_
    | refine wG_u rfl rfl ?_
    | refine wG_new (o_mks rfl rfl (by omega) (by decide)) ?_)
    refine wG_pure (e_ia_sl rfl rfl (by omega) (by omega)) ?_
    simp only [e0]
    repeat (first
    | refine wC_a rfl ?_
    | refine q_s rfl ?_
    | refine q_b rfl ?_
    | refine wG_nil ?_
    | refine wG_g rfl ?_
    | refine wG_pure (o_len_vwm rfl) ?_
    | refine wG_pure (o_not_d rfl) ?_
    | refine wG_p rfl (by first | exact rfl | omega) ?_
    | refine wG_pure (o_not rfl) ?_
    | refine wG_pure (e_ia_vw0 rfl rfl (by omega) rfl) ?_
    | refine wG_pure (e_ia_vwp rfl rfl (by omega) rfl) ?_
    | refine wG_pure (e_ia_vwm rfl rfl (by omega) (by omega) rfl) ?_
    | refine wG_pure (e_ia_vwi rfl rfl (by omega) rfl) ?_
    | refine wG_pure (e_ia_vwn rfl rfl (by omega) (by omega) rfl) ?_
    | refine wG_n rfl rfl ?_
    | refine wG_u rfl rfl ?_
    | refine wG_new (o_mks rfl rfl (by omega) (by decide)) ?_)
    refine wG_upd (o_st_int rfl hg_here (hgs _ _ (by rw [List.length_map, hml])) rfl rfl rfl) ?_
    repeat (first
    | refine wC_a rfl ?_
    | refine q_s rfl ?_
    | refine q_b rfl ?_
    | refine wG_nil ?_
    | refine wG_g rfl ?_
    | refine wG_pure (o_len_vwm rfl) ?_
    | refine wG_pure (o_not_d rfl) ?_
    | refine wG_p rfl (by first | exact rfl | omega) ?_
    | refine wG_pure (o_not rfl) ?_
    | refine wG_pure (e_ia_vw0 rfl rfl (by omega) rfl) ?_
    | refine wG_pure (e_ia_vwp rfl rfl (by omega) rfl) ?_
    | refine wG_pure (e_ia_vwm rfl rfl (by omega) (by omega) rfl) ?_
    | refine wG_pure (e_ia_vwi rfl rfl (by omega) rfl) ?_
    | refine wG_pure (e_ia_vwn rfl rfl (by omega) (by omega) rfl) ?_
    | refine wG_n rfl rfl ?_
    | refine wG_u rfl rfl ?_
    | refine wG_new (o_mks rfl rfl (by omega) (by decide)) ?_)
    refine wG_pure (e_ia_sl rfl rfl (by omega) (by omega)) ?_
    simp only [e0]
    repeat (first
    | refine wC_a rfl ?_
    | refine q_s rfl ?_
    | refine q_b rfl ?_
    | refine wG_nil ?_
    | refine wG_g rfl ?_
    | refine wG_pure (o_len_vwm rfl) ?_
    | refine wG_pure (o_not_d rfl) ?_
    | refine wG_p rfl (by first | exact rfl | omega) ?_
    | refine wG_pure (o_not rfl) ?_
    | refine wG_pure (e_ia_vw0 rfl rfl (by omega) rfl) ?_
    | refine wG_pure (e_ia_vwp rfl rfl (by omega) rfl) ?_
    | refine wG_pure (e_ia_vwm rfl rfl (by omega) (by omega) rfl) ?_
    | refine wG_pure (e_ia_vwi rfl rfl (by omega) rfl) ?_
    | refine wG_pure (e_ia_vwn rfl rfl (by omega) (by omega) rfl) ?_
    | refine wG_n rfl rfl ?_
    | refine wG_u rfl rfl ?_
    | refine wG_new (o_mks rfl rfl (by omega) (by decide)) ?_)
    refine wG_upd (o_st_int rfl hg_here (hgs _ _ (by rw [List.length_set, List.length_map, hml])) rfl rfl rfl) ?_
    repeat (first
    | refine wC_a rfl ?_
    | refine q_s rfl ?_
    | refine q_b rfl ?_
    | refine wG_nil ?_
    | refine wG_g rfl ?_
    | refine wG_pure (o_len_vwm rfl) ?_
    | refine wG_pure (o_not_d rfl) ?_
    | refine wG_p rfl (by first | exact rfl | omega) ?_
    | refine wG_pure (o_not rfl) ?_
    | refine wG_pure (e_ia_vw0 rfl rfl (by omega) rfl) ?_
    | refine wG_pure (e_ia_vwp rfl rfl (by omega) rfl) ?_
    | refine wG_pure (e_ia_vwm rfl rfl (by omega) (by omega) rfl) ?_
    | refine wG_pure (e_ia_vwi rfl rfl (by omega) rfl) ?_
    | refine wG_pure (e_ia_vwn rfl rfl (by omega) (by omega) rfl) ?_
    | refine wG_n rfl rfl ?_
    | refine wG_u rfl rfl ?_
    | refine wG_new (o_mks rfl rfl (by omega) (by decide)) ?_)
    refine ⟨i + 1, by omega, by omega, Le_of (by simp [leT, lk, AV.ltr, hrn]; omega) (fun q rows hq => ?_) (wfH_cons hrn (ltrC _ _) hw)⟩
    simp only [Ab.hg, upd] at hq ⊢
    split at hq
    · rename_i e
      subst e
      rw [if_pos rfl, ← hq, List.set_set, List.set_set, ← mkdC_set xs k i hi2, List.map_set]
      have e1 : k + 3 * (i : Int) + 1 + 1 = k + 3 * (i : Int) + 2 := by omega
      rw [e1]
      rfl
    · rename_i e; simp only [if_neg e]; exact hq
  · have hi3 : i = xs.length := by omega
    subst hi3
    repeat (first
    | refine wC_a rfl ?_
    | refine q_s rfl ?_
    | refine q_b rfl ?_
    | refine wG_nil ?_
    | refine wG_g rfl ?_
    | refine wG_pure (o_len_vwm rfl) ?_
    | refine wG_pure (o_not_d rfl) ?_
    | refine wG_p rfl (by first | exact rfl | omega) ?_
    | refine wG_pure (o_not rfl) ?_
    | refine wG_pure (e_ia_vw0 rfl rfl (by omega) rfl) ?_
    | refine wG_pure (e_ia_vwp rfl rfl (by omega) rfl) ?_
    | refine wG_pure (e_ia_vwm rfl rfl (by omega) (by omega) rfl) ?_
    | refine wG_pure (e_ia_vwi rfl rfl (by omega) rfl) ?_
    | refine wG_pure (e_ia_vwn rfl rfl (by omega) (by omega) rfl) ?_
    | refine wG_n rfl rfl ?_
    | refine wG_u rfl rfl ?_
    | refine wG_new (o_mks rfl rfl (by omega) (by decide)) ?_)
    refine ⟨trivial, _, retVs_1 (retV_mv rfl), ?_, Nat.le_refl _⟩
    rw [mkdC_end]
    exact Le_of ⟨⟨rfl, rfl⟩, trivial⟩ (fun _ _ h => h) (wfH_cons hrn (ltrC _ _) hw)
end Go.Proofs.Ytkkcplcgafndgaa.Cvm
namespace Go.Proofs.Ytkkcplcgafndgaa.Msr
open Go Go.Proofs.Ytkkcplcgafndgaa Go.Proofs.Ytkkcplcgafndgaa.Ab Go.Proofs.Ytkkcplcgafndgaa.Il
attribute [local irreducible] wpO wpC wpDr wpQ wpG wpE stepA seqQ blkQ Ret ev
set_option maxRecDepth 10000
set_option maxHeartbeats 4000000
set_option linter.unusedSimpArgs false
set_option linter.unusedVariables false
def ac26 : AC := (.seq (.reg [⟨(some 4), none, (.mv (.c (.int .i64 0)))⟩]) (.seq (.seq (.reg [⟨(some 5), none, (.mv (.c (.int .i64 0)))⟩]) (.blk 0 (.loop (.seq (.seq (.reg [⟨(some 6), none, (.mv (.t 5))⟩, ⟨(some 7), none, (.mv (.t 0))⟩, ⟨(some 8), none, (.len (.t 7))⟩, ⟨(some 9), none, (.bin .lss (.t 6) (.t 8))⟩]) (.cond (.t 9) .skip (.exit 0))) (.seq (.blk 1 (.seq (.reg [⟨(some 12), none, (.mv (.t 0))⟩, ⟨(some 13), none, (.mv (.t 5))⟩, ⟨(some 14), none, (.mv (.t 1))⟩, ⟨(some 15), none, (.ia 2 (.t 12) (.t 13))⟩, ⟨(some 16), none, (.fa 0 (.t 15))⟩, ⟨none, none, (.st 1 (.t 16) (.t 14))⟩]) (.seq (.reg [⟨(some 17), none, (.mv (.t 1))⟩, ⟨(some 18), none, (.bin .add (.t 17) (.c (.int .i64 1)))⟩, ⟨(some 1), none, (.mv (.t 18))⟩]) (.seq (.reg [⟨(some 19), none, (.mv (.t 0))⟩, ⟨(some 20), none, (.mv (.t 5))⟩, ⟨(some 21), none, (.mv (.t 1))⟩, ⟨(some 22), none, (.ia 2 (.t 19) (.t 20))⟩, ⟨(some 23), none, (.fa 1 (.t 22))⟩, ⟨none, none, (.st 1 (.t 23) (.t 21))⟩]) (.reg [⟨(some 24), none, (.mv (.t 1))⟩, ⟨(some 25), none, (.bin .add (.t 24) (.c (.int .i64 1)))⟩, ⟨(some 1), none, (.mv (.t 25))⟩]))))) (.reg [⟨(some 10), none, (.mv (.t 5))⟩, ⟨(some 11), none, (.bin .add (.t 10) (.c (.int .i64 1)))⟩, ⟨(some 5), none, (.mv (.t 11))⟩])))))) (.seq (.reg [⟨(some 26), none, (.mv (.t 1))⟩, ⟨(some 4), none, (.mv (.t 26))⟩]) .ret)))
def ro26 : List AOp := [(.mv (.t 4))]
theorem fun26 : Fun Try.prog 26 27 ac26 ro26 := ⟨Try.f26, _, Try.func26, by kernel_rfl, rfl, rfl, by kernel_rfl, by kernel_rfl, by decide⟩


theorem ltrM (xs : List Ms) (m : Nat) : ∀ row ∈ xs.map msRow, ∀ x ∈ row, AV.ltr m x = true := rows_ltr _ m (fun row hr x hx => by
  obtain ⟨p, _, rfl⟩ := List.mem_map.1 hr
  exact msRow_plain p x hx)
theorem eqM_same (nn mm : Bool) (xs : List Ms) (h1 : xs.length ≤ 1048576) : Con Try.prog 25 true [.vw nn (xs.map msRow), .vw mm (xs.map msRow)] (.bool true) [] := by
  have := con25 nn mm xs xs h1 h1
  rwa [decide_eq_true (by exact ⟨rfl, fun _ _ => ⟨rfl, rfl⟩⟩)] at this
def mkMs (k : Int) (n : Nat) : List Ms := (List.range n).map fun i : Nat => ⟨k + 2 * (i : Int), k + 2 * (i : Int) + 1⟩
theorem mkMs_len (k : Int) (n : Nat) : (mkMs k n).length = n := by simp [mkMs]
theorem mkMs_get (k : Int) (n i : Nat) (h : i < n) : (mkMs k n).getD i default = ⟨k + 2 * (i : Int), k + 2 * (i : Int) + 1⟩ := by
  simp [mkMs, List.getD_eq_getElem?_getD, List.getElem?_eq_getElem, h]
def mkdM (xs : List Ms) (k : Int) (i : Nat) : List Ms := mkMs k i ++ xs.drop i
theorem mkdM_len (xs : List Ms) (k : Int) (i : Nat) (h : i ≤ xs.length) : (mkdM xs k i).length = xs.length := by simp [mkdM, mkMs_len]; omega
theorem mkdM_end (xs : List Ms) (k : Int) : mkdM xs k xs.length = mkMs k xs.length := by simp [mkdM]
theorem mkdM_set (xs : List Ms) (k : Int) (i : Nat) (h : i < xs.length) : (mkdM xs k i).set i ⟨k + 2 * (i : Int), k + 2 * (i : Int) + 1⟩ = mkdM xs k (i + 1) := by
  unfold mkdM
  rw [List.set_append_right _ _ (by rw [mkMs_len]; omega), mkMs_len, Nat.sub_self, List.drop_eq_getElem_cons h, List.set_cons_zero]
  have : mkMs k (i + 1) = mkMs k i ++ [⟨k + 2 * (i : Int), k + 2 * (i : Int) + 1⟩] := by simp [mkMs, List.range_succ]
  rw [this, List.append_assoc]
  rfl
theorem sh26 (xs : List Ms) (k : Int) (hn : xs.length ≤ 4294967296) (h0 : 0 ≤ k) (h1 : k ≤ 4294967296) {h : List (Nat × Option Ab.Rows)} {nr r : Nat} (hr : hg h r = some (xs.map msRow)) (hw : wfH h nr) :
    Sh Try.prog 26 [.sl r 2 0 xs.length, .int .i64 k] h nr (.int .i64 (k + 2 * xs.length)) ((r, some ((mkMs k xs.length).map msRow)) :: h) nr := by
  refine sh_of_wp mixed fun26 (by simp) ?_
  unfold ac26 ro26
  simp only [zipT]
  have hrn := (hw r _ hr).1
  repeat (first
    | refine wC_a rfl ?_
    | refine q_s rfl ?_
    | refine q_b rfl ?_
    | refine wG_nil ?_
    | refine wG_g rfl ?_
    | refine wG_pure (o_len_vwm rfl) ?_
    | refine wG_pure (o_not_d rfl) ?_
    | refine wG_p rfl (by first | exact rfl | omega) ?_
    | refine wG_pure (o_not rfl) ?_
    | refine wG_pure (e_ia_vw0 rfl rfl (by omega) rfl) ?_
    | refine wG_pure (e_ia_vwp rfl rfl (by omega) rfl) ?_
    | refine wG_pure (e_ia_vwm rfl rfl (by omega) (by omega) rfl) ?_
    | refine wG_pure (e_ia_vwi rfl rfl (by omega) rfl) ?_
    | refine wG_pure (e_ia_vwn rfl rfl (by omega) (by omega) rfl) ?_
    | refine wG_n rfl rfl ?_
    | refine wG_u rfl rfl ?_
    | refine wG_new (o_mks rfl rfl (by omega) (by decide)) ?_)
  refine wC_loopS Nat (fun i => ⟨[(0, .sl r 2 0 xs.length), (1, .int .i64 (k + 2 * i)), (5, .int .i64 (i : Int))], (r, some ((mkdM xs k i).map msRow)) :: h, nr⟩) (fun i => i ≤ xs.length) (fun i => xs.length - i) 0 (Nat.zero_le _) ?_ (fun _ _ => Nat.le_refl _) ?_
  · refine Le_of (by simp [leT, lk, AV.ltr, hrn]) (fun q rows hq => ?_) (wfH_cons hrn (ltrM _ _) hw)
    simp only [Ab.hg, upd] at hq ⊢
    split at hq
    · rename_i e; subst e; cases hq; simpa [mkdM, mkMs, Ab.hg] using hr
    · exact hq
  intro i hi
  have hml := mkdM_len xs k i hi
  repeat (first
    | refine wC_a rfl ?_
    | refine q_s rfl ?_
    | refine q_b rfl ?_
    | refine wG_nil ?_
    | refine wG_g rfl ?_
    | refine wG_pure (o_len_vwm rfl) ?_
    | refine wG_pure (o_not_d rfl) ?_
    | refine wG_p rfl (by first | exact rfl | omega) ?_
    | refine wG_pure (o_not rfl) ?_
    | refine wG_pure (e_ia_vw0 rfl rfl (by omega) rfl) ?_
    | refine wG_pure (e_ia_vwp rfl rfl (by omega) rfl) ?_
    | refine wG_pure (e_ia_vwm rfl rfl (by omega) (by omega) rfl) ?_
    | refine wG_pure (e_ia_vwi rfl rfl (by omega) rfl) ?_
    | refine wG_pure (e_ia_vwn rfl rfl (by omega) (by omega) rfl) ?_
    | refine wG_n rfl rfl ?_
    | refine wG_u rfl rfl ?_
    | refine wG_new (o_mks rfl rfl (by omega) (by decide)) ?_)
  refine wC_cond_d rfl (fun h2 => ?_) (fun h2 => ?_)
  · have hi2 : i < xs.length := by omega
    have e0 : 0 + ((i : Int)).toNat = i := by simp
    have hge : ((mkdM xs k i).map msRow)[i]? = some (msRow ((mkdM xs k i).getD i default)) := by
      simp [List.getElem?_map, List.getElem?_eq_getElem (show i < (mkdM xs k i).length by omega), List.getD_eq_getElem?_getD]
    have hgs : ∀ (rw : List AV) (rows : List (List AV)), rows.length = xs.length → (rows.set i rw)[i]? = some rw := by
      intro rw rows hl
      rw [List.getElem?_set_self (by omega)]
    repeat (first
    | refine wC_a rfl ?_
    | refine q_s rfl ?_
    | refine q_b rfl ?_
    | refine wG_nil ?_
    | refine wG_g rfl ?_
    | refine wG_pure (o_len_vwm rfl) ?_
    | refine wG_pure (o_not_d rfl) ?_
    | refine wG_p rfl (by first | exact rfl | omega) ?_
    | refine wG_pure (o_not rfl) ?_
    | refine wG_pure (e_ia_vw0 rfl rfl (by omega) rfl) ?_
    | refine wG_pure (e_ia_vwp rfl rfl (by omega) rfl) ?_
    | refine wG_pure (e_ia_vwm rfl rfl (by omega) (by omega) rfl) ?_
    | refine wG_pure (e_ia_vwi rfl rfl (by omega) rfl) ?_
    | refine wG_pure (e_ia_vwn rfl rfl (by omega) (by omega) rfl) ?_
    | refine wG_n rfl rfl ?_
    | refine wG_u rfl rfl ?_
    | refine wG_new (o_mks rfl rfl (by omega) (by decide)) ?_)
    refine wG_pure (e_ia_sl rfl rfl (by omega) (by omega)) ?_
    simp only [e0]
    repeat (first
    | refine wC_a rfl ?_
    | refine q_s rfl ?_
    | refine q_b rfl ?_
    | refine wG_nil ?_
    | refine wG_g rfl ?_
    | refine wG_pure (o_len_vwm rfl) ?_
    | refine wG_pure (o_not_d rfl) ?_
    | refine wG_p rfl (by first | exact rfl | omega) ?_
    | refine wG_pure (o_not rfl) ?_
    | refine wG_pure (e_ia_vw0 rfl rfl (by omega) rfl) ?_
    | refine wG_pure (e_ia_vwp rfl rfl (by omega) rfl) ?_
    | refine wG_pure (e_ia_vwm rfl rfl (by omega) (by omega) rfl) ?_
    | refine wG_pure (e_ia_vwi rfl rfl (by omega) rfl) ?_
    | refine wG_pure (e_ia_vwn rfl rfl (by omega) (by omega) rfl) ?_
    | refine wG_n rfl rfl ?_
    | refine wG_u rfl rfl ?_
    | refine wG_new (o_mks rfl rfl (by omega) (by decide)) ?_)
    refine wG_upd (o_st_int rfl hg_here hge rfl rfl rfl) ?_
    repeat (first
    | refine wC_a rfl ?_
    | refine q_s rfl ?_
    | refine q_b rfl ?_
    | refine wG_nil ?_
    | refine wG_g rfl ?_
    | refine wG_pure (o_len_vwm rfl) ?_
    | refine wG_pure (o_not_d rfl) ?_
    | refine wG_p rfl (by first | exact rfl | omega) ?_
    | refine wG_pure (o_not rfl) ?_
    | refine wG_pure (e_ia_vw0 rfl rfl (by omega) rfl) ?_
    | refine wG_pure (e_ia_vwp rfl rfl (by omega) rfl) ?_
    | refine wG_pure (e_ia_vwm rfl rfl (by omega) (by omega) rfl) ?_
    | refine wG_pure (e_ia_vwi rfl rfl (by omega) rfl) ?_
    | refine wG_pure (e_ia_vwn rfl rfl (by omega) (by omega) rfl) ?_
    | refine wG_n rfl rfl ?_
    | refine wG_u rfl rfl ?_
    | refine wG_new (o_mks rfl rfl (by omega) (by decide)) ?_)
    refine wG_pure (e_ia_sl rfl rfl (by omega) (by omega)) ?_
    simp only [e0]
    repeat (first
    | refine wC_a rfl ?_
    | refine q_s rfl ?_
    | refine q_b rfl ?_
    | refine wG_nil ?_
    | refine wG_g rfl ?_
    | refine wG_pure (o_len_vwm rfl) ?_
    | refine wG_pure (o_not_d rfl) ?_
    | refine wG_p rfl (by first | exact rfl | omega) ?_
    | refine wG_pure (o_not rfl) ?_
    | refine wG_pure (e_ia_vw0 rfl rfl (by omega) rfl) ?_
    | refine wG_pure (e_ia_vwp rfl rfl (by omega) rfl) ?_
    | refine wG_pure (e_ia_vwm rfl rfl (by omega) (by omega) rfl) ?_
    | refine wG_pure (e_ia_vwi rfl rfl (by omega) rfl) ?_
    | refine wG_pure (e_ia_vwn rfl rfl (by omega) (by omega) rfl) ?_
    | refine wG_n rfl rfl ?_
    | refine wG_u rfl rfl ?_
    | refine wG_new (o_mks rfl rfl (by omega) (by decide)) ?_)
    refine wG_upd (o_st_int rfl hg_here (hgs _ _ (by rw [List.length_map, hml])) rfl rfl rfl) ?_
    repeat (first
    | refine wC_a rfl ?_
    | refine q_s rfl ?_
    | refine q_b rfl ?_
    | refine wG_nil ?_
    | refine wG_g rfl ?_
    | refine wG_pure (o_len_vwm rfl) ?_
    | refine wG_pure (o_not_d rfl) ?_
    | refine wG_p rfl (by first | exact rfl | omega) ?_
    | refine wG_pure (o_not rfl) ?_
    | refine wG_pure (e_ia_vw0 rfl rfl (by omega) rfl) ?_
    | refine wG_pure (e_ia_vwp rfl rfl (by omega) rfl) ?_
    | refine wG_pure (e_ia_vwm rfl rfl (by omega) (by omega) rfl) ?_
    | refine wG_pure (e_ia_vwi rfl rfl (by omega) rfl) ?_
    | refine wG_pure (e_ia_vwn rfl rfl (by omega) (by omega) rfl) ?_
    | refine wG_n rfl rfl ?_
    | refine wG_u rfl rfl ?_
    | refine wG_new (o_mks rfl rfl (by omega) (by decide)) ?_)
    refine ⟨i + 1, by omega, by omega, Le_of (by simp [leT, lk, AV.ltr, hrn]; omega) (fun q rows hq => ?_) (wfH_cons hrn (ltrM _ _) hw)⟩
    simp only [Ab.hg, upd] at hq ⊢
    split at hq
    · rename_i e
      subst e
      rw [if_pos rfl, ← hq, List.set_set, ← mkdM_set xs k i hi2, List.map_set]
      rfl
    · rename_i e; simp only [if_neg e]; exact hq
  · have hi3 : i = xs.length := by omega
    subst hi3
    repeat (first
    | refine wC_a rfl ?_
    | refine q_s rfl ?_
    | refine q_b rfl ?_
    | refine wG_nil ?_
    | refine wG_g rfl ?_
    | refine wG_pure (o_len_vwm rfl) ?_
    | refine wG_pure (o_not_d rfl) ?_
    | refine wG_p rfl (by first | exact rfl | omega) ?_
    | refine wG_pure (o_not rfl) ?_
    | refine wG_pure (e_ia_vw0 rfl rfl (by omega) rfl) ?_
    | refine wG_pure (e_ia_vwp rfl rfl (by omega) rfl) ?_
    | refine wG_pure (e_ia_vwm rfl rfl (by omega) (by omega) rfl) ?_
    | refine wG_pure (e_ia_vwi rfl rfl (by omega) rfl) ?_
    | refine wG_pure (e_ia_vwn rfl rfl (by omega) (by omega) rfl) ?_
    | refine wG_n rfl rfl ?_
    | refine wG_u rfl rfl ?_
    | refine wG_new (o_mks rfl rfl (by omega) (by decide)) ?_)
    refine ⟨trivial, _, retVs_1 (retV_mv rfl), ?_, Nat.le_refl _⟩
    rw [mkdM_end]
    exact Le_of ⟨⟨rfl, rfl⟩, trivial⟩ (fun _ _ h => h) (wfH_cons hrn (ltrM _ _) hw)
end Go.Proofs.Ytkkcplcgafndgaa.Msr
namespace Go.Proofs.Ytkkcplcgafndgaa.Cal
open Go Go.Proofs.Ytkkcplcgafndgaa Go.Proofs.Ytkkcplcgafndgaa.Ab Go.Proofs.Ytkkcplcgafndgaa.Il Go.Proofs.Ytkkcplcgafndgaa.Msr Go.Proofs.Ytkkcplcgafndgaa.Dst Go.Proofs.Ytkkcplcgafndgaa.Cvm
attribute [local irreducible] wpO wpC wpDr wpQ wpG wpE stepA seqQ blkQ Ret ev
set_option maxRecDepth 10000
set_option maxHeartbeats 8000000
set_option linter.unusedSimpArgs false
set_option linter.unusedVariables false
def ac5 : AC := (.seq (.reg [⟨(some 6), none, (.mv (.c (.bool false)))⟩]) (.seq (.seq (.reg [⟨(some 20), none, (.mv (.t 2))⟩, ⟨(some 21), none, (.len (.t 20))⟩, ⟨(some 22), none, (.bin .gtr (.t 21) (.c (.int .i64 1048576)))⟩]) (.cond (.t 22) (.seq (.reg [⟨(some 6), none, (.mv (.c (.bool true)))⟩]) .ret) .skip)) (.seq (.reg [⟨(some 7), none, (.mv (.c (.int .i64 1048576)))⟩]) (.seq (.reg [⟨(some 23), none, (.mv (.t 0))⟩, ⟨(some 24), none, (.mv (.t 7))⟩, ⟨(some 25), none, (.call 14 [(.t 23), (.t 24)])⟩, ⟨(some 7), none, (.mv (.t 25))⟩]) (.seq (.seq (.reg [⟨(some 26), none, (.mv (.t 7))⟩, ⟨(some 27), none, (.bin .lss (.t 26) (.c (.int .i64 0)))⟩]) (.cond (.t 27) (.seq (.reg [⟨(some 6), none, (.mv (.c (.bool true)))⟩]) .ret) .skip)) (.seq (.reg [⟨(some 28), none, (.mv (.t 1))⟩, ⟨(some 29), none, (.mv (.t 7))⟩, ⟨(some 30), none, (.call 21 [(.t 28), (.t 29)])⟩, ⟨(some 7), none, (.mv (.t 30))⟩]) (.seq (.seq (.reg [⟨(some 31), none, (.mv (.t 7))⟩, ⟨(some 32), none, (.bin .lss (.t 31) (.c (.int .i64 0)))⟩]) (.cond (.t 32) (.seq (.reg [⟨(some 6), none, (.mv (.c (.bool true)))⟩]) .ret) .skip)) (.seq (.reg [⟨(some 34), none, (.mv (.t 0))⟩, ⟨(some 35), none, (.call 16 [(.t 34)])⟩, ⟨(some 36), none, (.mv (.t 1))⟩, ⟨(some 37), none, (.call 23 [(.t 36)])⟩, ⟨(some 38), none, (.mv (.t 2))⟩, ⟨(some 39), none, (.call 7 [(.t 38)])⟩, ⟨(some 40), none, (.call 22 [(.t 35), (.t 37), (.t 39)])⟩, ⟨(some 33), none, (.mv (.t 40))⟩, ⟨(some 41), none, (.ext (.t 33) 0)⟩, ⟨(some 42), none, (.ext (.t 33) 1)⟩, ⟨(some 8), none, (.alloc [(.int .i64 0), .nilS])⟩, ⟨none, none, (.st 2 (.t 8) (.t 41))⟩, ⟨(some 9), none, (.mv (.t 42))⟩]) (.seq (.reg [⟨(some 43), none, (.mv (.t 0))⟩, ⟨(some 44), none, (.call 16 [(.t 43)])⟩, ⟨(some 10), none, (.mv (.t 44))⟩]) (.seq (.reg [⟨(some 45), none, (.mv (.t 1))⟩, ⟨(some 46), none, (.call 23 [(.t 45)])⟩, ⟨(some 11), none, (.mv (.t 46))⟩]) (.seq (.reg [⟨(some 47), none, (.mv (.t 2))⟩, ⟨(some 48), none, (.call 7 [(.t 47)])⟩, ⟨(some 12), none, (.mv (.t 48))⟩]) (.seq (.reg [⟨(some 50), none, (.mv (.t 10))⟩, ⟨(some 51), none, (.mv (.t 11))⟩, ⟨(some 52), none, (.mv (.t 12))⟩, ⟨(some 53), none, (.call 24 [(.t 50), (.t 51), (.t 52)])⟩, ⟨(some 49), none, (.mv (.t 53))⟩, ⟨(some 54), none, (.ext (.t 49) 0)⟩, ⟨(some 55), none, (.ext (.t 49) 1)⟩, ⟨(some 13), none, (.alloc [(.int .i64 0), .nilS])⟩, ⟨none, none, (.st 2 (.t 13) (.t 54))⟩, ⟨(some 14), none, (.mv (.t 55))⟩]) (.seq (.seq (.reg [⟨(some 56), none, (.ld true 2 (.t 13))⟩, ⟨(some 57), none, (.ld true 2 (.t 8))⟩, ⟨(some 58), none, (.call 9 [(.t 56), (.t 57)])⟩, ⟨(some 59), none, (.un .not (.t 58))⟩, ⟨(some 60), none, (.mv (.t 59))⟩, ⟨(some 61), (some (60, false)), (.mv (.t 14))⟩, ⟨(some 62), (some (60, false)), (.mv (.t 9))⟩, ⟨(some 63), (some (60, false)), (.bool2 true (.t 61) (.t 62))⟩, ⟨(some 64), none, (.pick (.t 60) (.c (.bool true)) (.t 63))⟩]) (.cond (.t 64) (.seq (.reg [⟨(some 6), none, (.mv (.c (.bool false)))⟩]) .ret) .skip)) (.seq (.seq (.reg [⟨(some 65), none, (.mv (.t 10))⟩, ⟨(some 66), none, (.mv (.t 0))⟩, ⟨(some 67), none, (.call 16 [(.t 66)])⟩, ⟨(some 68), none, (.call 19 [(.t 65), (.t 67)])⟩, ⟨(some 69), none, (.un .not (.t 68))⟩]) (.cond (.t 69) (.seq (.reg [⟨(some 6), none, (.mv (.c (.bool false)))⟩]) .ret) .skip)) (.seq (.seq (.reg [⟨(some 70), none, (.mv (.t 11))⟩, ⟨(some 71), none, (.mv (.t 1))⟩, ⟨(some 72), none, (.call 23 [(.t 71)])⟩, ⟨(some 73), none, (.call 25 [(.t 70), (.t 72)])⟩, ⟨(some 74), none, (.un .not (.t 73))⟩]) (.cond (.t 74) (.seq (.reg [⟨(some 6), none, (.mv (.c (.bool false)))⟩]) .ret) .skip)) (.seq (.seq (.reg [⟨(some 75), none, (.mv (.t 12))⟩, ⟨(some 76), none, (.mv (.t 2))⟩, ⟨(some 77), none, (.call 7 [(.t 76)])⟩, ⟨(some 78), none, (.call 10 [(.t 75), (.t 77)])⟩, ⟨(some 79), none, (.un .not (.t 78))⟩]) (.cond (.t 79) (.seq (.reg [⟨(some 6), none, (.mv (.c (.bool false)))⟩]) .ret) .skip)) (.seq (.reg [⟨(some 15), none, (.mv (.c (.int .i64 1)))⟩]) (.seq (.reg [⟨(some 80), none, (.mv (.t 10))⟩, ⟨(some 81), none, (.mv (.t 15))⟩, ⟨(some 82), none, (.call 20 [(.t 80), (.t 81)])⟩, ⟨(some 15), none, (.mv (.t 82))⟩]) (.seq (.reg [⟨(some 83), none, (.mv (.t 11))⟩, ⟨(some 84), none, (.mv (.t 15))⟩, ⟨(some 85), none, (.call 26 [(.t 83), (.t 84)])⟩, ⟨(some 15), none, (.mv (.t 85))⟩]) (.seq (.reg [⟨(some 86), none, (.mv (.t 12))⟩, ⟨(some 87), none, (.mv (.t 15))⟩, ⟨(some 88), none, (.call 11 [(.t 86), (.t 87)])⟩, ⟨(some 15), none, (.mv (.t 88))⟩]) (.seq (.seq (.reg [⟨(some 89), none, (.mv (.t 15))⟩, ⟨(some 90), none, (.bin .lss (.t 89) (.c (.int .i64 0)))⟩, ⟨(some 91), none, (.mv (.t 90))⟩, ⟨(some 92), (some (91, false)), (.ld true 2 (.t 13))⟩, ⟨(some 93), (some (91, false)), (.ld true 2 (.t 8))⟩, ⟨(some 94), (some (91, false)), (.call 9 [(.t 92), (.t 93)])⟩, ⟨(some 95), (some (91, false)), (.un .not (.t 94))⟩, ⟨(some 96), none, (.pick (.t 91) (.c (.bool true)) (.t 95))⟩, ⟨(some 97), none, (.mv (.t 96))⟩, ⟨(some 98), (some (97, false)), (.mv (.t 14))⟩, ⟨(some 99), (some (97, false)), (.mv (.t 9))⟩, ⟨(some 100), (some (97, false)), (.bool2 true (.t 98) (.t 99))⟩, ⟨(some 101), none, (.pick (.t 97) (.c (.bool true)) (.t 100))⟩]) (.cond (.t 101) (.seq (.reg [⟨(some 6), none, (.mv (.c (.bool false)))⟩]) .ret) .skip)) (.seq (.reg [⟨(some 16), none, (.mv (.c (.int .i64 1)))⟩]) (.seq (.reg [⟨(some 102), none, (.ld true 2 (.t 13))⟩, ⟨(some 103), none, (.mv (.t 16))⟩, ⟨(some 104), none, (.call 12 [(.t 102), (.t 103)])⟩, ⟨(some 16), none, (.mv (.t 104))⟩]) (.seq (.reg [⟨(some 17), none, (.mv (.c (.int .i64 1)))⟩]) (.seq (.reg [⟨(some 105), none, (.ld true 2 (.t 13))⟩, ⟨(some 106), none, (.mv (.t 17))⟩, ⟨(some 107), none, (.call 13 [(.t 105), (.t 106)])⟩, ⟨(some 17), none, (.mv (.t 107))⟩]) (.seq (.seq (.reg [⟨(some 108), none, (.mv (.t 17))⟩, ⟨(some 109), none, (.bin .lss (.t 108) (.c (.int .i64 0)))⟩]) (.cond (.t 109) (.seq (.reg [⟨(some 6), none, (.mv (.c (.bool false)))⟩]) .ret) .skip)) (.seq (.seq (.reg [⟨(some 110), none, (.mv (.t 17))⟩, ⟨(some 111), none, (.mv (.t 16))⟩, ⟨(some 112), none, (.bin .neq (.t 110) (.t 111))⟩]) (.cond (.t 112) (.seq (.reg [⟨(some 6), none, (.mv (.c (.bool false)))⟩]) .ret) .skip)) (.seq (.reg [⟨(some 114), none, (.mv (.t 0))⟩, ⟨(some 115), none, (.call 16 [(.t 114)])⟩, ⟨(some 116), none, (.mv (.t 1))⟩, ⟨(some 117), none, (.call 23 [(.t 116)])⟩, ⟨(some 118), none, (.mv (.t 2))⟩, ⟨(some 119), none, (.call 7 [(.t 118)])⟩, ⟨(some 120), none, (.call 24 [(.t 115), (.t 117), (.t 119)])⟩, ⟨(some 113), none, (.mv (.t 120))⟩, ⟨(some 121), none, (.ext (.t 113) 0)⟩, ⟨(some 122), none, (.ext (.t 113) 1)⟩, ⟨(some 18), none, (.alloc [(.int .i64 0), .nilS])⟩, ⟨none, none, (.st 2 (.t 18) (.t 121))⟩, ⟨(some 19), none, (.mv (.t 122))⟩]) (.seq (.seq (.reg [⟨(some 123), none, (.ld true 2 (.t 18))⟩, ⟨(some 124), none, (.ld true 2 (.t 8))⟩, ⟨(some 125), none, (.call 9 [(.t 123), (.t 124)])⟩, ⟨(some 126), none, (.un .not (.t 125))⟩, ⟨(some 127), none, (.mv (.t 126))⟩, ⟨(some 128), (some (127, false)), (.mv (.t 19))⟩, ⟨(some 129), (some (127, false)), (.mv (.t 9))⟩, ⟨(some 130), (some (127, false)), (.bool2 true (.t 128) (.t 129))⟩, ⟨(some 131), none, (.pick (.t 127) (.c (.bool true)) (.t 130))⟩]) (.cond (.t 131) (.seq (.reg [⟨(some 6), none, (.mv (.c (.bool false)))⟩]) .ret) .skip)) (.seq (.reg [⟨(some 17), none, (.mv (.c (.int .i64 1)))⟩]) (.seq (.reg [⟨(some 132), none, (.ld true 2 (.t 13))⟩, ⟨(some 133), none, (.mv (.t 17))⟩, ⟨(some 134), none, (.call 13 [(.t 132), (.t 133)])⟩, ⟨(some 17), none, (.mv (.t 134))⟩]) (.seq (.seq (.reg [⟨(some 135), none, (.mv (.t 17))⟩, ⟨(some 136), none, (.bin .lss (.t 135) (.c (.int .i64 0)))⟩]) (.cond (.t 136) (.seq (.reg [⟨(some 6), none, (.mv (.c (.bool false)))⟩]) .ret) .skip)) (.seq (.seq (.reg [⟨(some 137), none, (.mv (.t 17))⟩, ⟨(some 138), none, (.mv (.t 16))⟩, ⟨(some 139), none, (.bin .neq (.t 137) (.t 138))⟩]) (.cond (.t 139) (.seq (.reg [⟨(some 6), none, (.mv (.c (.bool false)))⟩]) .ret) .skip)) (.seq (.reg [⟨(some 6), none, (.mv (.c (.bool true)))⟩]) .ret))))))))))))))))))))))))))))))))))
def ro5 : List AOp := [(.mv (.t 6))]
theorem fun5 : Fun Try.prog 5 140 ac5 ro5 := ⟨Try.f5, _, Try.func5, by kernel_rfl, rfl, rfl, by kernel_rfl, by kernel_rfl, by decide⟩

theorem con5 (nn n2 n3 : Bool) (xs : List CP) (ms : List Ms) (gs : List Int) (h1 : xs.length ≤ 9223372036854775807) (h2 : ms.length ≤ 9223372036854775807) (h3 : gs.length ≤ 9223372036854775807) : Con Try.prog 5 true [.vw nn (xs.map cpRow), .vw n2 (ms.map msRow), .vw n3 (gs.map iRow)] (.bool true) [] := by
  refine con_of_wp mixed fun5 (by simp) [] plain_nil ?_
  unfold ac5 ro5
  simp only [zipT]
  have c0 := con14 nn xs h1
  by_cases hp : gs.length ≤ 1048576 ∧ (xs.length : Int) + ms.length ≤ 1048576
  · obtain ⟨g3, g12⟩ := hp
    have g1 : xs.length ≤ 1048576 := by omega
    have g2 : ms.length ≤ 1048576 := by omega
    rw [if_pos g1] at c0
    have cm := con21 n2 ms h2 (1048576 - (xs.length : Int)) (by omega) (by omega)
    rw [if_pos (show (ms.length : Int) ≤ 1048576 - (xs.length : Int) by omega)] at cm
    have c1C := con16 nn xs g1
    have c1M := con23 n2 ms g2
    have c1I := con7 n3 gs g3
    have c4C := eqC_same true true xs g1
    have c4M := eqM_same true true ms g2
    have c4I := con10_same true true gs g3
    by_cases hG : wOK xs ms gs
    · have c2 := con22_yes true true true xs ms gs g1 g2 g3 hG
      have c3 := con24_yes true true true xs ms gs g1 g2 g3 hG
      have hl := hG.2.2.2.len
      generalize mkO (y0 xs) (wL xs ms gs) = d at *
      have hd : d.ws.length ≤ 1048576 := by omega
      have c5 := con9_same true true d hd
      have c6 := con13 true d.f d.ws.length 1 hd (by decide) (by decide)
      have sm := fun h nr r => @sh12 d 1 hd (by decide) (by decide) h nr r
      clear hG
      obtain ⟨f, vs⟩ := d
      unfold dYes dRow at *
      simp only at *
      repeat' (first
        | refine wC_dregE ?_ | refine wG_call c0 rfl rfl ?_ | refine wG_call cm rfl rfl ?_ | refine wG_call1 c1C rfl rfl ?_ | refine wG_call1 c1M rfl rfl ?_ | refine wG_call1 c1I rfl rfl ?_ | refine wG_call1 c2 (ag_sl rfl rfl rfl cp_plain (ag_sl rfl rfl rfl msRow_plain (ag_sl rfl rfl rfl iRow_plain ag_nil))) rfl ?_ | refine wG_call1 c3 (ag_sl rfl rfl rfl cp_plain (ag_sl rfl rfl rfl msRow_plain (ag_sl rfl rfl rfl iRow_plain ag_nil))) rfl ?_ | refine wG_call c5 (ag_is rfl rfl rfl iRow_plain (ag_is rfl rfl rfl iRow_plain ag_nil)) rfl ?_ | refine wG_call c6 (ag_is rfl rfl (mks_len _ _).symm iRow_plain (ag_int rfl ag_nil)) rfl ?_ | refine wG_call c4C (ag_sl rfl rfl rfl cp_plain (ag_sl rfl rfl rfl cp_plain ag_nil)) rfl ?_ | refine wG_call c4M (ag_sl rfl rfl rfl msRow_plain (ag_sl rfl rfl rfl msRow_plain ag_nil)) rfl ?_ | refine wG_call c4I (ag_sl rfl rfl rfl iRow_plain (ag_sl rfl rfl rfl iRow_plain ag_nil)) rfl ?_
        | (refine wG_callS (f := 20) (sh20 xs 1 (by omega) (by decide) (by decide) rfl ?_) rfl ?_ <;> (repeat' (first | exact ltrI _ _ | exact ltrC _ _ | exact ltrM _ _ | exact ltrI [] _ | exact wfH_nil | refine wfH_cons (by decide) ?_ ?_ | refine wfH_none ?_ | exact ltr_dec rfl)))
        | (refine wG_callS (f := 26) (sh26 ms (1 + 3 * (xs.length : Int)) (by omega) (by omega) (by omega) rfl ?_) rfl ?_ <;> (repeat' (first | exact ltrI _ _ | exact ltrC _ _ | exact ltrM _ _ | exact ltrI [] _ | exact wfH_nil | refine wfH_cons (by decide) ?_ ?_ | refine wfH_none ?_ | exact ltr_dec rfl)))
        | (refine wG_callS (f := 11) (sh11 gs (1 + 3 * (xs.length : Int) + 2 * (ms.length : Int)) (by omega) (by omega) (by omega) rfl ?_) rfl ?_ <;> (repeat' (first | exact ltrI _ _ | exact ltrC _ _ | exact ltrM _ _ | exact ltrI [] _ | exact wfH_nil | refine wfH_cons (by decide) ?_ ?_ | refine wfH_none ?_ | exact ltr_dec rfl)))
        | (refine wG_callS (f := 12) (sm _ _ _ rfl ?_) rfl ?_ <;> (repeat' (first | exact ltrI _ _ | exact ltrC _ _ | exact ltrM _ _ | exact ltrI [] _ | exact wfH_nil | refine wfH_cons (by decide) ?_ ?_ | refine wfH_none ?_ | exact ltr_dec rfl)))
        | (first
    | refine wC_a rfl ?_
    | refine q_s rfl ?_
    | refine q_b rfl ?_
    | refine wG_nil ?_
    | refine wG_g rfl ?_
    | refine wG_pure (o_len_vwm rfl) ?_
    | refine wG_pure (o_not_d rfl) ?_
    | refine wG_p rfl (by first | exact rfl | omega) ?_
    | refine wG_pure (o_not rfl) ?_
    | refine wG_pure (e_ia_vw0 rfl rfl (by omega) rfl) ?_
    | refine wG_pure (e_ia_vwp rfl rfl (by omega) rfl) ?_
    | refine wG_pure (e_ia_vwm rfl rfl (by omega) (by omega) rfl) ?_
    | refine wG_pure (e_ia_vwi rfl rfl (by omega) rfl) ?_
    | refine wG_pure (e_ia_vwn rfl rfl (by omega) (by omega) rfl) ?_
    | refine wG_n rfl rfl ?_
    | refine wG_u rfl rfl ?_
    | refine wG_new (o_mks rfl rfl (by omega) (by decide)) ?_) | (first
    | refine wE_nil (by kernel_rfl) ?_
    | refine wE_gy rfl ?_
    | refine wE_gn rfl rfl rfl ?_
    | refine wE_gu rfl rfl ?_
    | refine wE_gnn rfl rfl rfl ?_
    | refine wE_v (o_len_vwm rfl) rfl ?_
    | refine wE_v (o_not_d rfl) rfl ?_
    | refine wE_p rfl (by first | exact rfl | omega) rfl ?_
    | refine wE_v (o_not rfl) rfl ?_
    | refine wE_v (e_ia_vw0 rfl rfl (by omega) rfl) rfl ?_
    | refine wE_v (e_ia_vwp rfl rfl (by omega) rfl) rfl ?_
    | refine wE_v (e_ia_vwm rfl rfl (by omega) (by omega) rfl) rfl ?_
    | refine wE_v (e_ia_vwi rfl rfl (by omega) rfl) rfl ?_
    | refine wE_v (e_ia_vwn rfl rfl (by omega) (by omega) rfl) rfl ?_
    | refine wE_n rfl rfl rfl ?_
    | refine wE_u rfl rfl rfl ?_
    | refine wE_new (o_mks rfl rfl (by omega) (by decide)) rfl ?_) | (refine wG_gd rfl (fun hgt => ?_) (fun hgf => ?_) <;> (first | simp only [eq_true hgt, decide_true] | simp only [eq_false hgf, decide_false])) | refine wC_cond_d rfl (fun hg => ?_) (fun hg => ?_))
      all_goals (first | exact ret_boolE (.inr rfl) ⟨_, retV_mv rfl, rfl⟩ | (exfalso; omega) | trace_state)
    · have c2 := con22_no true true true xs ms gs g1 g2 g3 hG
      have c3 := con24_no true true true xs ms gs g1 g2 g3 hG
      have c5 := eqD_no
      have c6 := heldD_no
      have c7 := con12_nil 0 1
      clear hG
      unfold dNo at *
      repeat' (first
        | refine wC_dregE ?_ | refine wG_call c0 rfl rfl ?_ | refine wG_call cm rfl rfl ?_ | refine wG_call1 c1C rfl rfl ?_ | refine wG_call1 c1M rfl rfl ?_ | refine wG_call1 c1I rfl rfl ?_ | refine wG_call c2 (ag_sl rfl rfl rfl cp_plain (ag_sl rfl rfl rfl msRow_plain (ag_sl rfl rfl rfl iRow_plain ag_nil))) rfl ?_ | refine wG_call c3 (ag_sl rfl rfl rfl cp_plain (ag_sl rfl rfl rfl msRow_plain (ag_sl rfl rfl rfl iRow_plain ag_nil))) rfl ?_ | refine wG_call c5 rfl rfl ?_ | refine wG_call c6 rfl rfl ?_ | refine wG_call c7 rfl rfl ?_ | refine wG_call c4C (ag_sl rfl rfl rfl cp_plain (ag_sl rfl rfl rfl cp_plain ag_nil)) rfl ?_ | refine wG_call c4M (ag_sl rfl rfl rfl msRow_plain (ag_sl rfl rfl rfl msRow_plain ag_nil)) rfl ?_ | refine wG_call c4I (ag_sl rfl rfl rfl iRow_plain (ag_sl rfl rfl rfl iRow_plain ag_nil)) rfl ?_
        | (refine wG_callS (f := 20) (sh20 xs 1 (by omega) (by decide) (by decide) rfl ?_) rfl ?_ <;> (repeat' (first | exact ltrI _ _ | exact ltrC _ _ | exact ltrM _ _ | exact ltrI [] _ | exact wfH_nil | refine wfH_cons (by decide) ?_ ?_ | refine wfH_none ?_ | exact ltr_dec rfl)))
        | (refine wG_callS (f := 26) (sh26 ms (1 + 3 * (xs.length : Int)) (by omega) (by omega) (by omega) rfl ?_) rfl ?_ <;> (repeat' (first | exact ltrI _ _ | exact ltrC _ _ | exact ltrM _ _ | exact ltrI [] _ | exact wfH_nil | refine wfH_cons (by decide) ?_ ?_ | refine wfH_none ?_ | exact ltr_dec rfl)))
        | (refine wG_callS (f := 11) (sh11 gs (1 + 3 * (xs.length : Int) + 2 * (ms.length : Int)) (by omega) (by omega) (by omega) rfl ?_) rfl ?_ <;> (repeat' (first | exact ltrI _ _ | exact ltrC _ _ | exact ltrM _ _ | exact ltrI [] _ | exact wfH_nil | refine wfH_cons (by decide) ?_ ?_ | refine wfH_none ?_ | exact ltr_dec rfl)))
        | (first
    | refine wC_a rfl ?_
    | refine q_s rfl ?_
    | refine q_b rfl ?_
    | refine wG_nil ?_
    | refine wG_g rfl ?_
    | refine wG_pure (o_len_vwm rfl) ?_
    | refine wG_pure (o_not_d rfl) ?_
    | refine wG_p rfl (by first | exact rfl | omega) ?_
    | refine wG_pure (o_not rfl) ?_
    | refine wG_pure (e_ia_vw0 rfl rfl (by omega) rfl) ?_
    | refine wG_pure (e_ia_vwp rfl rfl (by omega) rfl) ?_
    | refine wG_pure (e_ia_vwm rfl rfl (by omega) (by omega) rfl) ?_
    | refine wG_pure (e_ia_vwi rfl rfl (by omega) rfl) ?_
    | refine wG_pure (e_ia_vwn rfl rfl (by omega) (by omega) rfl) ?_
    | refine wG_n rfl rfl ?_
    | refine wG_u rfl rfl ?_
    | refine wG_new (o_mks rfl rfl (by omega) (by decide)) ?_) | (first
    | refine wE_nil (by kernel_rfl) ?_
    | refine wE_gy rfl ?_
    | refine wE_gn rfl rfl rfl ?_
    | refine wE_gu rfl rfl ?_
    | refine wE_gnn rfl rfl rfl ?_
    | refine wE_v (o_len_vwm rfl) rfl ?_
    | refine wE_v (o_not_d rfl) rfl ?_
    | refine wE_p rfl (by first | exact rfl | omega) rfl ?_
    | refine wE_v (o_not rfl) rfl ?_
    | refine wE_v (e_ia_vw0 rfl rfl (by omega) rfl) rfl ?_
    | refine wE_v (e_ia_vwp rfl rfl (by omega) rfl) rfl ?_
    | refine wE_v (e_ia_vwm rfl rfl (by omega) (by omega) rfl) rfl ?_
    | refine wE_v (e_ia_vwi rfl rfl (by omega) rfl) rfl ?_
    | refine wE_v (e_ia_vwn rfl rfl (by omega) (by omega) rfl) rfl ?_
    | refine wE_n rfl rfl rfl ?_
    | refine wE_u rfl rfl rfl ?_
    | refine wE_new (o_mks rfl rfl (by omega) (by decide)) rfl ?_) | (refine wG_gd rfl (fun hgt => ?_) (fun hgf => ?_) <;> (first | simp only [eq_true hgt, decide_true] | simp only [eq_false hgf, decide_false])) | refine wC_cond_d rfl (fun hg => ?_) (fun hg => ?_))
      all_goals (first | exact ret_boolE (.inr rfl) ⟨_, retV_mv rfl, rfl⟩ | (exfalso; omega) | trace_state)
  · by_cases g3 : gs.length ≤ 1048576
    · by_cases g1 : xs.length ≤ 1048576
      · rw [if_pos g1] at c0
        have cm := con21 n2 ms h2 (1048576 - (xs.length : Int)) (by omega) (by omega)
        rw [if_neg (show ¬ (ms.length : Int) ≤ 1048576 - (xs.length : Int) by omega)] at cm
        repeat' (first | refine wG_call c0 rfl rfl ?_ | refine wG_call cm rfl rfl ?_ | (first
    | refine wC_a rfl ?_
    | refine q_s rfl ?_
    | refine q_b rfl ?_
    | refine wG_nil ?_
    | refine wG_g rfl ?_
    | refine wG_pure (o_len_vwm rfl) ?_
    | refine wG_pure (o_not_d rfl) ?_
    | refine wG_p rfl (by first | exact rfl | omega) ?_
    | refine wG_pure (o_not rfl) ?_
    | refine wG_pure (e_ia_vw0 rfl rfl (by omega) rfl) ?_
    | refine wG_pure (e_ia_vwp rfl rfl (by omega) rfl) ?_
    | refine wG_pure (e_ia_vwm rfl rfl (by omega) (by omega) rfl) ?_
    | refine wG_pure (e_ia_vwi rfl rfl (by omega) rfl) ?_
    | refine wG_pure (e_ia_vwn rfl rfl (by omega) (by omega) rfl) ?_
    | refine wG_n rfl rfl ?_
    | refine wG_u rfl rfl ?_
    | refine wG_new (o_mks rfl rfl (by omega) (by decide)) ?_) | (refine wG_gd rfl (fun hgt => ?_) (fun hgf => ?_) <;> (first | simp only [eq_true hgt, decide_true] | simp only [eq_false hgf, decide_false])) | refine wC_cond_d rfl (fun hg => ?_) (fun hg => ?_))
        all_goals (first | exact ret_boolE (.inr rfl) ⟨_, retV_mv rfl, rfl⟩ | (exfalso; omega))
      · rw [if_neg g1] at c0
        repeat' (first | refine wG_call c0 rfl rfl ?_ | (first
    | refine wC_a rfl ?_
    | refine q_s rfl ?_
    | refine q_b rfl ?_
    | refine wG_nil ?_
    | refine wG_g rfl ?_
    | refine wG_pure (o_len_vwm rfl) ?_
    | refine wG_pure (o_not_d rfl) ?_
    | refine wG_p rfl (by first | exact rfl | omega) ?_
    | refine wG_pure (o_not rfl) ?_
    | refine wG_pure (e_ia_vw0 rfl rfl (by omega) rfl) ?_
    | refine wG_pure (e_ia_vwp rfl rfl (by omega) rfl) ?_
    | refine wG_pure (e_ia_vwm rfl rfl (by omega) (by omega) rfl) ?_
    | refine wG_pure (e_ia_vwi rfl rfl (by omega) rfl) ?_
    | refine wG_pure (e_ia_vwn rfl rfl (by omega) (by omega) rfl) ?_
    | refine wG_n rfl rfl ?_
    | refine wG_u rfl rfl ?_
    | refine wG_new (o_mks rfl rfl (by omega) (by decide)) ?_) | (refine wG_gd rfl (fun hgt => ?_) (fun hgf => ?_) <;> (first | simp only [eq_true hgt, decide_true] | simp only [eq_false hgf, decide_false])) | refine wC_cond_d rfl (fun hg => ?_) (fun hg => ?_))
        all_goals (first | exact ret_boolE (.inr rfl) ⟨_, retV_mv rfl, rfl⟩ | (exfalso; omega))
    · repeat' (first | (first
    | refine wC_a rfl ?_
    | refine q_s rfl ?_
    | refine q_b rfl ?_
    | refine wG_nil ?_
    | refine wG_g rfl ?_
    | refine wG_pure (o_len_vwm rfl) ?_
    | refine wG_pure (o_not_d rfl) ?_
    | refine wG_p rfl (by first | exact rfl | omega) ?_
    | refine wG_pure (o_not rfl) ?_
    | refine wG_pure (e_ia_vw0 rfl rfl (by omega) rfl) ?_
    | refine wG_pure (e_ia_vwp rfl rfl (by omega) rfl) ?_
    | refine wG_pure (e_ia_vwm rfl rfl (by omega) (by omega) rfl) ?_
    | refine wG_pure (e_ia_vwi rfl rfl (by omega) rfl) ?_
    | refine wG_pure (e_ia_vwn rfl rfl (by omega) (by omega) rfl) ?_
    | refine wG_n rfl rfl ?_
    | refine wG_u rfl rfl ?_
    | refine wG_new (o_mks rfl rfl (by omega) (by decide)) ?_) | (refine wG_gd rfl (fun hgt => ?_) (fun hgf => ?_) <;> (first | simp only [eq_true hgt, decide_true] | simp only [eq_false hgf, decide_false])) | refine wC_cond_d rfl (fun hg => ?_) (fun hg => ?_))
      all_goals (first | exact ret_boolE (.inr rfl) ⟨_, retV_mv rfl, rfl⟩ | (exfalso; omega))
end Go.Proofs.Ytkkcplcgafndgaa.Cal
namespace Go.Proofs.Ytkkcplcgafndgaa.WigF
open Go.ChangeShapes Go.WideShapes Go.ChangeAt Go.RowKit Go.Proofs.Ytkkcplcgafndgaa Go.Proofs.Ytkkcplcgafndgaa.Ab Go.Proofs.Ytkkcplcgafndgaa.Msr Go.Proofs.Ytkkcplcgafndgaa.Il
set_option linter.unusedVariables false

theorem own : ownKnob Try.prog.godebug = none := by kernel_rfl
theorem laidOut : laidOutB Try.prog = true := by kernel_rfl

theorem ty_point {row : List AV} (h : TY Try.prog 5 62 row) : ∃ p : CP, row = cpRow p := by
  simp only [TY, Try.underlying62, Try.underlying3, TYs] at h
  obtain ⟨_, _, rfl, ⟨y, rfl, _⟩, _, _, rfl, ⟨a, rfl, _⟩, _, _, rfl, ⟨e, rfl, _⟩, rfl⟩ := h
  exact ⟨⟨y, a, e⟩, rfl⟩
theorem ty_ms {row : List AV} (h : TY Try.prog 5 35 row) : ∃ p : Ms, row = msRow p := by
  simp only [TY, Try.underlying35, Try.underlying3, TYs] at h
  obtain ⟨_, _, rfl, ⟨a, rfl, _⟩, _, _, rfl, ⟨e, rfl, _⟩, rfl⟩ := h
  exact ⟨⟨a, e⟩, rfl⟩
theorem ty_int {row : List AV} {n : Nat} (h : TY Try.prog (n + 1) 3 row) : ∃ x : Int, row = iRow x := by
  simp only [TY, Try.underlying3] at h
  obtain ⟨x, rfl, _⟩ := h
  exact ⟨x, rfl⟩
set_option maxRecDepth 100000 in
theorem wigglePlacement_lifted (os : Os) (started : os.Started) (H : Type) (enc : TypeId × Value → H) :
    ReturnsInHanded {} Try.checked os 5 .any (Rows.fnExactWigglePlacementSpec.pre6 enc Try.prog Try.f5 Rows.fnExactWigglePlacementRow.domain false) (Rows.fnExactWigglePlacementSpec.post enc Try.prog Try.f5 false true false false) := by
  refine returnsInHanded_of_change_sized (C := Try.checked) own started (by kernel_rfl) Try.func5
    (ChangeSpec.witness6 (enc := enc) (C := Try.checked) false ⟨#[], #[.slice none 0 0, .slice none 0 0, .slice none 0 0], []⟩ 8 (by kernel_rfl) (by kernel_rfl) (by kernel_rfl) (by kernel_rfl)) ?_
  intro W base args ds gs before hval0 hW hcnd hsz0 _
  have hval : ∀ (j : Nat) t v, Try.f5.params[j]? = some t → args[j]? = some v → Value.okWide Try.prog W .any base t v := hval0
  have hW' := hW
  obtain ⟨p, q, hA0, hV, rfl, hfz, hnd⟩ := hW
  have hA : DataW.TrodAll enc Try.prog W 0 (fun _ => true) true Try.f5.params.toList args.toList ds p := hA0
  rw [Try.params5] at hA hval
  obtain ⟨v0, vs0, d0, ds0, p0, q0, hargs0, rfl, rfl, h0, r0⟩ := trodAll_cons hA
  obtain ⟨v1, vs1, d1, ds1, p1, q1, hargs1, rfl, rfl, h1, r1⟩ := trodAll_cons r0
  obtain ⟨v2, vs2, d2, ds2, p2, q2, hargs2, rfl, rfl, h2, r2⟩ := trodAll_cons r1
  obtain ⟨rfl, rfl, rfl⟩ := trodAll_nil r2
  subst hargs2
  subst hargs1
  obtain rfl : args = #[v0, v1, v2] := by cases args; simp_all
  obtain ⟨rfl, rfl⟩ := trodVars_none hV
  have lt0 : ∀ x ∈ p0, x.block < W.heap.size := by obtain ⟨m, hm⟩ := h0; exact DataW.trod_lt m _ _ _ hm
  obtain ⟨nn0, es0, V0, hl0, hr0⟩ := arg_sl (n := 5) Try.underlying33 (by kernel_rfl) (hval 0 33 v0 rfl rfl) h0
  have lt1 : ∀ x ∈ p1, x.block < W.heap.size := by obtain ⟨m, hm⟩ := h1; exact DataW.trod_lt m _ _ _ hm
  obtain ⟨nn1, es1, V1, hl1, hr1⟩ := arg_sl (n := 5) Try.underlying45 (by kernel_rfl) (hval 1 45 v1 rfl rfl) h1
  have lt2 : ∀ x ∈ p2, x.block < W.heap.size := by obtain ⟨m, hm⟩ := h2; exact DataW.trod_lt m _ _ _ hm
  obtain ⟨nn2, es2, V2, hl2, hr2⟩ := arg_sl (n := 5) Try.underlying22 (by kernel_rfl) (hval 2 22 v2 rfl rfl) h2
  clear hA0 hval0 hsz0
  obtain ⟨xs, rfl⟩ := rows_of es0 (fun r hr => ty_point (hr0 r hr))
  obtain ⟨ms, rfl⟩ := rows_of es1 (fun r hr => ty_ms (hr1 r hr))
  obtain ⟨gs, rfl⟩ := rows_of es2 (fun r hr => ty_int (hr2 r hr))
  refine (con_true (Cal.con5 nn0 nn1 nn2 xs ms gs (by simpa [Go.maxLen] using hl0) (by simpa [Go.maxLen] using hl1) (by simpa [Go.maxLen] using hl2)) (W := W) (cargs := #[v0, v1, v2]) (VL_3 V0 V1 V2)).mono fun e W' ⟨he, bel⟩ => ?_
  subst he
  exact ⟨_, rfl, _, _, _, [], _, [], hW', trodAll_mk1 (shut_bool Try.underlying4 _), (trodAll_cons_mk (Below.trod laidOut (by kernel_rfl) (of_decide_eq_true (by kernel_rfl)) h0 bel lt0) (trodAll_cons_mk (Below.trod laidOut (by kernel_rfl) (of_decide_eq_true (by kernel_rfl)) h1 bel lt1) (trodAll_cons_mk (Below.trod laidOut (by kernel_rfl) (of_decide_eq_true (by kernel_rfl)) h2 bel lt2) trodAll_mk0))), rfl, bel.frame _, fun h => by cases h⟩
theorem wigglePlacement_holds : Rows.FnExactWigglePlacementSaid :=
  OpenClaim.holds_of_wide 5 Try.f5 rfl rfl rfl rfl rfl rfl rfl ⟨rfl, rfl, rfl, rfl, rfl⟩ rfl rfl rfl rfl rfl (by kernel_rfl) Try.func5 (by kernel_rfl)
    (of_decide_eq_true (by kernel_rfl)) (by unfold Func.isWrapper; first | (rw [if_pos (by decide +kernel)]; kernel_rfl) | (rw [if_neg (by decide +kernel)]; exact ⟨rfl, rfl⟩))
    (fun os started H enc _ => wigglePlacement_lifted os started H enc)
#print axioms wigglePlacement_holds
end Go.Proofs.Ytkkcplcgafndgaa.WigF
