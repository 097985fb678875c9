/- Marks on records, dated lists and lists of intervals; intervals that are held. -/
import Derived.Test.YteoonedddgiacaaEvdD
namespace Go.Proofs.Yteoonedddgiacaa.Rec
open Go Go.Proofs.Yteoonedddgiacaa.Ab Go.Proofs.Yteoonedddgiacaa.Il
attribute [local irreducible] wpO wpC wpDr wpQ wpG wpE stepA seqQ blkQ Ret RetG ev
set_option maxRecDepth 10000
set_option maxHeartbeats 8000000
set_option linter.unusedSimpArgs false
set_option linter.unusedVariables false

def ac14 : AC := (.seq (.reg [⟨(some 2), none, (.box 2 true (.t 0))⟩, ⟨(some 4), none, (.mv (.c (.int .i64 0)))⟩]) (.seq (.reg [⟨(some 5), none, (.fa 0 (.t 2))⟩, ⟨(some 6), none, (.ld false 1 (.t 5))⟩, ⟨(some 7), none, (.mv (.t 1))⟩, ⟨(some 8), none, (.call 37 [(.t 6), (.t 7)])⟩, ⟨(some 1), none, (.mv (.t 8))⟩]) (.seq (.reg [⟨(some 9), none, (.fa 1 (.t 2))⟩, ⟨(some 10), none, (.ld false 1 (.t 9))⟩, ⟨(some 11), none, (.mv (.t 1))⟩, ⟨(some 12), none, (.call 38 [(.t 10), (.t 11)])⟩, ⟨(some 1), none, (.mv (.t 12))⟩]) (.seq (.reg [⟨(some 13), none, (.mv (.t 1))⟩, ⟨(some 4), none, (.mv (.t 13))⟩]) .ret))))
def ro14 : List AOp := [(.mv (.t 4))]
theorem fun14 : Fun Try.prog 14 14 ac14 ro14 := ⟨Try.f14, _, Try.func14, by kernel_rfl, rfl, rfl, by kernel_rfl, by kernel_rfl, by decide⟩
def ac15 : AC := (.seq (.reg [⟨(some 4), none, (.mv (.c (.int .i64 0)))⟩]) (.seq (.seq (.reg [⟨(some 5), none, (.mv (.c (.int .i64 0)))⟩]) (.blk 0 (.loop (.seq (.seq (.reg [⟨(some 6), none, (.mv (.t 5))⟩, ⟨(some 7), none, (.mv (.t 0))⟩, ⟨(some 8), none, (.len (.t 7))⟩, ⟨(some 9), none, (.bin .lss (.t 6) (.t 8))⟩]) (.cond (.t 9) .skip (.exit 0))) (.seq (.blk 1 (.seq (.reg [⟨(some 12), none, (.mv (.t 0))⟩, ⟨(some 13), none, (.mv (.t 5))⟩, ⟨(some 14), none, (.mv (.t 1))⟩, ⟨(some 15), none, (.ia 3 (.t 12) (.t 13))⟩, ⟨(some 16), none, (.fa 0 (.t 15))⟩, ⟨none, none, (.st 1 (.t 16) (.t 14))⟩]) (.seq (.reg [⟨(some 17), none, (.mv (.t 1))⟩, ⟨(some 18), none, (.bin .add (.t 17) (.c (.int .i64 1)))⟩, ⟨(some 1), none, (.mv (.t 18))⟩]) (.seq (.reg [⟨(some 19), none, (.mv (.t 0))⟩, ⟨(some 20), none, (.mv (.t 5))⟩, ⟨(some 21), none, (.mv (.t 1))⟩, ⟨(some 22), none, (.ia 3 (.t 19) (.t 20))⟩, ⟨(some 23), none, (.fa 1 (.t 22))⟩, ⟨(some 24), none, (.fa 0 (.t 23))⟩, ⟨none, none, (.st 1 (.t 24) (.t 21))⟩]) (.seq (.reg [⟨(some 25), none, (.mv (.t 1))⟩, ⟨(some 26), none, (.bin .add (.t 25) (.c (.int .i64 1)))⟩, ⟨(some 1), none, (.mv (.t 26))⟩]) (.seq (.reg [⟨(some 27), none, (.mv (.t 0))⟩, ⟨(some 28), none, (.mv (.t 5))⟩, ⟨(some 29), none, (.mv (.t 1))⟩, ⟨(some 30), none, (.ia 3 (.t 27) (.t 28))⟩, ⟨(some 31), none, (.fa 1 (.t 30))⟩, ⟨(some 32), none, (.fa 1 (.t 31))⟩, ⟨none, none, (.st 1 (.t 32) (.t 29))⟩]) (.reg [⟨(some 33), none, (.mv (.t 1))⟩, ⟨(some 34), none, (.bin .add (.t 33) (.c (.int .i64 1)))⟩, ⟨(some 1), none, (.mv (.t 34))⟩]))))))) (.reg [⟨(some 10), none, (.mv (.t 5))⟩, ⟨(some 11), none, (.bin .add (.t 10) (.c (.int .i64 1)))⟩, ⟨(some 5), none, (.mv (.t 11))⟩])))))) (.seq (.reg [⟨(some 35), none, (.mv (.t 1))⟩, ⟨(some 4), none, (.mv (.t 35))⟩]) .ret)))
def ro15 : List AOp := [(.mv (.t 4))]
theorem fun15 : Fun Try.prog 15 36 ac15 ro15 := ⟨Try.f15, _, Try.func15, by kernel_rfl, rfl, rfl, by kernel_rfl, by kernel_rfl, by decide⟩
def ac37 : AC := (.seq (.reg [⟨(some 4), none, (.mv (.c (.int .i64 0)))⟩]) (.seq (.seq (.reg [⟨(some 5), none, (.mv (.c (.int .i64 0)))⟩]) (.blk 0 (.loop (.seq (.seq (.reg [⟨(some 6), none, (.mv (.t 5))⟩, ⟨(some 7), none, (.mv (.t 0))⟩, ⟨(some 8), none, (.len (.t 7))⟩, ⟨(some 9), none, (.bin .lss (.t 6) (.t 8))⟩]) (.cond (.t 9) .skip (.exit 0))) (.seq (.blk 1 (.seq (.reg [⟨(some 12), none, (.mv (.t 0))⟩, ⟨(some 13), none, (.mv (.t 5))⟩, ⟨(some 14), none, (.mv (.t 1))⟩, ⟨(some 15), none, (.ia 2 (.t 12) (.t 13))⟩, ⟨(some 16), none, (.fa 0 (.t 15))⟩, ⟨none, none, (.st 1 (.t 16) (.t 14))⟩]) (.seq (.reg [⟨(some 17), none, (.mv (.t 1))⟩, ⟨(some 18), none, (.bin .add (.t 17) (.c (.int .i64 1)))⟩, ⟨(some 1), none, (.mv (.t 18))⟩]) (.seq (.reg [⟨(some 19), none, (.mv (.t 0))⟩, ⟨(some 20), none, (.mv (.t 5))⟩, ⟨(some 21), none, (.mv (.t 1))⟩, ⟨(some 22), none, (.ia 2 (.t 19) (.t 20))⟩, ⟨(some 23), none, (.fa 1 (.t 22))⟩, ⟨none, none, (.st 1 (.t 23) (.t 21))⟩]) (.reg [⟨(some 24), none, (.mv (.t 1))⟩, ⟨(some 25), none, (.bin .add (.t 24) (.c (.int .i64 1)))⟩, ⟨(some 1), none, (.mv (.t 25))⟩]))))) (.reg [⟨(some 10), none, (.mv (.t 5))⟩, ⟨(some 11), none, (.bin .add (.t 10) (.c (.int .i64 1)))⟩, ⟨(some 5), none, (.mv (.t 11))⟩])))))) (.seq (.reg [⟨(some 26), none, (.mv (.t 1))⟩, ⟨(some 4), none, (.mv (.t 26))⟩]) .ret)))
def ro37 : List AOp := [(.mv (.t 4))]
theorem fun37 : Fun Try.prog 37 27 ac37 ro37 := ⟨Try.f37, _, Try.func37, by kernel_rfl, rfl, rfl, by kernel_rfl, by kernel_rfl, by decide⟩
def ac38 : AC := (.seq (.reg [⟨(some 4), none, (.mv (.c (.int .i64 0)))⟩]) (.seq (.seq (.reg [⟨(some 5), none, (.mv (.c (.int .i64 0)))⟩]) (.blk 0 (.loop (.seq (.seq (.reg [⟨(some 6), none, (.mv (.t 5))⟩, ⟨(some 7), none, (.mv (.t 0))⟩, ⟨(some 8), none, (.len (.t 7))⟩, ⟨(some 9), none, (.bin .lss (.t 6) (.t 8))⟩]) (.cond (.t 9) .skip (.exit 0))) (.seq (.blk 1 (.seq (.reg [⟨(some 12), none, (.mv (.t 0))⟩, ⟨(some 13), none, (.mv (.t 5))⟩, ⟨(some 14), none, (.mv (.t 1))⟩, ⟨(some 15), none, (.ia 2 (.t 12) (.t 13))⟩, ⟨(some 16), none, (.fa 0 (.t 15))⟩, ⟨none, none, (.st 1 (.t 16) (.t 14))⟩]) (.seq (.reg [⟨(some 17), none, (.mv (.t 1))⟩, ⟨(some 18), none, (.bin .add (.t 17) (.c (.int .i64 1)))⟩, ⟨(some 1), none, (.mv (.t 18))⟩]) (.seq (.reg [⟨(some 19), none, (.mv (.t 0))⟩, ⟨(some 20), none, (.mv (.t 5))⟩, ⟨(some 21), none, (.mv (.t 1))⟩, ⟨(some 22), none, (.ia 2 (.t 19) (.t 20))⟩, ⟨(some 23), none, (.fa 1 (.t 22))⟩, ⟨none, none, (.st 1 (.t 23) (.t 21))⟩]) (.reg [⟨(some 24), none, (.mv (.t 1))⟩, ⟨(some 25), none, (.bin .add (.t 24) (.c (.int .i64 1)))⟩, ⟨(some 1), none, (.mv (.t 25))⟩]))))) (.reg [⟨(some 10), none, (.mv (.t 5))⟩, ⟨(some 11), none, (.bin .add (.t 10) (.c (.int .i64 1)))⟩, ⟨(some 5), none, (.mv (.t 11))⟩])))))) (.seq (.reg [⟨(some 26), none, (.mv (.t 1))⟩, ⟨(some 4), none, (.mv (.t 26))⟩]) .ret)))
def ro38 : List AOp := [(.mv (.t 4))]
theorem fun38 : Fun Try.prog 38 27 ac38 ro38 := ⟨Try.f38, _, Try.func38, by kernel_rfl, rfl, rfl, by kernel_rfl, by kernel_rfl, by decide⟩


def mkCn (k : Int) (n : Nat) : List Cn := (List.range n).map fun i : Nat => ⟨k + 2 * (i : Int), k + 2 * (i : Int) + 1⟩
theorem mkCn_len (k : Int) (n : Nat) : (mkCn k n).length = n := by simp [mkCn]
theorem mkCn_get (k : Int) (n i : Nat) (h : i < n) : (mkCn k n).getD i default = ⟨k + 2 * (i : Int), k + 2 * (i : Int) + 1⟩ := by
  simp [mkCn, List.getD_eq_getElem?_getD, List.getElem?_eq_getElem, h]
def mdCn (xs : List Cn) (k : Int) (i : Nat) : List Cn := mkCn k i ++ xs.drop i
theorem mdCn_len (xs : List Cn) (k : Int) (i : Nat) (h : i ≤ xs.length) : (mdCn xs k i).length = xs.length := by simp [mdCn, mkCn_len]; omega
theorem mdCn_end (xs : List Cn) (k : Int) : mdCn xs k xs.length = mkCn k xs.length := by simp [mdCn]
theorem mdCn_set (xs : List Cn) (k : Int) (i : Nat) (h : i < xs.length) : (mdCn xs k i).set i ⟨k + 2 * (i : Int), k + 2 * (i : Int) + 1⟩ = mdCn xs k (i + 1) := by
  unfold mdCn
  rw [List.set_append_right _ _ (by rw [mkCn_len]; omega), mkCn_len, Nat.sub_self, List.drop_eq_getElem_cons h, List.set_cons_zero]
  have : mkCn k (i + 1) = mkCn k i ++ [⟨k + 2 * (i : Int), k + 2 * (i : Int) + 1⟩] := by simp [mkCn, List.range_succ]
  rw [this, List.append_assoc]
  rfl
theorem sh37 (xs : List Cn) (k : Int) (hn : xs.length ≤ 4294967296) (h0 : 0 ≤ k) (h1 : k ≤ 4294967296000) {h : List (Nat × Option Ab.Rows)} {nr r : Nat} (hr : hg h r = some (xs.map cRow)) (hw : wfH h nr) :
    Sh Try.prog 37 [.sl r 2 0 xs.length, .int .i64 k] h nr (.int .i64 (k + 2 * xs.length)) ((r, some ((mkCn k xs.length).map cRow)) :: h) nr := by
  have ltrCn : ∀ (ws : List Cn) (m : Nat), ∀ row ∈ ws.map cRow, ∀ x ∈ row, AV.ltr m x = true := fun ws m => rows_ltr _ m fun row hr x hx => by
    obtain ⟨p, _, rfl⟩ := List.mem_map.1 hr
    exact cRow_plain p x hx
  refine sh_of_wp mixed fun37 (by simp) ?_
  unfold ac37 ro37
  simp only [zipT]
  have hrn := (hw r _ hr).1
  repeat (first
    | refine wC_a rfl ?_
    | refine q_s rfl ?_
    | refine q_b rfl ?_
    | refine wG_nil ?_
    | refine wG_g rfl ?_
    | refine wG_pure (o_len_vwm rfl) ?_
    | refine wG_pure (o_not_d rfl) ?_
    | refine wG_p rfl (by first | exact rfl | omega) ?_
    | refine wG_pure (o_str2 rfl rfl rfl) ?_
    | refine wG_pure (e_istr rfl rfl (by omega)) ?_
    | refine wG_pure (e_istr0 rfl rfl (by omega)) ?_
    | refine wG_pure (o_not rfl) ?_
    | refine wG_pure (e_ia_vw0 rfl rfl (by omega) rfl) ?_
    | refine wG_pure (e_ia_vwp rfl rfl (by omega) rfl) ?_
    | refine wG_pure (e_ia_vwm rfl rfl (by omega) (by omega) rfl) ?_
    | refine wG_pure (e_ia_vwi rfl rfl (by omega) rfl) ?_
    | refine wG_pure (e_ia_vwn rfl rfl (by omega) (by omega) rfl) ?_
    | refine wG_n rfl rfl ?_
    | refine wG_u rfl rfl ?_
    | refine wG_new (o_mks rfl rfl (by omega) (by decide)) ?_)
  refine wC_loopS Nat (fun i => ⟨[(0, .sl r 2 0 xs.length), (1, .int .i64 (k + 2 * i)), (5, .int .i64 (i : Int))], (r, some ((mdCn xs k i).map cRow)) :: h, nr⟩) (fun i => i ≤ xs.length) (fun i => xs.length - i) 0 (Nat.zero_le _) ?_ (fun _ _ => Nat.le_refl _) ?_
  · refine Le_of (by simp [leT, lk, AV.ltr, hrn]) (fun q rows hq => ?_) (wfH_cons hrn (ltrCn _ _) hw)
    simp only [Ab.hg, upd] at hq ⊢
    split at hq
    · rename_i e; subst e; cases hq; simpa [mdCn, mkCn, Ab.hg] using hr
    · exact hq
  intro i hi
  have hml := mdCn_len xs k i hi
  repeat (first
    | refine wC_a rfl ?_
    | refine q_s rfl ?_
    | refine q_b rfl ?_
    | refine wG_nil ?_
    | refine wG_g rfl ?_
    | refine wG_pure (o_len_vwm rfl) ?_
    | refine wG_pure (o_not_d rfl) ?_
    | refine wG_p rfl (by first | exact rfl | omega) ?_
    | refine wG_pure (o_str2 rfl rfl rfl) ?_
    | refine wG_pure (e_istr rfl rfl (by omega)) ?_
    | refine wG_pure (e_istr0 rfl rfl (by omega)) ?_
    | refine wG_pure (o_not rfl) ?_
    | refine wG_pure (e_ia_vw0 rfl rfl (by omega) rfl) ?_
    | refine wG_pure (e_ia_vwp rfl rfl (by omega) rfl) ?_
    | refine wG_pure (e_ia_vwm rfl rfl (by omega) (by omega) rfl) ?_
    | refine wG_pure (e_ia_vwi rfl rfl (by omega) rfl) ?_
    | refine wG_pure (e_ia_vwn rfl rfl (by omega) (by omega) rfl) ?_
    | refine wG_n rfl rfl ?_
    | refine wG_u rfl rfl ?_
    | refine wG_new (o_mks rfl rfl (by omega) (by decide)) ?_)
  refine wC_cond_d rfl (fun h2 => ?_) (fun h2 => ?_)
  · have hi2 : i < xs.length := by omega
    have e0 : 0 + ((i : Int)).toNat = i := by simp
    have hge : ((mdCn xs k i).map cRow)[i]? = some (cRow ((mdCn xs k i).getD i default)) := by
      simp [List.getElem?_map, List.getElem?_eq_getElem (show i < (mdCn xs k i).length by omega), List.getD_eq_getElem?_getD]
    have hgs : ∀ (rw : List AV) (rows : List (List AV)), rows.length = xs.length → (rows.set i rw)[i]? = some rw := by
      intro rw rows hl
      rw [List.getElem?_set_self (by omega)]
    repeat (first
    | refine wC_a rfl ?_
    | refine q_s rfl ?_
    | refine q_b rfl ?_
    | refine wG_nil ?_
    | refine wG_g rfl ?_
    | refine wG_pure (o_len_vwm rfl) ?_
    | refine wG_pure (o_not_d rfl) ?_
    | refine wG_p rfl (by first | exact rfl | omega) ?_
    | refine wG_pure (o_str2 rfl rfl rfl) ?_
    | refine wG_pure (e_istr rfl rfl (by omega)) ?_
    | refine wG_pure (e_istr0 rfl rfl (by omega)) ?_
    | refine wG_pure (o_not rfl) ?_
    | refine wG_pure (e_ia_vw0 rfl rfl (by omega) rfl) ?_
    | refine wG_pure (e_ia_vwp rfl rfl (by omega) rfl) ?_
    | refine wG_pure (e_ia_vwm rfl rfl (by omega) (by omega) rfl) ?_
    | refine wG_pure (e_ia_vwi rfl rfl (by omega) rfl) ?_
    | refine wG_pure (e_ia_vwn rfl rfl (by omega) (by omega) rfl) ?_
    | refine wG_n rfl rfl ?_
    | refine wG_u rfl rfl ?_
    | refine wG_new (o_mks rfl rfl (by omega) (by decide)) ?_)
    refine wG_pure (e_ia_sl rfl rfl (by omega) (by omega)) ?_
    simp only [e0]
    repeat (first
    | refine wC_a rfl ?_
    | refine q_s rfl ?_
    | refine q_b rfl ?_
    | refine wG_nil ?_
    | refine wG_g rfl ?_
    | refine wG_pure (o_len_vwm rfl) ?_
    | refine wG_pure (o_not_d rfl) ?_
    | refine wG_p rfl (by first | exact rfl | omega) ?_
    | refine wG_pure (o_str2 rfl rfl rfl) ?_
    | refine wG_pure (e_istr rfl rfl (by omega)) ?_
    | refine wG_pure (e_istr0 rfl rfl (by omega)) ?_
    | refine wG_pure (o_not rfl) ?_
    | refine wG_pure (e_ia_vw0 rfl rfl (by omega) rfl) ?_
    | refine wG_pure (e_ia_vwp rfl rfl (by omega) rfl) ?_
    | refine wG_pure (e_ia_vwm rfl rfl (by omega) (by omega) rfl) ?_
    | refine wG_pure (e_ia_vwi rfl rfl (by omega) rfl) ?_
    | refine wG_pure (e_ia_vwn rfl rfl (by omega) (by omega) rfl) ?_
    | refine wG_n rfl rfl ?_
    | refine wG_u rfl rfl ?_
    | refine wG_new (o_mks rfl rfl (by omega) (by decide)) ?_)
    refine wG_upd (o_st_int rfl hg_here hge rfl rfl rfl) ?_
    repeat (first
    | refine wC_a rfl ?_
    | refine q_s rfl ?_
    | refine q_b rfl ?_
    | refine wG_nil ?_
    | refine wG_g rfl ?_
    | refine wG_pure (o_len_vwm rfl) ?_
    | refine wG_pure (o_not_d rfl) ?_
    | refine wG_p rfl (by first | exact rfl | omega) ?_
    | refine wG_pure (o_str2 rfl rfl rfl) ?_
    | refine wG_pure (e_istr rfl rfl (by omega)) ?_
    | refine wG_pure (e_istr0 rfl rfl (by omega)) ?_
    | refine wG_pure (o_not rfl) ?_
    | refine wG_pure (e_ia_vw0 rfl rfl (by omega) rfl) ?_
    | refine wG_pure (e_ia_vwp rfl rfl (by omega) rfl) ?_
    | refine wG_pure (e_ia_vwm rfl rfl (by omega) (by omega) rfl) ?_
    | refine wG_pure (e_ia_vwi rfl rfl (by omega) rfl) ?_
    | refine wG_pure (e_ia_vwn rfl rfl (by omega) (by omega) rfl) ?_
    | refine wG_n rfl rfl ?_
    | refine wG_u rfl rfl ?_
    | refine wG_new (o_mks rfl rfl (by omega) (by decide)) ?_)
    refine wG_pure (e_ia_sl rfl rfl (by omega) (by omega)) ?_
    simp only [e0]
    repeat (first
    | refine wC_a rfl ?_
    | refine q_s rfl ?_
    | refine q_b rfl ?_
    | refine wG_nil ?_
    | refine wG_g rfl ?_
    | refine wG_pure (o_len_vwm rfl) ?_
    | refine wG_pure (o_not_d rfl) ?_
    | refine wG_p rfl (by first | exact rfl | omega) ?_
    | refine wG_pure (o_str2 rfl rfl rfl) ?_
    | refine wG_pure (e_istr rfl rfl (by omega)) ?_
    | refine wG_pure (e_istr0 rfl rfl (by omega)) ?_
    | refine wG_pure (o_not rfl) ?_
    | refine wG_pure (e_ia_vw0 rfl rfl (by omega) rfl) ?_
    | refine wG_pure (e_ia_vwp rfl rfl (by omega) rfl) ?_
    | refine wG_pure (e_ia_vwm rfl rfl (by omega) (by omega) rfl) ?_
    | refine wG_pure (e_ia_vwi rfl rfl (by omega) rfl) ?_
    | refine wG_pure (e_ia_vwn rfl rfl (by omega) (by omega) rfl) ?_
    | refine wG_n rfl rfl ?_
    | refine wG_u rfl rfl ?_
    | refine wG_new (o_mks rfl rfl (by omega) (by decide)) ?_)
    refine wG_upd (o_st_int rfl hg_here (hgs _ _ (by rw [List.length_map, hml])) rfl rfl rfl) ?_
    repeat (first
    | refine wC_a rfl ?_
    | refine q_s rfl ?_
    | refine q_b rfl ?_
    | refine wG_nil ?_
    | refine wG_g rfl ?_
    | refine wG_pure (o_len_vwm rfl) ?_
    | refine wG_pure (o_not_d rfl) ?_
    | refine wG_p rfl (by first | exact rfl | omega) ?_
    | refine wG_pure (o_str2 rfl rfl rfl) ?_
    | refine wG_pure (e_istr rfl rfl (by omega)) ?_
    | refine wG_pure (e_istr0 rfl rfl (by omega)) ?_
    | refine wG_pure (o_not rfl) ?_
    | refine wG_pure (e_ia_vw0 rfl rfl (by omega) rfl) ?_
    | refine wG_pure (e_ia_vwp rfl rfl (by omega) rfl) ?_
    | refine wG_pure (e_ia_vwm rfl rfl (by omega) (by omega) rfl) ?_
    | refine wG_pure (e_ia_vwi rfl rfl (by omega) rfl) ?_
    | refine wG_pure (e_ia_vwn rfl rfl (by omega) (by omega) rfl) ?_
    | refine wG_n rfl rfl ?_
    | refine wG_u rfl rfl ?_
    | refine wG_new (o_mks rfl rfl (by omega) (by decide)) ?_)
    refine ⟨i + 1, by omega, by omega, Le_of (by simp [leT, lk, AV.ltr, hrn]; omega) (fun q rows hq => ?_) (wfH_cons hrn (ltrCn _ _) hw)⟩
    simp only [Ab.hg, upd] at hq ⊢
    split at hq
    · rename_i e
      subst e
      rw [if_pos rfl, ← hq, List.set_set, ← mdCn_set xs k i hi2, List.map_set]
      rfl
    · rename_i e; simp only [if_neg e]; exact hq
  · have hi3 : i = xs.length := by omega
    subst hi3
    repeat (first
    | refine wC_a rfl ?_
    | refine q_s rfl ?_
    | refine q_b rfl ?_
    | refine wG_nil ?_
    | refine wG_g rfl ?_
    | refine wG_pure (o_len_vwm rfl) ?_
    | refine wG_pure (o_not_d rfl) ?_
    | refine wG_p rfl (by first | exact rfl | omega) ?_
    | refine wG_pure (o_str2 rfl rfl rfl) ?_
    | refine wG_pure (e_istr rfl rfl (by omega)) ?_
    | refine wG_pure (e_istr0 rfl rfl (by omega)) ?_
    | refine wG_pure (o_not rfl) ?_
    | refine wG_pure (e_ia_vw0 rfl rfl (by omega) rfl) ?_
    | refine wG_pure (e_ia_vwp rfl rfl (by omega) rfl) ?_
    | refine wG_pure (e_ia_vwm rfl rfl (by omega) (by omega) rfl) ?_
    | refine wG_pure (e_ia_vwi rfl rfl (by omega) rfl) ?_
    | refine wG_pure (e_ia_vwn rfl rfl (by omega) (by omega) rfl) ?_
    | refine wG_n rfl rfl ?_
    | refine wG_u rfl rfl ?_
    | refine wG_new (o_mks rfl rfl (by omega) (by decide)) ?_)
    refine ⟨trivial, _, retVs_1 (retV_mv rfl), ?_, Nat.le_refl _⟩
    rw [mdCn_end]
    exact Le_of ⟨⟨rfl, rfl⟩, trivial⟩ (fun _ _ h => h) (wfH_cons hrn (ltrCn _ _) hw)
def mkRl (k : Int) (n : Nat) : List Rl := (List.range n).map fun i : Nat => ⟨k + 2 * (i : Int), k + 2 * (i : Int) + 1⟩
theorem mkRl_len (k : Int) (n : Nat) : (mkRl k n).length = n := by simp [mkRl]
theorem mkRl_get (k : Int) (n i : Nat) (h : i < n) : (mkRl k n).getD i default = ⟨k + 2 * (i : Int), k + 2 * (i : Int) + 1⟩ := by
  simp [mkRl, List.getD_eq_getElem?_getD, List.getElem?_eq_getElem, h]
def mdRl (xs : List Rl) (k : Int) (i : Nat) : List Rl := mkRl k i ++ xs.drop i
theorem mdRl_len (xs : List Rl) (k : Int) (i : Nat) (h : i ≤ xs.length) : (mdRl xs k i).length = xs.length := by simp [mdRl, mkRl_len]; omega
theorem mdRl_end (xs : List Rl) (k : Int) : mdRl xs k xs.length = mkRl k xs.length := by simp [mdRl]
theorem mdRl_set (xs : List Rl) (k : Int) (i : Nat) (h : i < xs.length) : (mdRl xs k i).set i ⟨k + 2 * (i : Int), k + 2 * (i : Int) + 1⟩ = mdRl xs k (i + 1) := by
  unfold mdRl
  rw [List.set_append_right _ _ (by rw [mkRl_len]; omega), mkRl_len, Nat.sub_self, List.drop_eq_getElem_cons h, List.set_cons_zero]
  have : mkRl k (i + 1) = mkRl k i ++ [⟨k + 2 * (i : Int), k + 2 * (i : Int) + 1⟩] := by simp [mkRl, List.range_succ]
  rw [this, List.append_assoc]
  rfl
theorem sh38 (xs : List Rl) (k : Int) (hn : xs.length ≤ 4294967296) (h0 : 0 ≤ k) (h1 : k ≤ 4294967296000) {h : List (Nat × Option Ab.Rows)} {nr r : Nat} (hr : hg h r = some (xs.map xRow)) (hw : wfH h nr) :
    Sh Try.prog 38 [.sl r 2 0 xs.length, .int .i64 k] h nr (.int .i64 (k + 2 * xs.length)) ((r, some ((mkRl k xs.length).map xRow)) :: h) nr := by
  have ltrRl : ∀ (ws : List Rl) (m : Nat), ∀ row ∈ ws.map xRow, ∀ x ∈ row, AV.ltr m x = true := fun ws m => rows_ltr _ m fun row hr x hx => by
    obtain ⟨p, _, rfl⟩ := List.mem_map.1 hr
    exact xRow_plain p x hx
  refine sh_of_wp mixed fun38 (by simp) ?_
  unfold ac38 ro38
  simp only [zipT]
  have hrn := (hw r _ hr).1
  repeat (first
    | refine wC_a rfl ?_
    | refine q_s rfl ?_
    | refine q_b rfl ?_
    | refine wG_nil ?_
    | refine wG_g rfl ?_
    | refine wG_pure (o_len_vwm rfl) ?_
    | refine wG_pure (o_not_d rfl) ?_
    | refine wG_p rfl (by first | exact rfl | omega) ?_
    | refine wG_pure (o_str2 rfl rfl rfl) ?_
    | refine wG_pure (e_istr rfl rfl (by omega)) ?_
    | refine wG_pure (e_istr0 rfl rfl (by omega)) ?_
    | refine wG_pure (o_not rfl) ?_
    | refine wG_pure (e_ia_vw0 rfl rfl (by omega) rfl) ?_
    | refine wG_pure (e_ia_vwp rfl rfl (by omega) rfl) ?_
    | refine wG_pure (e_ia_vwm rfl rfl (by omega) (by omega) rfl) ?_
    | refine wG_pure (e_ia_vwi rfl rfl (by omega) rfl) ?_
    | refine wG_pure (e_ia_vwn rfl rfl (by omega) (by omega) rfl) ?_
    | refine wG_n rfl rfl ?_
    | refine wG_u rfl rfl ?_
    | refine wG_new (o_mks rfl rfl (by omega) (by decide)) ?_)
  refine wC_loopS Nat (fun i => ⟨[(0, .sl r 2 0 xs.length), (1, .int .i64 (k + 2 * i)), (5, .int .i64 (i : Int))], (r, some ((mdRl xs k i).map xRow)) :: h, nr⟩) (fun i => i ≤ xs.length) (fun i => xs.length - i) 0 (Nat.zero_le _) ?_ (fun _ _ => Nat.le_refl _) ?_
  · refine Le_of (by simp [leT, lk, AV.ltr, hrn]) (fun q rows hq => ?_) (wfH_cons hrn (ltrRl _ _) hw)
    simp only [Ab.hg, upd] at hq ⊢
    split at hq
    · rename_i e; subst e; cases hq; simpa [mdRl, mkRl, Ab.hg] using hr
    · exact hq
  intro i hi
  have hml := mdRl_len xs k i hi
  repeat (first
    | refine wC_a rfl ?_
    | refine q_s rfl ?_
    | refine q_b rfl ?_
    | refine wG_nil ?_
    | refine wG_g rfl ?_
    | refine wG_pure (o_len_vwm rfl) ?_
    | refine wG_pure (o_not_d rfl) ?_
    | refine wG_p rfl (by first | exact rfl | omega) ?_
    | refine wG_pure (o_str2 rfl rfl rfl) ?_
    | refine wG_pure (e_istr rfl rfl (by omega)) ?_
    | refine wG_pure (e_istr0 rfl rfl (by omega)) ?_
    | refine wG_pure (o_not rfl) ?_
    | refine wG_pure (e_ia_vw0 rfl rfl (by omega) rfl) ?_
    | refine wG_pure (e_ia_vwp rfl rfl (by omega) rfl) ?_
    | refine wG_pure (e_ia_vwm rfl rfl (by omega) (by omega) rfl) ?_
    | refine wG_pure (e_ia_vwi rfl rfl (by omega) rfl) ?_
    | refine wG_pure (e_ia_vwn rfl rfl (by omega) (by omega) rfl) ?_
    | refine wG_n rfl rfl ?_
    | refine wG_u rfl rfl ?_
    | refine wG_new (o_mks rfl rfl (by omega) (by decide)) ?_)
  refine wC_cond_d rfl (fun h2 => ?_) (fun h2 => ?_)
  · have hi2 : i < xs.length := by omega
    have e0 : 0 + ((i : Int)).toNat = i := by simp
    have hge : ((mdRl xs k i).map xRow)[i]? = some (xRow ((mdRl xs k i).getD i default)) := by
      simp [List.getElem?_map, List.getElem?_eq_getElem (show i < (mdRl xs k i).length by omega), List.getD_eq_getElem?_getD]
    have hgs : ∀ (rw : List AV) (rows : List (List AV)), rows.length = xs.length → (rows.set i rw)[i]? = some rw := by
      intro rw rows hl
      rw [List.getElem?_set_self (by omega)]
    repeat (first
    | refine wC_a rfl ?_
    | refine q_s rfl ?_
    | refine q_b rfl ?_
    | refine wG_nil ?_
    | refine wG_g rfl ?_
    | refine wG_pure (o_len_vwm rfl) ?_
    | refine wG_pure (o_not_d rfl) ?_
    | refine wG_p rfl (by first | exact rfl | omega) ?_
    | refine wG_pure (o_str2 rfl rfl rfl) ?_
    | refine wG_pure (e_istr rfl rfl (by omega)) ?_
    | refine wG_pure (e_istr0 rfl rfl (by omega)) ?_
    | refine wG_pure (o_not rfl) ?_
    | refine wG_pure (e_ia_vw0 rfl rfl (by omega) rfl) ?_
    | refine wG_pure (e_ia_vwp rfl rfl (by omega) rfl) ?_
    | refine wG_pure (e_ia_vwm rfl rfl (by omega) (by omega) rfl) ?_
    | refine wG_pure (e_ia_vwi rfl rfl (by omega) rfl) ?_
    | refine wG_pure (e_ia_vwn rfl rfl (by omega) (by omega) rfl) ?_
    | refine wG_n rfl rfl ?_
    | refine wG_u rfl rfl ?_
    | refine wG_new (o_mks rfl rfl (by omega) (by decide)) ?_)
    refine wG_pure (e_ia_sl rfl rfl (by omega) (by omega)) ?_
    simp only [e0]
    repeat (first
    | refine wC_a rfl ?_
    | refine q_s rfl ?_
    | refine q_b rfl ?_
    | refine wG_nil ?_
    | refine wG_g rfl ?_
    | refine wG_pure (o_len_vwm rfl) ?_
    | refine wG_pure (o_not_d rfl) ?_
    | refine wG_p rfl (by first | exact rfl | omega) ?_
    | refine wG_pure (o_str2 rfl rfl rfl) ?_
    | refine wG_pure (e_istr rfl rfl (by omega)) ?_
    | refine wG_pure (e_istr0 rfl rfl (by omega)) ?_
    | refine wG_pure (o_not rfl) ?_
    | refine wG_pure (e_ia_vw0 rfl rfl (by omega) rfl) ?_
    | refine wG_pure (e_ia_vwp rfl rfl (by omega) rfl) ?_
    | refine wG_pure (e_ia_vwm rfl rfl (by omega) (by omega) rfl) ?_
    | refine wG_pure (e_ia_vwi rfl rfl (by omega) rfl) ?_
    | refine wG_pure (e_ia_vwn rfl rfl (by omega) (by omega) rfl) ?_
    | refine wG_n rfl rfl ?_
    | refine wG_u rfl rfl ?_
    | refine wG_new (o_mks rfl rfl (by omega) (by decide)) ?_)
    refine wG_upd (o_st_int rfl hg_here hge rfl rfl rfl) ?_
    repeat (first
    | refine wC_a rfl ?_
    | refine q_s rfl ?_
    | refine q_b rfl ?_
    | refine wG_nil ?_
    | refine wG_g rfl ?_
    | refine wG_pure (o_len_vwm rfl) ?_
    | refine wG_pure (o_not_d rfl) ?_
    | refine wG_p rfl (by first | exact rfl | omega) ?_
    | refine wG_pure (o_str2 rfl rfl rfl) ?_
    | refine wG_pure (e_istr rfl rfl (by omega)) ?_
    | refine wG_pure (e_istr0 rfl rfl (by omega)) ?_
    | refine wG_pure (o_not rfl) ?_
    | refine wG_pure (e_ia_vw0 rfl rfl (by omega) rfl) ?_
    | refine wG_pure (e_ia_vwp rfl rfl (by omega) rfl) ?_
    | refine wG_pure (e_ia_vwm rfl rfl (by omega) (by omega) rfl) ?_
    | refine wG_pure (e_ia_vwi rfl rfl (by omega) rfl) ?_
    | refine wG_pure (e_ia_vwn rfl rfl (by omega) (by omega) rfl) ?_
    | refine wG_n rfl rfl ?_
    | refine wG_u rfl rfl ?_
    | refine wG_new (o_mks rfl rfl (by omega) (by decide)) ?_)
    refine wG_pure (e_ia_sl rfl rfl (by omega) (by omega)) ?_
    simp only [e0]
    repeat (first
    | refine wC_a rfl ?_
    | refine q_s rfl ?_
    | refine q_b rfl ?_
    | refine wG_nil ?_
    | refine wG_g rfl ?_
    | refine wG_pure (o_len_vwm rfl) ?_
    | refine wG_pure (o_not_d rfl) ?_
    | refine wG_p rfl (by first | exact rfl | omega) ?_
    | refine wG_pure (o_str2 rfl rfl rfl) ?_
    | refine wG_pure (e_istr rfl rfl (by omega)) ?_
    | refine wG_pure (e_istr0 rfl rfl (by omega)) ?_
    | refine wG_pure (o_not rfl) ?_
    | refine wG_pure (e_ia_vw0 rfl rfl (by omega) rfl) ?_
    | refine wG_pure (e_ia_vwp rfl rfl (by omega) rfl) ?_
    | refine wG_pure (e_ia_vwm rfl rfl (by omega) (by omega) rfl) ?_
    | refine wG_pure (e_ia_vwi rfl rfl (by omega) rfl) ?_
    | refine wG_pure (e_ia_vwn rfl rfl (by omega) (by omega) rfl) ?_
    | refine wG_n rfl rfl ?_
    | refine wG_u rfl rfl ?_
    | refine wG_new (o_mks rfl rfl (by omega) (by decide)) ?_)
    refine wG_upd (o_st_int rfl hg_here (hgs _ _ (by rw [List.length_map, hml])) rfl rfl rfl) ?_
    repeat (first
    | refine wC_a rfl ?_
    | refine q_s rfl ?_
    | refine q_b rfl ?_
    | refine wG_nil ?_
    | refine wG_g rfl ?_
    | refine wG_pure (o_len_vwm rfl) ?_
    | refine wG_pure (o_not_d rfl) ?_
    | refine wG_p rfl (by first | exact rfl | omega) ?_
    | refine wG_pure (o_str2 rfl rfl rfl) ?_
    | refine wG_pure (e_istr rfl rfl (by omega)) ?_
    | refine wG_pure (e_istr0 rfl rfl (by omega)) ?_
    | refine wG_pure (o_not rfl) ?_
    | refine wG_pure (e_ia_vw0 rfl rfl (by omega) rfl) ?_
    | refine wG_pure (e_ia_vwp rfl rfl (by omega) rfl) ?_
    | refine wG_pure (e_ia_vwm rfl rfl (by omega) (by omega) rfl) ?_
    | refine wG_pure (e_ia_vwi rfl rfl (by omega) rfl) ?_
    | refine wG_pure (e_ia_vwn rfl rfl (by omega) (by omega) rfl) ?_
    | refine wG_n rfl rfl ?_
    | refine wG_u rfl rfl ?_
    | refine wG_new (o_mks rfl rfl (by omega) (by decide)) ?_)
    refine ⟨i + 1, by omega, by omega, Le_of (by simp [leT, lk, AV.ltr, hrn]; omega) (fun q rows hq => ?_) (wfH_cons hrn (ltrRl _ _) hw)⟩
    simp only [Ab.hg, upd] at hq ⊢
    split at hq
    · rename_i e
      subst e
      rw [if_pos rfl, ← hq, List.set_set, ← mdRl_set xs k i hi2, List.map_set]
      rfl
    · rename_i e; simp only [if_neg e]; exact hq
  · have hi3 : i = xs.length := by omega
    subst hi3
    repeat (first
    | refine wC_a rfl ?_
    | refine q_s rfl ?_
    | refine q_b rfl ?_
    | refine wG_nil ?_
    | refine wG_g rfl ?_
    | refine wG_pure (o_len_vwm rfl) ?_
    | refine wG_pure (o_not_d rfl) ?_
    | refine wG_p rfl (by first | exact rfl | omega) ?_
    | refine wG_pure (o_str2 rfl rfl rfl) ?_
    | refine wG_pure (e_istr rfl rfl (by omega)) ?_
    | refine wG_pure (e_istr0 rfl rfl (by omega)) ?_
    | refine wG_pure (o_not rfl) ?_
    | refine wG_pure (e_ia_vw0 rfl rfl (by omega) rfl) ?_
    | refine wG_pure (e_ia_vwp rfl rfl (by omega) rfl) ?_
    | refine wG_pure (e_ia_vwm rfl rfl (by omega) (by omega) rfl) ?_
    | refine wG_pure (e_ia_vwi rfl rfl (by omega) rfl) ?_
    | refine wG_pure (e_ia_vwn rfl rfl (by omega) (by omega) rfl) ?_
    | refine wG_n rfl rfl ?_
    | refine wG_u rfl rfl ?_
    | refine wG_new (o_mks rfl rfl (by omega) (by decide)) ?_)
    refine ⟨trivial, _, retVs_1 (retV_mv rfl), ?_, Nat.le_refl _⟩
    rw [mdRl_end]
    exact Le_of ⟨⟨rfl, rfl⟩, trivial⟩ (fun _ _ h => h) (wfH_cons hrn (ltrRl _ _) hw)
def mkDt (k : Int) (n : Nat) : List Dt := (List.range n).map fun i : Nat => ⟨k + 3 * (i : Int), k + 3 * (i : Int) + 1, k + 3 * (i : Int) + 2⟩
theorem mkDt_len (k : Int) (n : Nat) : (mkDt k n).length = n := by simp [mkDt]
theorem mkDt_get (k : Int) (n i : Nat) (h : i < n) : (mkDt k n).getD i default = ⟨k + 3 * (i : Int), k + 3 * (i : Int) + 1, k + 3 * (i : Int) + 2⟩ := by
  simp [mkDt, List.getD_eq_getElem?_getD, List.getElem?_eq_getElem, h]
def mdDt (xs : List Dt) (k : Int) (i : Nat) : List Dt := mkDt k i ++ xs.drop i
theorem mdDt_len (xs : List Dt) (k : Int) (i : Nat) (h : i ≤ xs.length) : (mdDt xs k i).length = xs.length := by simp [mdDt, mkDt_len]; omega
theorem mdDt_end (xs : List Dt) (k : Int) : mdDt xs k xs.length = mkDt k xs.length := by simp [mdDt]
theorem mdDt_set (xs : List Dt) (k : Int) (i : Nat) (h : i < xs.length) : (mdDt xs k i).set i ⟨k + 3 * (i : Int), k + 3 * (i : Int) + 1, k + 3 * (i : Int) + 2⟩ = mdDt xs k (i + 1) := by
  unfold mdDt
  rw [List.set_append_right _ _ (by rw [mkDt_len]; omega), mkDt_len, Nat.sub_self, List.drop_eq_getElem_cons h, List.set_cons_zero]
  have : mkDt k (i + 1) = mkDt k i ++ [⟨k + 3 * (i : Int), k + 3 * (i : Int) + 1, k + 3 * (i : Int) + 2⟩] := by simp [mkDt, List.range_succ]
  rw [this, List.append_assoc]
  rfl
theorem sh15 (xs : List Dt) (k : Int) (hn : xs.length ≤ 4294967296) (h0 : 0 ≤ k) (h1 : k ≤ 4294967296000) {h : List (Nat × Option Ab.Rows)} {nr r : Nat} (hr : hg h r = some (xs.map tRow)) (hw : wfH h nr) :
    Sh Try.prog 15 [.sl r 3 0 xs.length, .int .i64 k] h nr (.int .i64 (k + 3 * xs.length)) ((r, some ((mkDt k xs.length).map tRow)) :: h) nr := by
  have ltrDt : ∀ (ws : List Dt) (m : Nat), ∀ row ∈ ws.map tRow, ∀ x ∈ row, AV.ltr m x = true := fun ws m => rows_ltr _ m fun row hr x hx => by
    obtain ⟨p, _, rfl⟩ := List.mem_map.1 hr
    exact tRow_plain p x hx
  refine sh_of_wp mixed fun15 (by simp) ?_
  unfold ac15 ro15
  simp only [zipT]
  have hrn := (hw r _ hr).1
  repeat (first
    | refine wC_a rfl ?_
    | refine q_s rfl ?_
    | refine q_b rfl ?_
    | refine wG_nil ?_
    | refine wG_g rfl ?_
    | refine wG_pure (o_len_vwm rfl) ?_
    | refine wG_pure (o_not_d rfl) ?_
    | refine wG_p rfl (by first | exact rfl | omega) ?_
    | refine wG_pure (o_str2 rfl rfl rfl) ?_
    | refine wG_pure (e_istr rfl rfl (by omega)) ?_
    | refine wG_pure (e_istr0 rfl rfl (by omega)) ?_
    | refine wG_pure (o_not rfl) ?_
    | refine wG_pure (e_ia_vw0 rfl rfl (by omega) rfl) ?_
    | refine wG_pure (e_ia_vwp rfl rfl (by omega) rfl) ?_
    | refine wG_pure (e_ia_vwm rfl rfl (by omega) (by omega) rfl) ?_
    | refine wG_pure (e_ia_vwi rfl rfl (by omega) rfl) ?_
    | refine wG_pure (e_ia_vwn rfl rfl (by omega) (by omega) rfl) ?_
    | refine wG_n rfl rfl ?_
    | refine wG_u rfl rfl ?_
    | refine wG_new (o_mks rfl rfl (by omega) (by decide)) ?_)
  refine wC_loopS Nat (fun i => ⟨[(0, .sl r 3 0 xs.length), (1, .int .i64 (k + 3 * i)), (5, .int .i64 (i : Int))], (r, some ((mdDt xs k i).map tRow)) :: h, nr⟩) (fun i => i ≤ xs.length) (fun i => xs.length - i) 0 (Nat.zero_le _) ?_ (fun _ _ => Nat.le_refl _) ?_
  · refine Le_of (by simp [leT, lk, AV.ltr, hrn]) (fun q rows hq => ?_) (wfH_cons hrn (ltrDt _ _) hw)
    simp only [Ab.hg, upd] at hq ⊢
    split at hq
    · rename_i e; subst e; cases hq; simpa [mdDt, mkDt, Ab.hg] using hr
    · exact hq
  intro i hi
  have hml := mdDt_len xs k i hi
  repeat (first
    | refine wC_a rfl ?_
    | refine q_s rfl ?_
    | refine q_b rfl ?_
    | refine wG_nil ?_
    | refine wG_g rfl ?_
    | refine wG_pure (o_len_vwm rfl) ?_
    | refine wG_pure (o_not_d rfl) ?_
    | refine wG_p rfl (by first | exact rfl | omega) ?_
    | refine wG_pure (o_str2 rfl rfl rfl) ?_
    | refine wG_pure (e_istr rfl rfl (by omega)) ?_
    | refine wG_pure (e_istr0 rfl rfl (by omega)) ?_
    | refine wG_pure (o_not rfl) ?_
    | refine wG_pure (e_ia_vw0 rfl rfl (by omega) rfl) ?_
    | refine wG_pure (e_ia_vwp rfl rfl (by omega) rfl) ?_
    | refine wG_pure (e_ia_vwm rfl rfl (by omega) (by omega) rfl) ?_
    | refine wG_pure (e_ia_vwi rfl rfl (by omega) rfl) ?_
    | refine wG_pure (e_ia_vwn rfl rfl (by omega) (by omega) rfl) ?_
    | refine wG_n rfl rfl ?_
    | refine wG_u rfl rfl ?_
    | refine wG_new (o_mks rfl rfl (by omega) (by decide)) ?_)
  refine wC_cond_d rfl (fun h2 => ?_) (fun h2 => ?_)
  · have hi2 : i < xs.length := by omega
    have e0 : 0 + ((i : Int)).toNat = i := by simp
    have hge : ((mdDt xs k i).map tRow)[i]? = some (tRow ((mdDt xs k i).getD i default)) := by
      simp [List.getElem?_map, List.getElem?_eq_getElem (show i < (mdDt xs k i).length by omega), List.getD_eq_getElem?_getD]
    have hgs : ∀ (rw : List AV) (rows : List (List AV)), rows.length = xs.length → (rows.set i rw)[i]? = some rw := by
      intro rw rows hl
      rw [List.getElem?_set_self (by omega)]
    repeat (first
    | refine wC_a rfl ?_
    | refine q_s rfl ?_
    | refine q_b rfl ?_
    | refine wG_nil ?_
    | refine wG_g rfl ?_
    | refine wG_pure (o_len_vwm rfl) ?_
    | refine wG_pure (o_not_d rfl) ?_
    | refine wG_p rfl (by first | exact rfl | omega) ?_
    | refine wG_pure (o_str2 rfl rfl rfl) ?_
    | refine wG_pure (e_istr rfl rfl (by omega)) ?_
    | refine wG_pure (e_istr0 rfl rfl (by omega)) ?_
    | refine wG_pure (o_not rfl) ?_
    | refine wG_pure (e_ia_vw0 rfl rfl (by omega) rfl) ?_
    | refine wG_pure (e_ia_vwp rfl rfl (by omega) rfl) ?_
    | refine wG_pure (e_ia_vwm rfl rfl (by omega) (by omega) rfl) ?_
    | refine wG_pure (e_ia_vwi rfl rfl (by omega) rfl) ?_
    | refine wG_pure (e_ia_vwn rfl rfl (by omega) (by omega) rfl) ?_
    | refine wG_n rfl rfl ?_
    | refine wG_u rfl rfl ?_
    | refine wG_new (o_mks rfl rfl (by omega) (by decide)) ?_)
    refine wG_pure (e_ia_sl rfl rfl (by omega) (by omega)) ?_
    simp only [e0]
    repeat (first
    | refine wC_a rfl ?_
    | refine q_s rfl ?_
    | refine q_b rfl ?_
    | refine wG_nil ?_
    | refine wG_g rfl ?_
    | refine wG_pure (o_len_vwm rfl) ?_
    | refine wG_pure (o_not_d rfl) ?_
    | refine wG_p rfl (by first | exact rfl | omega) ?_
    | refine wG_pure (o_str2 rfl rfl rfl) ?_
    | refine wG_pure (e_istr rfl rfl (by omega)) ?_
    | refine wG_pure (e_istr0 rfl rfl (by omega)) ?_
    | refine wG_pure (o_not rfl) ?_
    | refine wG_pure (e_ia_vw0 rfl rfl (by omega) rfl) ?_
    | refine wG_pure (e_ia_vwp rfl rfl (by omega) rfl) ?_
    | refine wG_pure (e_ia_vwm rfl rfl (by omega) (by omega) rfl) ?_
    | refine wG_pure (e_ia_vwi rfl rfl (by omega) rfl) ?_
    | refine wG_pure (e_ia_vwn rfl rfl (by omega) (by omega) rfl) ?_
    | refine wG_n rfl rfl ?_
    | refine wG_u rfl rfl ?_
    | refine wG_new (o_mks rfl rfl (by omega) (by decide)) ?_)
    refine wG_upd (o_st_int rfl hg_here hge rfl rfl rfl) ?_
    repeat (first
    | refine wC_a rfl ?_
    | refine q_s rfl ?_
    | refine q_b rfl ?_
    | refine wG_nil ?_
    | refine wG_g rfl ?_
    | refine wG_pure (o_len_vwm rfl) ?_
    | refine wG_pure (o_not_d rfl) ?_
    | refine wG_p rfl (by first | exact rfl | omega) ?_
    | refine wG_pure (o_str2 rfl rfl rfl) ?_
    | refine wG_pure (e_istr rfl rfl (by omega)) ?_
    | refine wG_pure (e_istr0 rfl rfl (by omega)) ?_
    | refine wG_pure (o_not rfl) ?_
    | refine wG_pure (e_ia_vw0 rfl rfl (by omega) rfl) ?_
    | refine wG_pure (e_ia_vwp rfl rfl (by omega) rfl) ?_
    | refine wG_pure (e_ia_vwm rfl rfl (by omega) (by omega) rfl) ?_
    | refine wG_pure (e_ia_vwi rfl rfl (by omega) rfl) ?_
    | refine wG_pure (e_ia_vwn rfl rfl (by omega) (by omega) rfl) ?_
    | refine wG_n rfl rfl ?_
    | refine wG_u rfl rfl ?_
    | refine wG_new (o_mks rfl rfl (by omega) (by decide)) ?_)
    refine wG_pure (e_ia_sl rfl rfl (by omega) (by omega)) ?_
    simp only [e0]
    repeat (first
    | refine wC_a rfl ?_
    | refine q_s rfl ?_
    | refine q_b rfl ?_
    | refine wG_nil ?_
    | refine wG_g rfl ?_
    | refine wG_pure (o_len_vwm rfl) ?_
    | refine wG_pure (o_not_d rfl) ?_
    | refine wG_p rfl (by first | exact rfl | omega) ?_
    | refine wG_pure (o_str2 rfl rfl rfl) ?_
    | refine wG_pure (e_istr rfl rfl (by omega)) ?_
    | refine wG_pure (e_istr0 rfl rfl (by omega)) ?_
    | refine wG_pure (o_not rfl) ?_
    | refine wG_pure (e_ia_vw0 rfl rfl (by omega) rfl) ?_
    | refine wG_pure (e_ia_vwp rfl rfl (by omega) rfl) ?_
    | refine wG_pure (e_ia_vwm rfl rfl (by omega) (by omega) rfl) ?_
    | refine wG_pure (e_ia_vwi rfl rfl (by omega) rfl) ?_
    | refine wG_pure (e_ia_vwn rfl rfl (by omega) (by omega) rfl) ?_
    | refine wG_n rfl rfl ?_
    | refine wG_u rfl rfl ?_
    | refine wG_new (o_mks rfl rfl (by omega) (by decide)) ?_)
    refine wG_upd (o_st_int rfl hg_here (hgs _ _ (by rw [List.length_map, hml])) rfl rfl rfl) ?_
    repeat (first
    | refine wC_a rfl ?_
    | refine q_s rfl ?_
    | refine q_b rfl ?_
    | refine wG_nil ?_
    | refine wG_g rfl ?_
    | refine wG_pure (o_len_vwm rfl) ?_
    | refine wG_pure (o_not_d rfl) ?_
    | refine wG_p rfl (by first | exact rfl | omega) ?_
    | refine wG_pure (o_str2 rfl rfl rfl) ?_
    | refine wG_pure (e_istr rfl rfl (by omega)) ?_
    | refine wG_pure (e_istr0 rfl rfl (by omega)) ?_
    | refine wG_pure (o_not rfl) ?_
    | refine wG_pure (e_ia_vw0 rfl rfl (by omega) rfl) ?_
    | refine wG_pure (e_ia_vwp rfl rfl (by omega) rfl) ?_
    | refine wG_pure (e_ia_vwm rfl rfl (by omega) (by omega) rfl) ?_
    | refine wG_pure (e_ia_vwi rfl rfl (by omega) rfl) ?_
    | refine wG_pure (e_ia_vwn rfl rfl (by omega) (by omega) rfl) ?_
    | refine wG_n rfl rfl ?_
    | refine wG_u rfl rfl ?_
    | refine wG_new (o_mks rfl rfl (by omega) (by decide)) ?_)
    refine wG_pure (e_ia_sl rfl rfl (by omega) (by omega)) ?_
    simp only [e0]
    repeat (first
    | refine wC_a rfl ?_
    | refine q_s rfl ?_
    | refine q_b rfl ?_
    | refine wG_nil ?_
    | refine wG_g rfl ?_
    | refine wG_pure (o_len_vwm rfl) ?_
    | refine wG_pure (o_not_d rfl) ?_
    | refine wG_p rfl (by first | exact rfl | omega) ?_
    | refine wG_pure (o_str2 rfl rfl rfl) ?_
    | refine wG_pure (e_istr rfl rfl (by omega)) ?_
    | refine wG_pure (e_istr0 rfl rfl (by omega)) ?_
    | refine wG_pure (o_not rfl) ?_
    | refine wG_pure (e_ia_vw0 rfl rfl (by omega) rfl) ?_
    | refine wG_pure (e_ia_vwp rfl rfl (by omega) rfl) ?_
    | refine wG_pure (e_ia_vwm rfl rfl (by omega) (by omega) rfl) ?_
    | refine wG_pure (e_ia_vwi rfl rfl (by omega) rfl) ?_
    | refine wG_pure (e_ia_vwn rfl rfl (by omega) (by omega) rfl) ?_
    | refine wG_n rfl rfl ?_
    | refine wG_u rfl rfl ?_
    | refine wG_new (o_mks rfl rfl (by omega) (by decide)) ?_)
    refine wG_upd (o_st_int rfl hg_here (hgs _ _ (by rw [List.length_set, List.length_map, hml])) rfl rfl rfl) ?_
    repeat (first
    | refine wC_a rfl ?_
    | refine q_s rfl ?_
    | refine q_b rfl ?_
    | refine wG_nil ?_
    | refine wG_g rfl ?_
    | refine wG_pure (o_len_vwm rfl) ?_
    | refine wG_pure (o_not_d rfl) ?_
    | refine wG_p rfl (by first | exact rfl | omega) ?_
    | refine wG_pure (o_str2 rfl rfl rfl) ?_
    | refine wG_pure (e_istr rfl rfl (by omega)) ?_
    | refine wG_pure (e_istr0 rfl rfl (by omega)) ?_
    | refine wG_pure (o_not rfl) ?_
    | refine wG_pure (e_ia_vw0 rfl rfl (by omega) rfl) ?_
    | refine wG_pure (e_ia_vwp rfl rfl (by omega) rfl) ?_
    | refine wG_pure (e_ia_vwm rfl rfl (by omega) (by omega) rfl) ?_
    | refine wG_pure (e_ia_vwi rfl rfl (by omega) rfl) ?_
    | refine wG_pure (e_ia_vwn rfl rfl (by omega) (by omega) rfl) ?_
    | refine wG_n rfl rfl ?_
    | refine wG_u rfl rfl ?_
    | refine wG_new (o_mks rfl rfl (by omega) (by decide)) ?_)
    refine ⟨i + 1, by omega, by omega, Le_of (by simp [leT, lk, AV.ltr, hrn]; omega) (fun q rows hq => ?_) (wfH_cons hrn (ltrDt _ _) hw)⟩
    simp only [Ab.hg, upd] at hq ⊢
    split at hq
    · rename_i e
      subst e
      have e1 : k + 3 * (i : Int) + 1 + 1 = k + 3 * (i : Int) + 2 := by omega
      rw [if_pos rfl, ← hq, List.set_set, List.set_set, e1, ← mdDt_set xs k i hi2, List.map_set]
      rfl
    · rename_i e; simp only [if_neg e]; exact hq
  · have hi3 : i = xs.length := by omega
    subst hi3
    repeat (first
    | refine wC_a rfl ?_
    | refine q_s rfl ?_
    | refine q_b rfl ?_
    | refine wG_nil ?_
    | refine wG_g rfl ?_
    | refine wG_pure (o_len_vwm rfl) ?_
    | refine wG_pure (o_not_d rfl) ?_
    | refine wG_p rfl (by first | exact rfl | omega) ?_
    | refine wG_pure (o_str2 rfl rfl rfl) ?_
    | refine wG_pure (e_istr rfl rfl (by omega)) ?_
    | refine wG_pure (e_istr0 rfl rfl (by omega)) ?_
    | refine wG_pure (o_not rfl) ?_
    | refine wG_pure (e_ia_vw0 rfl rfl (by omega) rfl) ?_
    | refine wG_pure (e_ia_vwp rfl rfl (by omega) rfl) ?_
    | refine wG_pure (e_ia_vwm rfl rfl (by omega) (by omega) rfl) ?_
    | refine wG_pure (e_ia_vwi rfl rfl (by omega) rfl) ?_
    | refine wG_pure (e_ia_vwn rfl rfl (by omega) (by omega) rfl) ?_
    | refine wG_n rfl rfl ?_
    | refine wG_u rfl rfl ?_
    | refine wG_new (o_mks rfl rfl (by omega) (by decide)) ?_)
    refine ⟨trivial, _, retVs_1 (retV_mv rfl), ?_, Nat.le_refl _⟩
    rw [mdDt_end]
    exact Le_of ⟨⟨rfl, rfl⟩, trivial⟩ (fun _ _ h => h) (wfH_cons hrn (ltrDt _ _) hw)
theorem sh14 (r : Rc) (k : Int) (h1 : r.cs.length ≤ 1048576) (h2 : r.xs.length ≤ 1048576) (h0 : 0 ≤ k) (h3 : k ≤ 1048576) {h : List (Nat × Option Ab.Rows)} {nr q1 q2 : Nat} (hr1 : hg h q1 = some (r.cs.map cRow)) (hr2 : hg h q2 = some (r.xs.map xRow)) (hne : q2 ≠ q1) (hw : wfH h nr) :
    Sh Try.prog 14 [.agg [.sl q1 2 0 r.cs.length, .sl q2 2 0 r.xs.length], .int .i64 k] h nr (.int .i64 (k + 2 * r.cs.length + 2 * r.xs.length))
      ((q2, some ((mkRl (k + 2 * r.cs.length) r.xs.length).map xRow)) :: (q1, some ((mkCn k r.cs.length).map cRow)) :: (nr, some [[.sl q1 2 0 r.cs.length, .sl q2 2 0 r.xs.length]]) :: h) (nr + 1) := by
  refine sh_of_wp mixed fun14 (by simp) ?_
  unfold ac14 ro14
  simp only [zipT]
  have b1 := (hw q1 _ hr1).1
  have b2 := (hw q2 _ hr2).1
  have hw1 : wfH ((nr, some [[.sl q1 2 0 r.cs.length, .sl q2 2 0 r.xs.length]]) :: h) (nr + 1) := wfH_cons (by omega) (by simp [AV.ltr]; omega) (wfH_le hw (by omega))
  have hw2 : wfH ((q1, some ((mkCn k r.cs.length).map cRow)) :: (nr, some [[.sl q1 2 0 r.cs.length, .sl q2 2 0 r.xs.length]]) :: h) (nr + 1) := wfH_cons (by omega) (ltrK _ _) hw1
  have hw3 : wfH ((q2, some ((mkRl (k + 2 * r.cs.length) r.xs.length).map xRow)) :: (q1, some ((mkCn k r.cs.length).map cRow)) :: (nr, some [[.sl q1 2 0 r.cs.length, .sl q2 2 0 r.xs.length]]) :: h) (nr + 1) := wfH_cons (by omega) (ltrX _ _) hw2
  have s1 := sh37 r.cs k (by omega) h0 (by omega) (r := q1) (hg_skip (by omega) hr1) hw1
  have s2 := sh38 r.xs (k + 2 * r.cs.length) (by omega) (by omega) (by omega) (r := q2) (hg_skip hne (hg_skip (by omega) hr2)) hw2
  repeat (first | refine wG_callS s1 rfl ?_ | refine wG_callS s2 rfl ?_ | (first
    | refine wC_a rfl ?_
    | refine q_s rfl ?_
    | refine q_b rfl ?_
    | refine wG_nil ?_
    | refine wG_g rfl ?_
    | refine wG_pure (o_len_vwm rfl) ?_
    | refine wG_pure (o_not_d rfl) ?_
    | refine wG_p rfl (by first | exact rfl | omega) ?_
    | refine wG_pure (o_str2 rfl rfl rfl) ?_
    | refine wG_pure (e_istr rfl rfl (by omega)) ?_
    | refine wG_pure (e_istr0 rfl rfl (by omega)) ?_
    | refine wG_pure (o_not rfl) ?_
    | refine wG_pure (e_ia_vw0 rfl rfl (by omega) rfl) ?_
    | refine wG_pure (e_ia_vwp rfl rfl (by omega) rfl) ?_
    | refine wG_pure (e_ia_vwm rfl rfl (by omega) (by omega) rfl) ?_
    | refine wG_pure (e_ia_vwi rfl rfl (by omega) rfl) ?_
    | refine wG_pure (e_ia_vwn rfl rfl (by omega) (by omega) rfl) ?_
    | refine wG_n rfl rfl ?_
    | refine wG_u rfl rfl ?_
    | refine wG_new (o_mks rfl rfl (by omega) (by decide)) ?_))
  refine wG_pure (o_ldf_pt rfl hg_here rfl rfl) ?_
  repeat (first | refine wG_callS s1 rfl ?_ | refine wG_callS s2 rfl ?_ | (first
    | refine wC_a rfl ?_
    | refine q_s rfl ?_
    | refine q_b rfl ?_
    | refine wG_nil ?_
    | refine wG_g rfl ?_
    | refine wG_pure (o_len_vwm rfl) ?_
    | refine wG_pure (o_not_d rfl) ?_
    | refine wG_p rfl (by first | exact rfl | omega) ?_
    | refine wG_pure (o_str2 rfl rfl rfl) ?_
    | refine wG_pure (e_istr rfl rfl (by omega)) ?_
    | refine wG_pure (e_istr0 rfl rfl (by omega)) ?_
    | refine wG_pure (o_not rfl) ?_
    | refine wG_pure (e_ia_vw0 rfl rfl (by omega) rfl) ?_
    | refine wG_pure (e_ia_vwp rfl rfl (by omega) rfl) ?_
    | refine wG_pure (e_ia_vwm rfl rfl (by omega) (by omega) rfl) ?_
    | refine wG_pure (e_ia_vwi rfl rfl (by omega) rfl) ?_
    | refine wG_pure (e_ia_vwn rfl rfl (by omega) (by omega) rfl) ?_
    | refine wG_n rfl rfl ?_
    | refine wG_u rfl rfl ?_
    | refine wG_new (o_mks rfl rfl (by omega) (by decide)) ?_))
  all_goals (try (refine wG_pure (o_ldf_pt rfl (hg_skip (by omega) hg_here) rfl rfl) ?_))
  repeat (first | refine wG_callS s1 rfl ?_ | refine wG_callS s2 rfl ?_ | (first
    | refine wC_a rfl ?_
    | refine q_s rfl ?_
    | refine q_b rfl ?_
    | refine wG_nil ?_
    | refine wG_g rfl ?_
    | refine wG_pure (o_len_vwm rfl) ?_
    | refine wG_pure (o_not_d rfl) ?_
    | refine wG_p rfl (by first | exact rfl | omega) ?_
    | refine wG_pure (o_str2 rfl rfl rfl) ?_
    | refine wG_pure (e_istr rfl rfl (by omega)) ?_
    | refine wG_pure (e_istr0 rfl rfl (by omega)) ?_
    | refine wG_pure (o_not rfl) ?_
    | refine wG_pure (e_ia_vw0 rfl rfl (by omega) rfl) ?_
    | refine wG_pure (e_ia_vwp rfl rfl (by omega) rfl) ?_
    | refine wG_pure (e_ia_vwm rfl rfl (by omega) (by omega) rfl) ?_
    | refine wG_pure (e_ia_vwi rfl rfl (by omega) rfl) ?_
    | refine wG_pure (e_ia_vwn rfl rfl (by omega) (by omega) rfl) ?_
    | refine wG_n rfl rfl ?_
    | refine wG_u rfl rfl ?_
    | refine wG_new (o_mks rfl rfl (by omega) (by decide)) ?_))
  refine ⟨trivial, _, retVs_1 (retV_mv rfl), ?_, by omega⟩
  exact Le_of ⟨⟨rfl, rfl⟩, trivial⟩ (fun _ _ h => h) hw3
end Go.Proofs.Yteoonedddgiacaa.Rec
