/- Marks on a record with distributions: what else stands in memory stays as it is. -/
import Derived.Test.YtkeobnaehgcloaaDnB
import Derived.Test.YtkeobnaehgcloaaMrkR
namespace Go.Proofs.Ytkeobnaehgcloaa.Dst
open Go Go.Proofs.Ytkeobnaehgcloaa.Ab Go.Proofs.Ytkeobnaehgcloaa.Il Go.Proofs.Ytkeobnaehgcloaa.Rec
attribute [local irreducible] wpO wpC wpDr wpQ wpG wpE stepA seqQ blkQ Ret RetG ev
set_option maxRecDepth 10000
set_option maxHeartbeats 8000000
set_option linter.unusedSimpArgs false
set_option linter.unusedVariables false

def ac20 : AC := (.seq (.reg [⟨(some 2), none, (.box 3 true (.t 0))⟩, ⟨(some 4), none, (.mv (.c (.int .i64 0)))⟩]) (.seq (.reg [⟨(some 5), none, (.fa 0 (.t 2))⟩, ⟨(some 6), none, (.ld true 2 (.t 5))⟩, ⟨(some 7), none, (.mv (.t 1))⟩, ⟨(some 8), none, (.call 58 [(.t 6), (.t 7)])⟩, ⟨(some 1), none, (.mv (.t 8))⟩]) (.seq (.reg [⟨(some 9), none, (.fa 2 (.t 2))⟩, ⟨(some 10), none, (.ld false 1 (.t 9))⟩, ⟨(some 11), none, (.mv (.t 1))⟩, ⟨(some 12), none, (.call 59 [(.t 10), (.t 11)])⟩, ⟨(some 1), none, (.mv (.t 12))⟩]) (.seq (.reg [⟨(some 13), none, (.mv (.t 1))⟩, ⟨(some 4), none, (.mv (.t 13))⟩]) .ret))))
def ro20 : List AOp := [(.mv (.t 4))]
theorem fun20 : Fun Try.prog 20 14 ac20 ro20 := ⟨Try.f20, _, Try.func20, by kernel_rfl, rfl, rfl, by kernel_rfl, by kernel_rfl, by decide⟩
def ac59 : AC := (.seq (.reg [⟨(some 4), none, (.mv (.c (.int .i64 0)))⟩]) (.seq (.seq (.reg [⟨(some 5), none, (.mv (.c (.int .i64 0)))⟩]) (.blk 0 (.loop (.seq (.seq (.reg [⟨(some 6), none, (.mv (.t 5))⟩, ⟨(some 7), none, (.mv (.t 0))⟩, ⟨(some 8), none, (.len (.t 7))⟩, ⟨(some 9), none, (.bin .lss (.t 6) (.t 8))⟩]) (.cond (.t 9) .skip (.exit 0))) (.seq (.blk 1 (.seq (.reg [⟨(some 12), none, (.mv (.t 0))⟩, ⟨(some 13), none, (.mv (.t 5))⟩, ⟨(some 14), none, (.mv (.t 1))⟩, ⟨(some 15), none, (.ia 2 (.t 12) (.t 13))⟩, ⟨(some 16), none, (.fa 0 (.t 15))⟩, ⟨none, none, (.st 1 (.t 16) (.t 14))⟩]) (.seq (.reg [⟨(some 17), none, (.mv (.t 1))⟩, ⟨(some 18), none, (.bin .add (.t 17) (.c (.int .i64 1)))⟩, ⟨(some 1), none, (.mv (.t 18))⟩]) (.reg [⟨(some 19), none, (.mv (.t 0))⟩, ⟨(some 20), none, (.mv (.t 5))⟩, ⟨(some 21), none, (.ia 2 (.t 19) (.t 20))⟩, ⟨(some 22), none, (.fa 1 (.t 21))⟩, ⟨(some 23), none, (.ld false 1 (.t 22))⟩, ⟨(some 24), none, (.mv (.t 1))⟩, ⟨(some 25), none, (.call 35 [(.t 23), (.t 24)])⟩, ⟨(some 1), none, (.mv (.t 25))⟩])))) (.reg [⟨(some 10), none, (.mv (.t 5))⟩, ⟨(some 11), none, (.bin .add (.t 10) (.c (.int .i64 1)))⟩, ⟨(some 5), none, (.mv (.t 11))⟩])))))) (.seq (.reg [⟨(some 26), none, (.mv (.t 1))⟩, ⟨(some 4), none, (.mv (.t 26))⟩]) .ret)))
def ro59 : List AOp := [(.mv (.t 4))]
theorem fun59 : Fun Try.prog 59 27 ac59 ro59 := ⟨Try.f59, _, Try.func59, by kernel_rfl, rfl, rfl, by kernel_rfl, by kernel_rfl, by decide⟩

def sL (xs : List Dn) : Nat → Nat
  | 0 => 0
  | i + 1 => sL xs i + (xs.getD i default).d.ws.length
theorem szN_sL (xs : List Dn) (l : Int) : ∀ i, szN xs l i = l - sL xs i
  | 0 => by simp [szN, sL]
  | i + 1 => by rw [szN, szN_sL xs l i, sL]; omega
theorem sL_mono (xs : List Dn) (i : Nat) : ∀ d, sL xs i ≤ sL xs (i + d)
  | 0 => Nat.le_refl _
  | d + 1 => by
    have := sL_mono xs i d
    show _ ≤ sL xs (i + d) + _
    omega
theorem sL_le {xs : List Dn} {i n : Nat} (h : i ≤ n) : sL xs i ≤ sL xs n := by
  have := sL_mono xs i (n - i)
  rwa [show i + (n - i) = n by omega] at this
theorem szD_sum {xs : List Dn} {l : Int} (h : 0 ≤ szD l xs) : (xs.length : Int) + sL xs xs.length ≤ l := by
  unfold szD at h
  by_cases h1 : l - (xs.length : Int) < 0
  · rw [if_pos h1] at h; omega
  · rw [if_neg h1] at h
    by_cases h2 : szN xs (l - xs.length) xs.length < 0
    · rw [if_pos h2] at h; omega
    · rw [szN_sL] at h2; omega
/-- The first i have been marked. -/
def mD (xs : List Dn) (k : Int) (i : Nat) : List Dn := (List.range xs.length).map fun j => if j < i then ⟨true, ⟨k + j + sL xs j, mks (k + j + sL xs j + 1) (xs.getD j default).d.ws.length⟩⟩ else xs.getD j default
theorem mD_len (xs : List Dn) (k : Int) (i : Nat) : (mD xs k i).length = xs.length := by simp [mD]
theorem mD_get {xs : List Dn} {k : Int} {i j : Nat} (h : j < xs.length) : (mD xs k i).getD j default = if j < i then ⟨true, ⟨k + j + sL xs j, mks (k + j + sL xs j + 1) (xs.getD j default).d.ws.length⟩⟩ else xs.getD j default := by
  simp [mD, List.getD_eq_getElem?_getD, List.getElem?_map, List.getElem?_range h]
theorem mD_0 (xs : List Dn) (k : Int) : mD xs k 0 = xs := by
  refine List.ext_getElem (mD_len _ _ _) fun j h1 h2 => ?_
  simp [mD, List.getD_eq_getElem?_getD, List.getElem?_eq_getElem h2]
theorem mD_ne {xs : List Dn} {k : Int} {i j : Nat} (h : j < xs.length) (e : j ≠ i) : (mD xs k (i + 1)).getD j default = (mD xs k i).getD j default := by
  rw [mD_get h, mD_get h]
  by_cases g : j < i
  · rw [if_pos g, if_pos (by omega)]
  · rw [if_neg g, if_neg (by omega)]
def hM (q b : Nat) (xs : List Dn) (h' : List (Nat × Option Ab.Rows)) : List (Nat × Option Ab.Rows) := (q, some (nR hD b xs xs.length z0)) :: (mkh b (nO hD xs xs.length) ++ h')
section
variable {q b : Nat} {xs : List Dn} {h' : List (Nat × Option Ab.Rows)}
theorem hM_q : hg (hM q b xs h') q = some (nR hD b xs xs.length z0) := hg_here
theorem hM_in {i : Nat} (hi : i < xs.length) (hq : b + i ≠ q) : hg (hM q b xs h') (b + i) = some ((xs.getD i default).d.ws.map iRow) :=
  hg_skip hq (hg_in (by omega) (by rw [Nat.add_sub_cancel_left]; exact nO_get (K := hD) hi (Nat.le_refl _)))
theorem hM_cs {r : Nat} {rows : Ab.Rows} (h : hg (hM q b xs h') r = some rows) : (r = q ∧ rows = nR hD b xs xs.length z0) ∨ (r ≠ q ∧ ∃ i, i < xs.length ∧ r = b + i ∧ rows = (xs.getD i default).d.ws.map iRow) ∨ (r ≠ q ∧ (r < b ∨ b + xs.length ≤ r) ∧ hg h' r = some rows) := by
  by_cases e : r = q
  · subst e
    rw [hM_q] at h
    exact .inl ⟨rfl, (Option.some.inj h).symm⟩
  · have h2 : hg (mkh b (nO hD xs xs.length) ++ h') r = some rows := by simpa [hM, Ab.hg, upd, e] using h
    rw [hg_app, nO_len (Nat.le_refl _)] at h2
    split at h2
    · rename_i hc
      refine .inr (.inl ⟨e, r - b, by omega, by omega, ?_⟩)
      rw [nO_get (by omega) (Nat.le_refl _)] at h2
      exact (Option.some.inj h2).symm
    · exact .inr (.inr ⟨e, by omega, h2⟩)
theorem hM_out {r : Nat} {rows : Ab.Rows} (h1 : r ≠ q) (h2 : r < b ∨ b + xs.length ≤ r) (h : hg h' r = some rows) : hg (hM q b xs h') r = some rows :=
  hg_skip h1 (hg_out (fun hc => by have h3 := hc.1; have h4 := hc.2; rw [nO_len (Nat.le_refl _)] at h4; omega) h)
theorem hM_wf {nr : Nat} (hq : q < nr) (hb : b + xs.length ≤ nr) (hw : wfH h' nr) : wfH (hM q b xs h') nr := by
  intro r rows hr
  rcases hM_cs hr with ⟨rfl, rfl⟩ | ⟨_, i, hi, rfl, rfl⟩ | ⟨_, _, h3⟩
  · exact ⟨hq, nR_ltr hb (fun x _ y hy => by
      simp only [z0, List.mem_cons, List.not_mem_nil, or_false] at hy
      rcases hy with rfl | rfl <;> rfl)⟩
  · exact ⟨by omega, ltrI _ _⟩
  · exact hw r rows h3
end
theorem nR_row {b : Nat} {xs : List Dn} {i : Nat} (h : i < xs.length) : (nR hD b xs xs.length z0)[i]? = some [.int .i64 (xs.getD i default).d.f, .sl (b + i) 1 0 (xs.getD i default).d.ws.length] := nR_get_n (K := hD) h
theorem mD_set {b : Nat} {xs : List Dn} {k : Int} {i : Nat} (h : i < xs.length) : (nR hD b (mD xs k i) (mD xs k i).length z0).set i [.int .i64 (k + i + sL xs i), .sl (b + i) 1 0 (xs.getD i default).d.ws.length] = nR hD b (mD xs k (i + 1)) (mD xs k (i + 1)).length z0 := by
  refine List.ext_getElem? fun j => ?_
  by_cases hj : j < xs.length
  · have e2 := nR_row (b := b) (xs := mD xs k (i + 1)) (i := j) (by rw [mD_len]; exact hj)
    have e1 := nR_row (b := b) (xs := mD xs k i) (i := j) (by rw [mD_len]; exact hj)
    rw [e2]
    by_cases e : i = j
    · subst e
      rw [List.getElem?_set_self (by rw [nR_len, mD_len]; exact hj), mD_get hj, if_pos (Nat.lt_succ_self _)]
      simp [mks_len]
    · rw [List.getElem?_set_ne e, e1, mD_ne hj (Ne.symm e)]
  · rw [List.getElem?_eq_none (by rw [List.length_set, nR_len, mD_len]; omega), List.getElem?_eq_none (by rw [nR_len, mD_len]; omega)]
theorem sh59 (xs : List Dn) (k : Int) (h3 : xs.length ≤ 1048576) (hS : sL xs xs.length ≤ 1048576) (h0 : 0 ≤ k) (hk : k ≤ 8388608) {h h' : List (Nat × Option Ab.Rows)} {nr q b : Nat} (hin : ∀ r rows, hg (hM q b xs h') r = some rows → hg h r = some rows) (hq : q < nr) (hb : b + xs.length ≤ nr) (hqb : q < b ∨ b + xs.length ≤ q) (hk' : ∀ r rows, hg h' r = some rows → r ≠ q ∧ (r < b ∨ b + xs.length ≤ r)) (hw' : wfH h' nr) :
    Sh Try.prog 59 [.sl q 2 0 xs.length, .int .i64 k] h nr (.int .i64 (k + xs.length + sL xs xs.length)) h' nr := by
  refine sh_of_wp mixed fun59 (by simp) ?_
  unfold ac59 ro59
  simp only [zipT]
  have e0 : ∀ n : Nat, 0 + ((n : Int)).toNat = n := fun n => by simp
  have hwf := fun i => hM_wf (q := q) (b := b) (xs := mD xs k i) (h' := h') hq (by rw [mD_len]; exact hb) hw'
  repeat (first
    | refine wC_a rfl ?_
    | refine q_s rfl ?_
    | refine q_b rfl ?_
    | refine wG_nil ?_
    | refine wG_g rfl ?_
    | refine wG_pure (o_len_vwm rfl) ?_
    | refine wG_pure (o_not_d rfl) ?_
    | refine wG_p rfl (by first | exact rfl | omega) ?_
    | refine wG_pure (o_str2 rfl rfl rfl) ?_
    | refine wG_pure (e_istr rfl rfl (by omega)) ?_
    | refine wG_pure (e_istr0 rfl rfl (by omega)) ?_
    | refine wG_pure (o_not rfl) ?_
    | refine wG_pure (e_ia_vw0 rfl rfl (by omega) rfl) ?_
    | refine wG_pure (e_ia_vwp rfl rfl (by omega) rfl) ?_
    | refine wG_pure (e_ia_vwm rfl rfl (by omega) (by omega) rfl) ?_
    | refine wG_pure (e_ia_vwi rfl rfl (by omega) rfl) ?_
    | refine wG_pure (e_ia_vwn rfl rfl (by omega) (by omega) rfl) ?_
    | refine wG_n rfl rfl ?_
    | refine wG_u rfl rfl ?_
    | refine wG_new (o_mks rfl rfl (by omega) (by decide)) ?_)
  refine wC_loopS Nat (fun i => ⟨[(0, .sl q 2 0 xs.length), (1, .int .i64 (k + i + sL xs i)), (5, .int .i64 (i : Int))], hM q b (mD xs k i) h', nr⟩) (fun i => i ≤ xs.length) (fun i => xs.length - i) 0 (Nat.zero_le _) ?_ (fun _ _ => Nat.le_refl _) ?_
  · refine Le_of ⟨⟨rfl, by simp [AV.ltr]; exact hq⟩, ⟨?_, rfl⟩, ⟨rfl, rfl⟩, trivial⟩ (fun r rows hr => ?_) (hwf 0)
    · show AV.int _ _ = AV.int _ _
      congr 1
      show k = k + ((0 : Nat) : Int) + ((0 : Nat) : Int)
      omega
    · rw [mD_0] at hr
      exact hin r rows hr
  intro i hi
  repeat (first
    | refine wC_a rfl ?_
    | refine q_s rfl ?_
    | refine q_b rfl ?_
    | refine wG_nil ?_
    | refine wG_g rfl ?_
    | refine wG_pure (o_len_vwm rfl) ?_
    | refine wG_pure (o_not_d rfl) ?_
    | refine wG_p rfl (by first | exact rfl | omega) ?_
    | refine wG_pure (o_str2 rfl rfl rfl) ?_
    | refine wG_pure (e_istr rfl rfl (by omega)) ?_
    | refine wG_pure (e_istr0 rfl rfl (by omega)) ?_
    | refine wG_pure (o_not rfl) ?_
    | refine wG_pure (e_ia_vw0 rfl rfl (by omega) rfl) ?_
    | refine wG_pure (e_ia_vwp rfl rfl (by omega) rfl) ?_
    | refine wG_pure (e_ia_vwm rfl rfl (by omega) (by omega) rfl) ?_
    | refine wG_pure (e_ia_vwi rfl rfl (by omega) rfl) ?_
    | refine wG_pure (e_ia_vwn rfl rfl (by omega) (by omega) rfl) ?_
    | refine wG_n rfl rfl ?_
    | refine wG_u rfl rfl ?_
    | refine wG_new (o_mks rfl rfl (by omega) (by decide)) ?_)
  refine wC_cond_d rfl (fun h5 => ?_) (fun h5 => ?_)
  · have hi2 : i < xs.length := by omega
    have hsi := sL_le (xs := xs) (show i + 1 ≤ xs.length by omega)
    have hup : sL xs (i + 1) = sL xs i + (xs.getD i default).d.ws.length := rfl
    have hbi : b + i ≠ q := by omega
    have hrow := nR_row (b := b) (xs := mD xs k i) (i := i) (by rw [mD_len]; exact hi2)
    rw [mD_get hi2, if_neg (Nat.lt_irrefl i)] at hrow
    have hset := mD_set (b := b) (k := k) hi2
    have hinn := hM_in (q := q) (b := b) (xs := mD xs k i) (h' := h') (i := i) (by rw [mD_len]; exact hi2) hbi
    rw [mD_get hi2, if_neg (Nat.lt_irrefl i)] at hinn
    have hrow2 : (nR hD b (mD xs k (i + 1)) (mD xs k (i + 1)).length z0)[i]? = some [.int .i64 (k + i + sL xs i), .sl (b + i) 1 0 (xs.getD i default).d.ws.length] := by
      rw [nR_row (by rw [mD_len]; exact hi2), mD_get hi2, if_pos (Nat.lt_succ_self _)]
      simp [mks_len]
    have hw1 : wfH ((q, some (nR hD b (mD xs k (i + 1)) (mD xs k (i + 1)).length z0)) :: hM q b (mD xs k i) h') nr := wfH_cons hq (hwf (i + 1) q _ hM_q).2 (hwf i)
    have sm := sh35 (xs.getD i default).d.ws (k + i + sL xs i + 1) (by omega) (by omega) (by omega) (r := b + i) (hg_skip hbi hinn) hw1
    repeat (first | (refine wG_pure (e_ia_sl rfl rfl (by omega) (by omega)) ?_; simp only [e0]) | refine wG_upd (o_st1 rfl hM_q hrow rfl rfl hset) ?_ | refine wG_pure (o_ldf_pt rfl hg_here hrow2 rfl) ?_ | refine wG_callS sm rfl ?_ | (first
    | refine wC_a rfl ?_
    | refine q_s rfl ?_
    | refine q_b rfl ?_
    | refine wG_nil ?_
    | refine wG_g rfl ?_
    | refine wG_pure (o_len_vwm rfl) ?_
    | refine wG_pure (o_not_d rfl) ?_
    | refine wG_p rfl (by first | exact rfl | omega) ?_
    | refine wG_pure (o_str2 rfl rfl rfl) ?_
    | refine wG_pure (e_istr rfl rfl (by omega)) ?_
    | refine wG_pure (e_istr0 rfl rfl (by omega)) ?_
    | refine wG_pure (o_not rfl) ?_
    | refine wG_pure (e_ia_vw0 rfl rfl (by omega) rfl) ?_
    | refine wG_pure (e_ia_vwp rfl rfl (by omega) rfl) ?_
    | refine wG_pure (e_ia_vwm rfl rfl (by omega) (by omega) rfl) ?_
    | refine wG_pure (e_ia_vwi rfl rfl (by omega) rfl) ?_
    | refine wG_pure (e_ia_vwn rfl rfl (by omega) (by omega) rfl) ?_
    | refine wG_n rfl rfl ?_
    | refine wG_u rfl rfl ?_
    | refine wG_new (o_mks rfl rfl (by omega) (by decide)) ?_))
    refine ⟨i + 1, hi2, by omega, Le_of ⟨⟨rfl, by simp [AV.ltr]; exact hq⟩, ⟨?_, rfl⟩, ⟨rfl, rfl⟩, trivial⟩ (fun r rows hr => ?_) (hwf (i + 1))⟩
    · show AV.int _ _ = AV.int _ _
      congr 1
      rw [hup]
      omega
    · rcases hM_cs hr with ⟨rfl, rfl⟩ | ⟨g1, j, hj, rfl, rfl⟩ | ⟨g1, g2, g3⟩
      · exact hg_skip (Ne.symm hbi) hg_here
      · rw [mD_len] at hj
        by_cases e : j = i
        · subst e
          rw [mD_get hi2, if_pos (Nat.lt_succ_self _)]
          exact hg_here
        · rw [mD_ne hj e]
          exact hg_skip (by omega) (hg_skip g1 (hM_in (by rw [mD_len]; exact hj) g1))
      · rw [mD_len] at g2
        exact hg_skip (by omega) (hg_skip g1 (hM_out g1 (by rw [mD_len]; exact g2) g3))
  · have hi3 : i = xs.length := by omega
    subst hi3
    repeat (first
    | refine wC_a rfl ?_
    | refine q_s rfl ?_
    | refine q_b rfl ?_
    | refine wG_nil ?_
    | refine wG_g rfl ?_
    | refine wG_pure (o_len_vwm rfl) ?_
    | refine wG_pure (o_not_d rfl) ?_
    | refine wG_p rfl (by first | exact rfl | omega) ?_
    | refine wG_pure (o_str2 rfl rfl rfl) ?_
    | refine wG_pure (e_istr rfl rfl (by omega)) ?_
    | refine wG_pure (e_istr0 rfl rfl (by omega)) ?_
    | refine wG_pure (o_not rfl) ?_
    | refine wG_pure (e_ia_vw0 rfl rfl (by omega) rfl) ?_
    | refine wG_pure (e_ia_vwp rfl rfl (by omega) rfl) ?_
    | refine wG_pure (e_ia_vwm rfl rfl (by omega) (by omega) rfl) ?_
    | refine wG_pure (e_ia_vwi rfl rfl (by omega) rfl) ?_
    | refine wG_pure (e_ia_vwn rfl rfl (by omega) (by omega) rfl) ?_
    | refine wG_n rfl rfl ?_
    | refine wG_u rfl rfl ?_
    | refine wG_new (o_mks rfl rfl (by omega) (by decide)) ?_)
    refine ⟨trivial, _, retVs_1 (retV_mv rfl), ?_, Nat.le_refl _⟩
    refine Le_of ⟨⟨rfl, rfl⟩, trivial⟩ (fun r rows hr => ?_) hw'
    obtain ⟨g1, g2⟩ := hk' r rows hr
    exact hM_out g1 (by rw [mD_len]; exact g2) hr
theorem sh20 (r : Rc) (xs : List Dn) (h1 : r.cs.length ≤ 1048576) (h2 : r.xs.length ≤ 1048576) (h3 : xs.length ≤ 1048576) (hS : sL xs xs.length ≤ 1048576) {h h' : List (Nat × Option Ab.Rows)} {nr m : Nat} (hin : ∀ i rows, (dtO r xs)[i]? = some rows → hg h (m + i) = some (shR m rows)) (hm : m + (xs.length + 3) ≤ nr) (hw : wfH h nr) (hw' : wfH h' nr) (hsub : ∀ q rows, hg h' q = some rows → hg h q = some rows ∧ (q < m ∨ m + (xs.length + 3) ≤ q)) :
    Sh Try.prog 20 [dtV m r xs, .int .i64 1] h nr (.int .i64 (1 + 2 * r.cs.length + 2 * r.xs.length + xs.length + sL xs xs.length)) h' (nr + 2) := by
  refine sh_of_wp mixed fun20 (by simp) ?_
  unfold ac20 ro20
  simp only [zipT]
  have i0 : hg h m = some (r.cs.map cRow) := by have := hin 0 _ rfl; rwa [shR_plain (cRowsP _)] at this
  have i1 : hg h (m + 1) = some (r.xs.map xRow) := by have := hin 1 _ rfl; rwa [shR_plain (xRowsP _)] at this
  have i2 : hg h (m + 2) = some (nR hD (m + 3) xs xs.length z0) := by have := hin 2 _ rfl; rwa [nR_sh] at this
  have i3 : ∀ i, i < xs.length → hg h (m + 3 + i) = some ((xs.getD i default).d.ws.map iRow) := fun i hi => by
    have h6 : (dtO r xs)[i + 3]? = some ((hD.w (xs.getD i default)).map iRow) := nO_get (K := hD) (k := xs.length) hi (Nat.le_refl _)
    have := hin _ _ h6
    rw [shR_plain (rowsP _)] at this
    rwa [show m + 3 + i = m + (i + 3) by omega]
  have hbw : wfH ((nr, some [[.sl m 2 0 r.cs.length, .sl (m + 1) 2 0 r.xs.length, .sl (m + 2) 2 0 xs.length]]) :: h) (nr + 1) := wfH_cons (by omega) (by simp [AV.ltr]; omega) (wfH_le hw (by omega))
  have s1 := sh58 r 1 h1 h2 (by decide) (by decide) (q1 := m) (q2 := m + 1) (hg_skip (by omega) i0) (hg_skip (by omega) i1) (by omega) hbw
  have s2 := sh59 xs (1 + 2 * r.cs.length + 2 * r.xs.length) h3 hS (by omega) (by omega) (h := (m + 1, some ((mkRl (1 + 2 * r.cs.length) r.xs.length).map xRow)) :: (m, some ((mkCn 1 r.cs.length).map cRow)) :: (nr + 1, some [[.sl m 2 0 r.cs.length, .sl (m + 1) 2 0 r.xs.length]]) :: (nr, some [[.sl m 2 0 r.cs.length, .sl (m + 1) 2 0 r.xs.length, .sl (m + 2) 2 0 xs.length]]) :: h) (h' := h') (nr := nr + 1 + 1) (q := m + 2) (b := m + 3) (fun q rows hq => by
    rcases hM_cs hq with ⟨rfl, rfl⟩ | ⟨g1, i, hi, rfl, rfl⟩ | ⟨g1, g2, g3⟩
    · exact hg_skip (by omega) (hg_skip (by omega) (hg_skip (by omega) (hg_skip (by omega) i2)))
    · exact hg_skip (by omega) (hg_skip (by omega) (hg_skip (by omega) (hg_skip (by omega) (i3 i hi))))
    · obtain ⟨k1, k2⟩ := hsub q rows g3
      have := (hw q rows k1).1
      exact hg_skip (by omega) (hg_skip (by omega) (hg_skip (by omega) (hg_skip (by omega) k1)))) (by omega) (by omega) (by omega) (fun q rows hq => by have := (hsub q rows hq).2; omega) (wfH_le hw' (by omega))
  repeat (first | refine wG_callS s1 rfl ?_ | refine wG_pure (o_ldt_pt rfl hg_here rfl rfl rfl) ?_ | refine wG_pure (o_ldf_pt rfl (hg_skip (by omega) (hg_skip (by omega) (hg_skip (by omega) hg_here))) rfl rfl) ?_ | refine wG_callS s2 rfl ?_ | (first
    | refine wC_a rfl ?_
    | refine q_s rfl ?_
    | refine q_b rfl ?_
    | refine wG_nil ?_
    | refine wG_g rfl ?_
    | refine wG_pure (o_len_vwm rfl) ?_
    | refine wG_pure (o_not_d rfl) ?_
    | refine wG_p rfl (by first | exact rfl | omega) ?_
    | refine wG_pure (o_str2 rfl rfl rfl) ?_
    | refine wG_pure (e_istr rfl rfl (by omega)) ?_
    | refine wG_pure (e_istr0 rfl rfl (by omega)) ?_
    | refine wG_pure (o_not rfl) ?_
    | refine wG_pure (e_ia_vw0 rfl rfl (by omega) rfl) ?_
    | refine wG_pure (e_ia_vwp rfl rfl (by omega) rfl) ?_
    | refine wG_pure (e_ia_vwm rfl rfl (by omega) (by omega) rfl) ?_
    | refine wG_pure (e_ia_vwi rfl rfl (by omega) rfl) ?_
    | refine wG_pure (e_ia_vwn rfl rfl (by omega) (by omega) rfl) ?_
    | refine wG_n rfl rfl ?_
    | refine wG_u rfl rfl ?_
    | refine wG_new (o_mks rfl rfl (by omega) (by decide)) ?_))
  refine ⟨trivial, _, retVs_1 (retV_mv rfl), ?_, by omega⟩
  exact Le_of ⟨⟨rfl, rfl⟩, trivial⟩ (fun _ _ h => h) (wfH_le hw' (show nr ≤ nr + 2 by omega))
end Go.Proofs.Ytkeobnaehgcloaa.Dst
