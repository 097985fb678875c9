/- Marks on a copied model: what else stands in memory stays as it is. -/
import Derived.Test.YtnohaclnpbpjbaaPmA
namespace Go.Proofs.Ytnohaclnpbpjbaa.Ab
open Go
/-- A contract on own objects holds where more is known. -/
theorem Sh_sub {P : Program} {f : Nat} {args : List AV} {h h2 h' : List (Nat × Option Rows)} {nr nr' : Nat} {v : AV} (e : ∀ r rows, hg h r = some rows → hg h2 r = some rows) (hs : Sh P f args h nr v h' nr') : Sh P f args h2 nr v h' nr' := by
  refine ⟨hs.1, fun B c0 cargs hr => hs.2 B c0 cargs ⟨⟨?_, ?_, ?_, ?_, ?_, ?_, ?_⟩, hr.kn, hr.fb, hr.bb⟩⟩
  · exact fun r rows hq => hr.hr.known r rows (e r rows hq)
  · exact fun r rows hq => hr.hr.len r rows (e r rows hq)
  · exact fun r rows hq => hr.hr.rowlen r rows (e r rows hq)
  · exact fun r rows hq => hr.hr.cells r rows (e r rows hq)
  · exact fun r rows hq => hr.hr.live r rows (e r rows hq)
  · exact fun r rows hq => hr.hr.base r rows (e r rows hq)
  · exact fun r r' rows rows' hq hq' => hr.hr.inj r r' rows rows' (e r rows hq) (e r' rows' hq')
end Go.Proofs.Ytnohaclnpbpjbaa.Ab
namespace Go.Proofs.Ytnohaclnpbpjbaa.Dst
open Go Go.Proofs.Ytnohaclnpbpjbaa.Ab Go.Proofs.Ytnohaclnpbpjbaa.Il
attribute [local irreducible] wpO wpC wpDr wpQ wpG wpE stepA seqQ blkQ Ret RetG ev
set_option maxRecDepth 10000
set_option maxHeartbeats 8000000
set_option linter.unusedSimpArgs false
set_option linter.unusedVariables false

def ac33 : AC := (.seq (.reg [⟨(some 2), none, (.box 4 true (.t 0))⟩, ⟨(some 4), none, (.mv (.c (.int .i64 0)))⟩]) (.seq (.reg [⟨(some 5), none, (.fa 3 (.t 2))⟩, ⟨(some 6), none, (.ld false 1 (.t 5))⟩, ⟨(some 7), none, (.mv (.t 1))⟩, ⟨(some 8), none, (.call 76 [(.t 6), (.t 7)])⟩, ⟨(some 1), none, (.mv (.t 8))⟩]) (.seq (.reg [⟨(some 9), none, (.mv (.t 1))⟩, ⟨(some 4), none, (.mv (.t 9))⟩]) .ret)))
def ro33 : List AOp := [(.mv (.t 4))]
theorem fun33 : Fun Try.prog 33 10 ac33 ro33 := ⟨Try.f33, _, Try.func33, by kernel_rfl, rfl, rfl, by kernel_rfl, by kernel_rfl, by decide⟩
def ac76 : AC := (.seq (.reg [⟨(some 4), none, (.mv (.c (.int .i64 0)))⟩]) (.seq (.seq (.reg [⟨(some 5), none, (.mv (.c (.int .i64 0)))⟩]) (.blk 0 (.loop (.seq (.seq (.reg [⟨(some 6), none, (.mv (.t 5))⟩, ⟨(some 7), none, (.mv (.t 0))⟩, ⟨(some 8), none, (.len (.t 7))⟩, ⟨(some 9), none, (.bin .lss (.t 6) (.t 8))⟩]) (.cond (.t 9) .skip (.exit 0))) (.seq (.blk 1 (.seq (.reg [⟨(some 12), none, (.mv (.t 0))⟩, ⟨(some 13), none, (.mv (.t 5))⟩, ⟨(some 14), none, (.mv (.t 1))⟩, ⟨(some 15), none, (.ia 4 (.t 12) (.t 13))⟩, ⟨(some 16), none, (.fa 0 (.t 15))⟩, ⟨none, none, (.st 1 (.t 16) (.t 14))⟩]) (.seq (.reg [⟨(some 17), none, (.mv (.t 1))⟩, ⟨(some 18), none, (.bin .add (.t 17) (.c (.int .i64 1)))⟩, ⟨(some 1), none, (.mv (.t 18))⟩]) (.seq (.reg [⟨(some 19), none, (.mv (.t 0))⟩, ⟨(some 20), none, (.mv (.t 5))⟩, ⟨(some 21), none, (.mv (.t 1))⟩, ⟨(some 22), none, (.ia 4 (.t 19) (.t 20))⟩, ⟨(some 23), none, (.fa 1 (.t 22))⟩, ⟨(some 24), none, (.fa 0 (.t 23))⟩, ⟨none, none, (.st 1 (.t 24) (.t 21))⟩]) (.seq (.reg [⟨(some 25), none, (.mv (.t 1))⟩, ⟨(some 26), none, (.bin .add (.t 25) (.c (.int .i64 1)))⟩, ⟨(some 1), none, (.mv (.t 26))⟩]) (.seq (.reg [⟨(some 27), none, (.mv (.t 0))⟩, ⟨(some 28), none, (.mv (.t 5))⟩, ⟨(some 29), none, (.ia 4 (.t 27) (.t 28))⟩, ⟨(some 30), none, (.fa 1 (.t 29))⟩, ⟨(some 31), none, (.fa 1 (.t 30))⟩, ⟨(some 32), none, (.ld false 1 (.t 31))⟩, ⟨(some 33), none, (.mv (.t 1))⟩, ⟨(some 34), none, (.call 58 [(.t 32), (.t 33)])⟩, ⟨(some 1), none, (.mv (.t 34))⟩]) (.seq (.reg [⟨(some 35), none, (.mv (.t 0))⟩, ⟨(some 36), none, (.mv (.t 5))⟩, ⟨(some 37), none, (.mv (.t 1))⟩, ⟨(some 38), none, (.ia 4 (.t 35) (.t 36))⟩, ⟨(some 39), none, (.fa 3 (.t 38))⟩, ⟨none, none, (.st 1 (.t 39) (.t 37))⟩]) (.reg [⟨(some 40), none, (.mv (.t 1))⟩, ⟨(some 41), none, (.bin .add (.t 40) (.c (.int .i64 1)))⟩, ⟨(some 1), none, (.mv (.t 41))⟩])))))))) (.reg [⟨(some 10), none, (.mv (.t 5))⟩, ⟨(some 11), none, (.bin .add (.t 10) (.c (.int .i64 1)))⟩, ⟨(some 5), none, (.mv (.t 11))⟩])))))) (.seq (.reg [⟨(some 42), none, (.mv (.t 1))⟩, ⟨(some 4), none, (.mv (.t 42))⟩]) .ret)))
def ro76 : List AOp := [(.mv (.t 4))]
theorem fun76 : Fun Try.prog 76 43 ac76 ro76 := ⟨Try.f76, _, Try.func76, by kernel_rfl, rfl, rfl, by kernel_rfl, by kernel_rfl, by decide⟩

/-- The first i have been marked. -/
def mE (xs : List Ev) (k : Int) (i : Nat) : List Ev := (List.range xs.length).map fun j => if j < i then ⟨true, k + 3 * j + sL xs j, ⟨k + 3 * j + sL xs j + 1, mks (k + 3 * j + sL xs j + 1 + 1) (xs.getD j default).d.ws.length⟩, k + 3 * j + sL xs j + 1 + 1 + (xs.getD j default).d.ws.length⟩ else xs.getD j default
theorem mE_len (xs : List Ev) (k : Int) (i : Nat) : (mE xs k i).length = xs.length := by simp [mE]
theorem mE_get {xs : List Ev} {k : Int} {i j : Nat} (h : j < xs.length) : (mE xs k i).getD j default = if j < i then ⟨true, k + 3 * j + sL xs j, ⟨k + 3 * j + sL xs j + 1, mks (k + 3 * j + sL xs j + 1 + 1) (xs.getD j default).d.ws.length⟩, k + 3 * j + sL xs j + 1 + 1 + (xs.getD j default).d.ws.length⟩ else xs.getD j default := by
  simp [mE, List.getD_eq_getElem?_getD, List.getElem?_map, List.getElem?_range h]
theorem mE_0 (xs : List Ev) (k : Int) : mE xs k 0 = xs := by
  refine List.ext_getElem (mE_len _ _ _) fun j h1 h2 => ?_
  simp [mE, List.getD_eq_getElem?_getD, List.getElem?_eq_getElem h2]
theorem mE_ne {xs : List Ev} {k : Int} {i j : Nat} (h : j < xs.length) (e : j ≠ i) : (mE xs k (i + 1)).getD j default = (mE xs k i).getD j default := by
  rw [mE_get h, mE_get h]
  by_cases g : j < i
  · rw [if_pos g, if_pos (by omega)]
  · rw [if_neg g, if_neg (by omega)]
def hM (q b : Nat) (xs : List Ev) (h' : List (Nat × Option Ab.Rows)) : List (Nat × Option Ab.Rows) := (q, some (nR hE b xs xs.length zE)) :: (mkh b (nO hE xs xs.length) ++ h')
section
variable {q b : Nat} {xs : List Ev} {h' : List (Nat × Option Ab.Rows)}
theorem hM_q : hg (hM q b xs h') q = some (nR hE b xs xs.length zE) := hg_here
theorem hM_in {i : Nat} (hi : i < xs.length) (hq : b + i ≠ q) : hg (hM q b xs h') (b + i) = some ((xs.getD i default).d.ws.map iRow) :=
  hg_skip hq (hg_in (by omega) (by rw [Nat.add_sub_cancel_left]; exact nO_get (K := hE) hi (Nat.le_refl _)))
theorem hM_cs {r : Nat} {rows : Ab.Rows} (h : hg (hM q b xs h') r = some rows) : (r = q ∧ rows = nR hE b xs xs.length zE) ∨ (r ≠ q ∧ ∃ i, i < xs.length ∧ r = b + i ∧ rows = (xs.getD i default).d.ws.map iRow) ∨ (r ≠ q ∧ (r < b ∨ b + xs.length ≤ r) ∧ hg h' r = some rows) := by
  by_cases e : r = q
  · subst e
    rw [hM_q] at h
    exact .inl ⟨rfl, (Option.some.inj h).symm⟩
  · have h2 : hg (mkh b (nO hE xs xs.length) ++ h') r = some rows := by simpa [hM, Ab.hg, upd, e] using h
    rw [hg_app, nO_len (Nat.le_refl _)] at h2
    split at h2
    · rename_i hc
      refine .inr (.inl ⟨e, r - b, by omega, by omega, ?_⟩)
      rw [nO_get (by omega) (Nat.le_refl _)] at h2
      exact (Option.some.inj h2).symm
    · exact .inr (.inr ⟨e, by omega, h2⟩)
theorem hM_out {r : Nat} {rows : Ab.Rows} (h1 : r ≠ q) (h2 : r < b ∨ b + xs.length ≤ r) (h : hg h' r = some rows) : hg (hM q b xs h') r = some rows :=
  hg_skip h1 (hg_out (fun hc => by have h3 := hc.1; have h4 := hc.2; rw [nO_len (Nat.le_refl _)] at h4; omega) h)
theorem hM_wf {nr : Nat} (hq : q < nr) (hb : b + xs.length ≤ nr) (hw : wfH h' nr) : wfH (hM q b xs h') nr := by
  intro r rows hr
  rcases hM_cs hr with ⟨rfl, rfl⟩ | ⟨_, i, hi, rfl, rfl⟩ | ⟨_, _, h3⟩
  · exact ⟨hq, nR_ltr hb (zE_ltr _ _)⟩
  · exact ⟨by omega, ltrI _ _⟩
  · exact hw r rows h3
end
theorem nR_row {b : Nat} {xs : List Ev} {i : Nat} (h : i < xs.length) : (nR hE b xs xs.length zE)[i]? = some [.int .i64 (xs.getD i default).p, .int .i64 (xs.getD i default).d.f, .sl (b + i) 1 0 (xs.getD i default).d.ws.length, .int .i64 (xs.getD i default).o] := nR_get_n (K := hE) h
theorem mE_set {b : Nat} {xs : List Ev} {k : Int} {i : Nat} (h : i < xs.length) : (nR hE b (mE xs k i) (mE xs k i).length zE).set i [.int .i64 (k + 3 * i + sL xs i), .int .i64 (k + 3 * i + sL xs i + 1), .sl (b + i) 1 0 (xs.getD i default).d.ws.length, .int .i64 (k + 3 * i + sL xs i + 1 + 1 + (xs.getD i default).d.ws.length)] = nR hE b (mE xs k (i + 1)) (mE xs k (i + 1)).length zE := by
  refine List.ext_getElem? fun j => ?_
  by_cases hj : j < xs.length
  · have e2 := nR_row (b := b) (xs := mE xs k (i + 1)) (i := j) (by rw [mE_len]; exact hj)
    have e1 := nR_row (b := b) (xs := mE xs k i) (i := j) (by rw [mE_len]; exact hj)
    rw [e2]
    by_cases e : i = j
    · subst e
      rw [List.getElem?_set_self (by rw [nR_len, mE_len]; exact hj), mE_get hj, if_pos (Nat.lt_succ_self _)]
      simp [mks_len]
    · rw [List.getElem?_set_ne e, e1, mE_ne hj (Ne.symm e)]
  · rw [List.getElem?_eq_none (by rw [List.length_set, nR_len, mE_len]; omega), List.getElem?_eq_none (by rw [nR_len, mE_len]; omega)]
theorem ltr_set {R : Ab.Rows} {i nr : Nat} {r' : List AV} (h : ∀ row ∈ R, ∀ x ∈ row, AV.ltr nr x = true) (h2 : ∀ x ∈ r', AV.ltr nr x = true) : ∀ row ∈ R.set i r', ∀ x ∈ row, AV.ltr nr x = true := by
  intro row hr x hx
  rcases List.mem_or_eq_of_mem_set hr with h3 | rfl
  · exact h row h3 x hx
  · exact h2 x hx
theorem sh76 (xs : List Ev) (k : Int) (h3 : xs.length ≤ 1048576) (hS : sL xs xs.length ≤ 1048576) (h0 : 0 ≤ k) (hk : k ≤ 8388608) {h h' : List (Nat × Option Ab.Rows)} {nr q b : Nat} (hin : ∀ r rows, hg (hM q b xs h') r = some rows → hg h r = some rows) (hq : q < nr) (hb : b + xs.length ≤ nr) (hqb : q < b ∨ b + xs.length ≤ q) (hk' : ∀ r rows, hg h' r = some rows → r ≠ q ∧ (r < b ∨ b + xs.length ≤ r)) (hw' : wfH h' nr) :
    Sh Try.prog 76 [.sl q 4 0 xs.length, .int .i64 k] h nr (.int .i64 (k + 3 * xs.length + sL xs xs.length)) h' nr := by
  refine sh_of_wp mixed fun76 (by simp) ?_
  unfold ac76 ro76
  simp only [zipT]
  have e0 : ∀ n : Nat, 0 + ((n : Int)).toNat = n := fun n => by simp
  have hwf := fun i => hM_wf (q := q) (b := b) (xs := mE xs k i) (h' := h') hq (by rw [mE_len]; exact hb) hw'
  repeat (first
    | refine wC_a rfl ?_
    | refine q_s rfl ?_
    | refine q_b rfl ?_
    | refine wG_nil ?_
    | refine wG_g rfl ?_
    | refine wG_pure (o_len_vwm rfl) ?_
    | refine wG_pure (o_not_d rfl) ?_
    | refine wG_p rfl (by first | exact rfl | omega) ?_
    | refine wG_pure (o_str2 rfl rfl rfl) ?_
    | refine wG_pure (e_istr rfl rfl (by omega)) ?_
    | refine wG_pure (e_istr0 rfl rfl (by omega)) ?_
    | refine wG_pure (o_not rfl) ?_
    | refine wG_pure (e_ia_vw0 rfl rfl (by omega) rfl) ?_
    | refine wG_pure (e_ia_vwp rfl rfl (by omega) rfl) ?_
    | refine wG_pure (e_ia_vwm rfl rfl (by omega) (by omega) rfl) ?_
    | refine wG_pure (e_ia_vwi rfl rfl (by omega) rfl) ?_
    | refine wG_pure (e_ia_vwn rfl rfl (by omega) (by omega) rfl) ?_
    | refine wG_n rfl rfl ?_
    | refine wG_u rfl rfl ?_
    | refine wG_new (o_mks rfl rfl (by omega) (by decide)) ?_)
  refine wC_loopS Nat (fun i => ⟨[(0, .sl q 4 0 xs.length), (1, .int .i64 (k + 3 * i + sL xs i)), (5, .int .i64 (i : Int))], hM q b (mE xs k i) h', nr⟩) (fun i => i ≤ xs.length) (fun i => xs.length - i) 0 (Nat.zero_le _) ?_ (fun _ _ => Nat.le_refl _) ?_
  · refine Le_of ⟨⟨rfl, by simp [AV.ltr]; exact hq⟩, ⟨?_, rfl⟩, ⟨rfl, rfl⟩, trivial⟩ (fun r rows hr => ?_) (hwf 0)
    · show AV.int _ _ = AV.int _ _
      congr 1
      show k = k + 3 * ((0 : Nat) : Int) + ((0 : Nat) : Int)
      omega
    · rw [mE_0] at hr
      exact hin r rows hr
  intro i hi
  repeat (first
    | refine wC_a rfl ?_
    | refine q_s rfl ?_
    | refine q_b rfl ?_
    | refine wG_nil ?_
    | refine wG_g rfl ?_
    | refine wG_pure (o_len_vwm rfl) ?_
    | refine wG_pure (o_not_d rfl) ?_
    | refine wG_p rfl (by first | exact rfl | omega) ?_
    | refine wG_pure (o_str2 rfl rfl rfl) ?_
    | refine wG_pure (e_istr rfl rfl (by omega)) ?_
    | refine wG_pure (e_istr0 rfl rfl (by omega)) ?_
    | refine wG_pure (o_not rfl) ?_
    | refine wG_pure (e_ia_vw0 rfl rfl (by omega) rfl) ?_
    | refine wG_pure (e_ia_vwp rfl rfl (by omega) rfl) ?_
    | refine wG_pure (e_ia_vwm rfl rfl (by omega) (by omega) rfl) ?_
    | refine wG_pure (e_ia_vwi rfl rfl (by omega) rfl) ?_
    | refine wG_pure (e_ia_vwn rfl rfl (by omega) (by omega) rfl) ?_
    | refine wG_n rfl rfl ?_
    | refine wG_u rfl rfl ?_
    | refine wG_new (o_mks rfl rfl (by omega) (by decide)) ?_)
  refine wC_cond_d rfl (fun h5 => ?_) (fun h5 => ?_)
  · have hi2 : i < xs.length := by omega
    have hsi := sL_le (xs := xs) (show i + 1 ≤ xs.length by omega)
    have hup : sL xs (i + 1) = sL xs i + (xs.getD i default).d.ws.length := rfl
    have hbi : b + i ≠ q := by omega
    have hrow := nR_row (b := b) (xs := mE xs k i) (i := i) (by rw [mE_len]; exact hi2)
    rw [mE_get hi2, if_neg (Nat.lt_irrefl i)] at hrow
    have hset := mE_set (b := b) (k := k) hi2
    have hinn := hM_in (q := q) (b := b) (xs := mE xs k i) (h' := h') (i := i) (by rw [mE_len]; exact hi2) hbi
    rw [mE_get hi2, if_neg (Nat.lt_irrefl i)] at hinn
    have hR0l := (hwf i q _ hM_q).2
    have hq0 : hg (hM q b (mE xs k i) h') q = some (nR hE b (mE xs k i) (mE xs k i).length zE) := hM_q
    have hRn : (nR hE b (mE xs k i) (mE xs k i).length zE).length = xs.length := by rw [nR_len, mE_len]
    generalize nR hE b (mE xs k i) (mE xs k i).length zE = R0 at *
    generalize hD : (xs.getD i default).d.ws = ws at *
    generalize hf : (xs.getD i default).d.f = f0 at *
    generalize ho : (xs.getD i default).o = o0 at *
    generalize hp : (xs.getD i default).p = p0 at *
    have hrow1 : (R0.set i [.int .i64 (k + 3 * i + sL xs i), .int .i64 f0, .sl (b + i) 1 0 ws.length, .int .i64 o0])[i]? = some [.int .i64 (k + 3 * i + sL xs i), .int .i64 f0, .sl (b + i) 1 0 ws.length, .int .i64 o0] := List.getElem?_set_self (by omega)
    have hrow2 : ((R0.set i [.int .i64 (k + 3 * i + sL xs i), .int .i64 f0, .sl (b + i) 1 0 ws.length, .int .i64 o0]).set i [.int .i64 (k + 3 * i + sL xs i), .int .i64 (k + 3 * i + sL xs i + 1), .sl (b + i) 1 0 ws.length, .int .i64 o0])[i]? = some [.int .i64 (k + 3 * i + sL xs i), .int .i64 (k + 3 * i + sL xs i + 1), .sl (b + i) 1 0 ws.length, .int .i64 o0] := List.getElem?_set_self (by rw [List.length_set]; omega)
    have hw1 : wfH ((q, some ((R0.set i [.int .i64 (k + 3 * i + sL xs i), .int .i64 f0, .sl (b + i) 1 0 ws.length, .int .i64 o0]).set i [.int .i64 (k + 3 * i + sL xs i), .int .i64 (k + 3 * i + sL xs i + 1), .sl (b + i) 1 0 ws.length, .int .i64 o0])) :: (q, some (R0.set i [.int .i64 (k + 3 * i + sL xs i), .int .i64 f0, .sl (b + i) 1 0 ws.length, .int .i64 o0])) :: hM q b (mE xs k i) h') nr :=
      wfH_cons hq (ltr_set (ltr_set hR0l (by simp [AV.ltr]; omega)) (by simp [AV.ltr]; omega)) (wfH_cons hq (ltr_set hR0l (by simp [AV.ltr]; omega)) (hwf i))
    have sm := sh58 ws (k + 3 * i + sL xs i + 1 + 1) (by omega) (by omega) (by omega) (r := b + i) (hg_skip hbi (hg_skip hbi hinn)) hw1
    repeat (first | (refine wG_pure (e_ia_sl rfl rfl (by omega) (by omega)) ?_; simp only [e0]) | refine wG_upd (o_st1 rfl hq0 hrow rfl rfl rfl) ?_ | refine wG_upd (o_st1 rfl hg_here hrow1 rfl rfl rfl) ?_ | refine wG_pure (o_ldf_pt rfl hg_here hrow2 rfl) ?_ | refine wG_callS sm rfl ?_ | refine wG_upd (o_st1 rfl (hg_skip (Ne.symm hbi) hg_here) hrow2 rfl rfl rfl) ?_ | (first
    | refine wC_a rfl ?_
    | refine q_s rfl ?_
    | refine q_b rfl ?_
    | refine wG_nil ?_
    | refine wG_g rfl ?_
    | refine wG_pure (o_len_vwm rfl) ?_
    | refine wG_pure (o_not_d rfl) ?_
    | refine wG_p rfl (by first | exact rfl | omega) ?_
    | refine wG_pure (o_str2 rfl rfl rfl) ?_
    | refine wG_pure (e_istr rfl rfl (by omega)) ?_
    | refine wG_pure (e_istr0 rfl rfl (by omega)) ?_
    | refine wG_pure (o_not rfl) ?_
    | refine wG_pure (e_ia_vw0 rfl rfl (by omega) rfl) ?_
    | refine wG_pure (e_ia_vwp rfl rfl (by omega) rfl) ?_
    | refine wG_pure (e_ia_vwm rfl rfl (by omega) (by omega) rfl) ?_
    | refine wG_pure (e_ia_vwi rfl rfl (by omega) rfl) ?_
    | refine wG_pure (e_ia_vwn rfl rfl (by omega) (by omega) rfl) ?_
    | refine wG_n rfl rfl ?_
    | refine wG_u rfl rfl ?_
    | refine wG_new (o_mks rfl rfl (by omega) (by decide)) ?_))
    refine ⟨i + 1, hi2, by omega, Le_of ⟨⟨rfl, by simp [AV.ltr]; exact hq⟩, ⟨?_, rfl⟩, ⟨rfl, rfl⟩, trivial⟩ (fun r rows hr => ?_) (hwf (i + 1))⟩
    · show AV.int _ _ = AV.int _ _
      congr 1
      rw [hup]
      omega
    · rcases hM_cs hr with ⟨rfl, rfl⟩ | ⟨g1, j, hj, rfl, rfl⟩ | ⟨g1, g2, g3⟩
      · refine hg_here.trans ?_
        rw [← hset]
        simp only [List.set_set]
        rfl
      · rw [mE_len] at hj
        by_cases e : j = i
        · subst e
          rw [mE_get hi2, if_pos (Nat.lt_succ_self _)]
          simp only [hD]
          exact hg_skip hbi hg_here
        · rw [mE_ne hj e]
          exact hg_skip g1 (hg_skip (by omega) (hg_skip g1 (hg_skip g1 (hM_in (by rw [mE_len]; exact hj) g1))))
      · rw [mE_len] at g2
        exact hg_skip g1 (hg_skip (by omega) (hg_skip g1 (hg_skip g1 (hM_out g1 (by rw [mE_len]; exact g2) g3))))
  · have hi3 : i = xs.length := by omega
    subst hi3
    repeat (first
    | refine wC_a rfl ?_
    | refine q_s rfl ?_
    | refine q_b rfl ?_
    | refine wG_nil ?_
    | refine wG_g rfl ?_
    | refine wG_pure (o_len_vwm rfl) ?_
    | refine wG_pure (o_not_d rfl) ?_
    | refine wG_p rfl (by first | exact rfl | omega) ?_
    | refine wG_pure (o_str2 rfl rfl rfl) ?_
    | refine wG_pure (e_istr rfl rfl (by omega)) ?_
    | refine wG_pure (e_istr0 rfl rfl (by omega)) ?_
    | refine wG_pure (o_not rfl) ?_
    | refine wG_pure (e_ia_vw0 rfl rfl (by omega) rfl) ?_
    | refine wG_pure (e_ia_vwp rfl rfl (by omega) rfl) ?_
    | refine wG_pure (e_ia_vwm rfl rfl (by omega) (by omega) rfl) ?_
    | refine wG_pure (e_ia_vwi rfl rfl (by omega) rfl) ?_
    | refine wG_pure (e_ia_vwn rfl rfl (by omega) (by omega) rfl) ?_
    | refine wG_n rfl rfl ?_
    | refine wG_u rfl rfl ?_
    | refine wG_new (o_mks rfl rfl (by omega) (by decide)) ?_)
    refine ⟨trivial, _, retVs_1 (retV_mv rfl), ?_, Nat.le_refl _⟩
    refine Le_of ⟨⟨rfl, rfl⟩, trivial⟩ (fun r rows hr => ?_) hw'
    obtain ⟨g1, g2⟩ := hk' r rows hr
    exact hM_out g1 (by rw [mE_len]; exact g2) hr
/-- Marks on a copy of a model: what else is known of stays known. -/
theorem sh_mdm (m : Md) (xs : List Ev) (h3 : xs.length ≤ 1048576) (hS : sL xs xs.length ≤ 1048576) {h h' : List (Nat × Option Ab.Rows)} {nr p : Nat} (hin : ∀ i rows, (teO xs)[i]? = some rows → hg h (p + i) = some (shR p rows)) (hm : p + (xs.length + 1) ≤ nr) (hw' : wfH h' nr) (hsub : ∀ q rows, hg h' q = some rows → hg h q = some rows ∧ (q < p ∨ p + (xs.length + 1) ≤ q)) :
    Sh Try.prog 33 [mdV p m xs, .int .i64 1] h nr (.int .i64 (1 + 3 * xs.length + sL xs xs.length)) h' (nr + 1) := by
  have i2 : hg h p = some (nR hE (p + 1) xs xs.length zE) := by have := hin 0 _ rfl; rwa [nR_sh] at this
  have i3 : ∀ i, i < xs.length → hg h (p + 1 + i) = some ((xs.getD i default).d.ws.map iRow) := fun i hi => by
    have h6 : (teO xs)[i + 1]? = some ((hE.w (xs.getD i default)).map iRow) := nO_get (K := hE) (k := xs.length) hi (Nat.le_refl _)
    have := hin _ _ h6
    rw [shR_plain (rowsP _)] at this
    rwa [show p + 1 + i = p + (i + 1) by omega]
  have hsub2 : ∀ q rows, hg (hM p (p + 1) xs h') q = some rows → hg h q = some rows := fun q rows hq => by
    rcases hM_cs hq with ⟨rfl, rfl⟩ | ⟨g1, i, hi, rfl, rfl⟩ | ⟨g1, g2, g3⟩
    · exact i2
    · exact i3 i hi
    · exact (hsub q rows g3).1
  refine Sh_sub hsub2 (sh_of_wp mixed fun33 (by simp) ?_)
  unfold ac33 ro33
  simp only [zipT]
  have s2 := sh76 xs 1 h3 hS (by omega) (by omega) (h := (nr, some [[.int .i64 m.f, .int .i64 m.y, .int .i64 m.p, .sl p 4 0 xs.length]]) :: hM p (p + 1) xs h') (h' := h') (nr := nr + 1) (q := p) (b := p + 1) (fun q rows hq => by
    refine hg_skip ?_ hq
    rcases hM_cs hq with ⟨rfl, rfl⟩ | ⟨g1, i, hi, rfl, rfl⟩ | ⟨g1, g2, g3⟩
    · omega
    · omega
    · have := (hw' q rows g3).1; omega) (by omega) (by omega) (by omega) (fun q rows hq => by have := (hsub q rows hq).2; omega) (wfH_le hw' (by omega))
  repeat (first | refine wG_pure (o_ldf_pt rfl hg_here rfl rfl) ?_ | refine wG_callS s2 rfl ?_ | (first
    | refine wC_a rfl ?_
    | refine q_s rfl ?_
    | refine q_b rfl ?_
    | refine wG_nil ?_
    | refine wG_g rfl ?_
    | refine wG_pure (o_len_vwm rfl) ?_
    | refine wG_pure (o_not_d rfl) ?_
    | refine wG_p rfl (by first | exact rfl | omega) ?_
    | refine wG_pure (o_str2 rfl rfl rfl) ?_
    | refine wG_pure (e_istr rfl rfl (by omega)) ?_
    | refine wG_pure (e_istr0 rfl rfl (by omega)) ?_
    | refine wG_pure (o_not rfl) ?_
    | refine wG_pure (e_ia_vw0 rfl rfl (by omega) rfl) ?_
    | refine wG_pure (e_ia_vwp rfl rfl (by omega) rfl) ?_
    | refine wG_pure (e_ia_vwm rfl rfl (by omega) (by omega) rfl) ?_
    | refine wG_pure (e_ia_vwi rfl rfl (by omega) rfl) ?_
    | refine wG_pure (e_ia_vwn rfl rfl (by omega) (by omega) rfl) ?_
    | refine wG_n rfl rfl ?_
    | refine wG_u rfl rfl ?_
    | refine wG_new (o_mks rfl rfl (by omega) (by decide)) ?_))
  refine ⟨trivial, _, retVs_1 (retV_mv rfl), ?_, by omega⟩
  exact Le_of ⟨⟨rfl, rfl⟩, trivial⟩ (fun _ _ h => h) (wfH_le hw' (show nr ≤ nr + 1 by omega))
theorem hg_memL : ∀ (l : List (Nat × Option Ab.Rows)) {q : Nat} {rows : Ab.Rows}, hg l q = some rows → (q, some rows) ∈ l
  | [], q, rows, h => by simp [Ab.hg, upd] at h
  | (k, x) :: l, q, rows, h => by
    have e : hg ((k, x) :: l) q = if q = k then x else hg l q := rfl
    rw [e] at h
    split at h
    · rename_i hk; subst hk; subst h; exact List.mem_cons_self
    · exact List.mem_cons_of_mem _ (hg_memL l h)
end Go.Proofs.Ytnohaclnpbpjbaa.Dst
