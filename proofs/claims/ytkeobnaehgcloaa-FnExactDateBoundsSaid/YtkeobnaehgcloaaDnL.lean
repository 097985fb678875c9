/- The likeliest dating: both sides. -/
import Derived.Test.YtkeobnaehgcloaaDnH
import Derived.Test.YtkeobnaehgcloaaDnK
namespace Go.Proofs.Ytkeobnaehgcloaa.Dst
open Go Go.Proofs.Ytkeobnaehgcloaa.Ab Go.Proofs.Ytkeobnaehgcloaa.Il Go.Proofs.Ytkeobnaehgcloaa.Rec
attribute [local irreducible] wpO wpC wpDr wpQ wpG wpE stepA seqQ blkQ Ret RetG ev
set_option maxRecDepth 10000
set_option maxHeartbeats 8000000
set_option linter.unusedSimpArgs false
set_option linter.unusedVariables false

def ac33 : AC := (.seq (.reg [⟨(some 1), none, (.box 3 true (.t 0))⟩, ⟨(some 2), none, (.mv (.c .nilS))⟩, ⟨(some 3), none, (.mv (.c (.int .i64 0)))⟩, ⟨(some 4), none, (.mv (.c (.bool false)))⟩]) (.seq (.reg [⟨(some 10), none, (.bsl 1 [(.int .i64 0)] 0 [])⟩, ⟨(some 5), none, (.mv (.t 10))⟩, ⟨(some 6), none, (.mv (.c (.int .i64 0)))⟩]) (.seq (.seq (.reg [⟨(some 11), none, (.ld true 3 (.t 1))⟩, ⟨(some 12), none, (.call 47 [(.t 11)])⟩, ⟨(some 13), none, (.un .not (.t 12))⟩]) (.cond (.t 13) (.seq (.reg [⟨(some 14), none, (.mv (.t 5))⟩, ⟨(some 2), none, (.mv (.t 14))⟩, ⟨(some 3), none, (.mv (.c (.int .i64 0)))⟩, ⟨(some 4), none, (.mv (.c (.bool false)))⟩]) .ret) .skip)) (.seq (.seq (.reg [⟨(some 7), none, (.mv (.c (.int .i64 0)))⟩]) (.blk 0 (.loop (.seq (.seq (.reg [⟨(some 15), none, (.mv (.t 7))⟩, ⟨(some 16), none, (.ld true 3 (.t 1))⟩, ⟨(some 17), none, (.call 67 [(.t 16)])⟩, ⟨(some 18), none, (.bin .lss (.t 15) (.t 17))⟩]) (.cond (.t 18) .skip (.exit 0))) (.seq (.blk 1 (.seq (.reg [⟨(some 21), none, (.ld true 3 (.t 1))⟩, ⟨(some 22), none, (.mv (.t 7))⟩, ⟨(some 23), none, (.call 68 [(.t 21), (.t 22)])⟩, ⟨(some 8), none, (.mv (.t 23))⟩]) (.seq (.reg [⟨(some 24), none, (.ld true 3 (.t 1))⟩, ⟨(some 25), none, (.mv (.t 8))⟩, ⟨(some 26), none, (.call 65 [(.t 24), (.t 25)])⟩, ⟨(some 9), none, (.mv (.t 26))⟩]) (.seq (.reg [⟨(some 27), none, (.mv (.t 9))⟩, ⟨(some 28), none, (.mv (.t 6))⟩, ⟨(some 29), none, (.bin .gtr (.t 27) (.t 28))⟩]) (.cond (.t 29) (.seq (.reg [⟨(some 30), none, (.mv (.t 8))⟩, ⟨(some 5), none, (.mv (.t 30))⟩]) (.reg [⟨(some 31), none, (.mv (.t 9))⟩, ⟨(some 6), none, (.mv (.t 31))⟩])) .skip))))) (.reg [⟨(some 19), none, (.mv (.t 7))⟩, ⟨(some 20), none, (.bin .add (.t 19) (.c (.int .i64 1)))⟩, ⟨(some 7), none, (.mv (.t 20))⟩])))))) (.seq (.reg [⟨(some 32), none, (.mv (.t 5))⟩, ⟨(some 33), none, (.mv (.t 6))⟩, ⟨(some 34), none, (.mv (.t 6))⟩, ⟨(some 35), none, (.bin .gtr (.t 34) (.c (.int .i64 0)))⟩, ⟨(some 2), none, (.mv (.t 32))⟩, ⟨(some 3), none, (.mv (.t 33))⟩, ⟨(some 4), none, (.mv (.t 35))⟩]) .ret)))))
def ro33 : List AOp := [(.mv (.t 2)), (.mv (.t 3)), (.mv (.t 4))]
theorem fun33 : Fun Try.prog 33 36 ac33 ro33 := ⟨Try.f33, _, Try.func33, by kernel_rfl, rfl, rfl, by kernel_rfl, by kernel_rfl, by decide⟩
def ac34 : AC := (.seq (.reg [⟨(some 1), none, (.box 3 true (.t 0))⟩, ⟨(some 2), none, (.mv (.c .nilS))⟩, ⟨(some 3), none, (.mv (.c (.int .i64 0)))⟩, ⟨(some 4), none, (.mv (.c (.bool false)))⟩]) (.seq (.seq (.reg [⟨(some 7), none, (.ld true 3 (.t 1))⟩, ⟨(some 8), none, (.call 24 [(.t 7)])⟩, ⟨(some 9), none, (.un .not (.t 8))⟩]) (.cond (.t 9) (.seq (.reg [⟨(some 2), none, (.mv (.c .nilS))⟩, ⟨(some 3), none, (.mv (.c (.int .i64 0)))⟩, ⟨(some 4), none, (.mv (.c (.bool false)))⟩]) .ret) .skip)) (.seq (.reg [⟨(some 5), none, (.alloc [.nilS])⟩]) (.seq (.reg [⟨(some 6), none, (.alloc [(.int .i64 0)])⟩, ⟨none, none, (.st 1 (.t 6) (.c (.int .i64 0)))⟩]) (.seq (.reg [⟨(some 10), none, (.ld true 3 (.t 1))⟩, ⟨(some 11), none, (.mkf 72 [(.t 6), (.t 5)])⟩, ⟨(some 12), none, (.call 69 [(.t 10), (.t 11)])⟩]) (.seq (.dreg [⟨(some 13), none, (.ld false 1 (.t 5))⟩, ⟨(some 14), none, (.ld false 1 (.t 6))⟩, ⟨(some 15), none, (.ld false 1 (.t 6))⟩, ⟨(some 16), none, (.bin .gtr (.t 15) (.c (.int .i64 0)))⟩, ⟨(some 2), none, (.mv (.t 13))⟩, ⟨(some 3), none, (.mv (.t 14))⟩, ⟨(some 4), none, (.mv (.t 16))⟩] [[], [], [], [2], [0], [0, 1, 4], [0, 1, 2, 3, 4, 5]]) .ret))))))
def ro34 : List AOp := [(.mv (.t 2)), (.mv (.t 3)), (.mv (.t 4))]
theorem fun34 : Fun Try.prog 34 17 ac34 ro34 := ⟨Try.f34, _, Try.func34, by kernel_rfl, rfl, rfl, by kernel_rfl, by kernel_rfl, by decide⟩
def ac72 : AC := (.seq (.reg [⟨(some 6), none, (.mv (.t 1))⟩, ⟨(some 7), none, (.ld false 1 (.t 2))⟩, ⟨(some 8), none, (.bin .gtr (.t 6) (.t 7))⟩]) (.cond (.t 8) (.reg [⟨(some 9), none, (.mv (.t 0))⟩, ⟨(some 10), none, (.call 73 [(.t 9)])⟩, ⟨(some 11), none, (.mv (.t 1))⟩, ⟨none, none, (.st 1 (.t 3) (.t 10))⟩, ⟨none, none, (.st 1 (.t 2) (.t 11))⟩]) .skip))
def ro72 : List AOp := []
theorem fun72 : Fun Try.prog 72 12 ac72 ro72 := ⟨Try.f72, _, Try.func72, by kernel_rfl, rfl, rfl, by kernel_rfl, by kernel_rfl, by decide⟩

theorem ret_sbb2 {r1 r2 r3 : AOp} {sz off len r : Nat} {rows : Ab.Rows} {v2 v3 : AV} {s : St} {e : EX} (he : e = .n ∨ e = .r) (p2 : v2.plain = true) (p3 : v3.plain = true) (g1 : retV s r1 = some (.sl r sz off len)) (g2 : retV s r2 = some v2) (g3 : retV s r3 = some v3) (h1 : hg s.h r = some rows) :
    Ret [r1, r2, r3] [r] (.tup [.sl 0 sz off len, v2, v3]) [rows] e s := by
  have q : ∀ v : AV, v.plain = true → rn (πof [r]) v = v ∧ v.ltr 1 = true := by intro v hv; cases v <;> first | exact ⟨rfl, rfl⟩ | simp [AV.plain] at hv
  refine ret_gen he (retVs_3 g1 g2 g3) ?_ (by simp [notOne]) ?_ rfl (by simp) (fun i rows' h => ?_)
  · simp only [retL, rnL, rn, (q _ p2).1, (q _ p3).1]; rfl
  · simp only [List.length_cons, List.length_nil, AV.ltr, ltrL, (q _ p2).2, (q _ p3).2, Bool.and_self]; rfl
  · cases i with
    | zero => simp at h; subst h; exact h1
    | succ i => simp at h
/-- The best one with the number of its memory, its weight, how many have been kept. -/
abbrev SL := Option (List Int × Nat) × Int × Nat
def stL (s : SL) (ys : List Int) (w : Int) : SL := if w > s.2.1 then (some (ys, s.2.2), w, s.2.2 + 1) else s
noncomputable def ldS (r : Rc) (xs : List Dn) (n : Nat) : SL := fd (fun m => Fs stL (wtI r xs) (yrs xs m)) n (none, 0, 0)
def bst (s : SL) : List Int := match s.1 with
  | none => []
  | some x => x.1
structure okL (n : Nat) (s : SL) : Prop where
  nn : 0 ≤ s.2.1
  no : s.1 = none → s.2.1 = 0
  ye : ∀ ys j, s.1 = some (ys, j) → ys.length = n ∧ j < s.2.2
theorem stL_ok {n : Nat} {s : SL} {ys : List Int} {w : Int} (h : okL n s) (hy : ys.length = n) (hw : 0 < w) : okL n (stL s ys w) := by
  unfold stL
  split
  · have h0 := h.nn
    exact ⟨(by simp only; omega), (fun e => by cases e), (fun ys' j e => by cases e; exact ⟨hy, Nat.lt_succ_self _⟩)⟩
  · exact h
theorem ldS_ok (r : Rc) (xs : List Dn) : ∀ n, okL xs.length (ldS r xs n)
  | 0 => ⟨Int.le_refl _, fun _ => rfl, fun ys j e => by cases e⟩
  | n + 1 => by
    have ih := ldS_ok r xs n
    show okL xs.length (Fs stL (wtI r xs) (yrs xs n) (ldS r xs n))
    unfold Fs
    split
    · rename_i hw
      exact stL_ok ih (yrs_len xs n) hw
    · exact ih
theorem ldS_up (r : Rc) (xs : List Dn) (n : Nat) : ldS r xs (n + 1) = stL (ldS r xs n) (yrs xs n) (wtI r xs (yrs xs n)) := by
  have ih := ldS_ok r xs n
  show Fs stL (wtI r xs) (yrs xs n) (ldS r xs n) = _
  unfold Fs stL
  by_cases e : wtI r xs (yrs xs n) > 0
  · rw [if_pos e]
  · rw [if_neg e, if_neg (by have := ih.nn; omega)]
theorem bst_len {n : Nat} {s : SL} (h : okL n s) : (bst s).length ≤ n := by
  obtain ⟨o, w, k⟩ := s
  cases o with
  | none => exact Nat.zero_le _
  | some x =>
    obtain ⟨ys, j⟩ := x
    exact Nat.le_of_eq (h.ye ys j rfl).1
def ldV (vs : List Int) (z : Int) : AV := .tup [.sl 0 1 0 vs.length, .int .i64 z, .bool (decide (z > 0))]
theorem con33_yes (a b c : Bool) (r : Rc) (xs : List Dn) (h1 : r.cs.length ≤ 1048576) (h2 : r.xs.length ≤ 1048576) (h3 : xs.length ≤ 1048576) (hL : LenN xs 1048576) (hG : GoodN r xs) : Con Try.prog 33 true [.agg (dtR a b c r xs)] (ldV (bst (ldS r xs (cp xs xs.length))) (ldS r xs (cp xs xs.length)).2.1) [(bst (ldS r xs (cp xs xs.length))).map iRow] := by
  classical
  refine con_of_wp mixed fun33 (by simp) [1] (plain_map iRow_plain _) ?_
  unfold ac33 ro33
  simp only [zipT]
  have c1 := con47 a b c r xs h1 h2 h3 hL
  rw [decide_eq_true hG] at c1
  have c2 := con67 a b c r xs hG
  have hcp := cp_b hG
  repeat (first | refine wG_call c1 rfl rfl ?_ | (first
    | refine wC_a rfl ?_
    | refine q_s rfl ?_
    | refine q_b rfl ?_
    | refine wG_nil ?_
    | refine wG_g rfl ?_
    | refine wG_pure (o_len_vwm rfl) ?_
    | refine wG_pure (o_not_d rfl) ?_
    | refine wG_p rfl (by first | exact rfl | omega) ?_
    | refine wG_pure (o_str2 rfl rfl rfl) ?_
    | refine wG_pure (e_istr rfl rfl (by omega)) ?_
    | refine wG_pure (e_istr0 rfl rfl (by omega)) ?_
    | refine wG_pure (o_not rfl) ?_
    | refine wG_pure (e_ia_vw0 rfl rfl (by omega) rfl) ?_
    | refine wG_pure (e_ia_vwp rfl rfl (by omega) rfl) ?_
    | refine wG_pure (e_ia_vwm rfl rfl (by omega) (by omega) rfl) ?_
    | refine wG_pure (e_ia_vwi rfl rfl (by omega) rfl) ?_
    | refine wG_pure (e_ia_vwn rfl rfl (by omega) (by omega) rfl) ?_
    | refine wG_n rfl rfl ?_
    | refine wG_u rfl rfl ?_
    | refine wG_new (o_mks rfl rfl (by omega) (by decide)) ?_))
  refine wC_loopR Nat (fun n => ⟨[(1, .pt 0 0 0), (5, .sl 1 1 0 (bst (ldS r xs n)).length), (6, .int .i64 (ldS r xs n).2.1), (7, .int .i64 (n : Int))], [(1, some ((bst (ldS r xs n)).map iRow)), (0, some [dtR a b c r xs])], 2⟩) (fun n => n ≤ cp xs xs.length) (fun n => cp xs xs.length - n) 0 (Nat.zero_le _) ⟨[0, 1], ?_⟩ ?_
  · exact ⟨⟨⟨rfl, rfl⟩, ⟨rfl, rfl⟩, ⟨rfl, rfl⟩, ⟨rfl, rfl⟩, trivial⟩, ⟨⟨⟨_, rfl, rfl⟩, (by show 1 < 2; decide), ltrI _ _⟩, ⟨⟨_, rfl, rfl⟩, (by show 0 < 2; decide), dtR_ltr1 _⟩, trivial⟩, rfl, by decide⟩
  intro n hn
  repeat (first | refine wG_call c2 rfl rfl ?_ | (first
    | refine wC_a rfl ?_
    | refine q_s rfl ?_
    | refine q_b rfl ?_
    | refine wG_nil ?_
    | refine wG_g rfl ?_
    | refine wG_pure (o_len_vwm rfl) ?_
    | refine wG_pure (o_not_d rfl) ?_
    | refine wG_p rfl (by first | exact rfl | omega) ?_
    | refine wG_pure (o_str2 rfl rfl rfl) ?_
    | refine wG_pure (e_istr rfl rfl (by omega)) ?_
    | refine wG_pure (e_istr0 rfl rfl (by omega)) ?_
    | refine wG_pure (o_not rfl) ?_
    | refine wG_pure (e_ia_vw0 rfl rfl (by omega) rfl) ?_
    | refine wG_pure (e_ia_vwp rfl rfl (by omega) rfl) ?_
    | refine wG_pure (e_ia_vwm rfl rfl (by omega) (by omega) rfl) ?_
    | refine wG_pure (e_ia_vwi rfl rfl (by omega) rfl) ?_
    | refine wG_pure (e_ia_vwn rfl rfl (by omega) (by omega) rfl) ?_
    | refine wG_n rfl rfl ?_
    | refine wG_u rfl rfl ?_
    | refine wG_new (o_mks rfl rfl (by omega) (by decide)) ?_))
  refine wC_cond_d rfl (fun h5 => ?_) (fun h5 => ?_)
  · have hn2 : n < cp xs xs.length := by omega
    have c3 := con68 a b c r xs hG n (by omega)
    have hyl := yrs_len xs n
    have c4 := con65 a b c true r xs (yrs xs n) hG hyl
    have hup := ldS_up r xs n
    repeat (first | refine wG_call1 c3 rfl rfl ?_ | refine wG_call c4 (ag_any rfl (ag_sl rfl rfl hyl.symm iRow_plain ag_nil)) rfl ?_ | (first
    | refine wC_a rfl ?_
    | refine q_s rfl ?_
    | refine q_b rfl ?_
    | refine wG_nil ?_
    | refine wG_g rfl ?_
    | refine wG_pure (o_len_vwm rfl) ?_
    | refine wG_pure (o_not_d rfl) ?_
    | refine wG_p rfl (by first | exact rfl | omega) ?_
    | refine wG_pure (o_str2 rfl rfl rfl) ?_
    | refine wG_pure (e_istr rfl rfl (by omega)) ?_
    | refine wG_pure (e_istr0 rfl rfl (by omega)) ?_
    | refine wG_pure (o_not rfl) ?_
    | refine wG_pure (e_ia_vw0 rfl rfl (by omega) rfl) ?_
    | refine wG_pure (e_ia_vwp rfl rfl (by omega) rfl) ?_
    | refine wG_pure (e_ia_vwm rfl rfl (by omega) (by omega) rfl) ?_
    | refine wG_pure (e_ia_vwi rfl rfl (by omega) rfl) ?_
    | refine wG_pure (e_ia_vwn rfl rfl (by omega) (by omega) rfl) ?_
    | refine wG_n rfl rfl ?_
    | refine wG_u rfl rfl ?_
    | refine wG_new (o_mks rfl rfl (by omega) (by decide)) ?_))
    refine wC_cond_d rfl (fun h6 => ?_) (fun h6 => ?_)
    · rw [stL, if_pos h6] at hup
      have e1 : bst (ldS r xs (n + 1)) = yrs xs n := by rw [hup]; rfl
      have e2 : (ldS r xs (n + 1)).2.1 = wtI r xs (yrs xs n) := by rw [hup]
      repeat (first
    | refine wC_a rfl ?_
    | refine q_s rfl ?_
    | refine q_b rfl ?_
    | refine wG_nil ?_
    | refine wG_g rfl ?_
    | refine wG_pure (o_len_vwm rfl) ?_
    | refine wG_pure (o_not_d rfl) ?_
    | refine wG_p rfl (by first | exact rfl | omega) ?_
    | refine wG_pure (o_str2 rfl rfl rfl) ?_
    | refine wG_pure (e_istr rfl rfl (by omega)) ?_
    | refine wG_pure (e_istr0 rfl rfl (by omega)) ?_
    | refine wG_pure (o_not rfl) ?_
    | refine wG_pure (e_ia_vw0 rfl rfl (by omega) rfl) ?_
    | refine wG_pure (e_ia_vwp rfl rfl (by omega) rfl) ?_
    | refine wG_pure (e_ia_vwm rfl rfl (by omega) (by omega) rfl) ?_
    | refine wG_pure (e_ia_vwi rfl rfl (by omega) rfl) ?_
    | refine wG_pure (e_ia_vwn rfl rfl (by omega) (by omega) rfl) ?_
    | refine wG_n rfl rfl ?_
    | refine wG_u rfl rfl ?_
    | refine wG_new (o_mks rfl rfl (by omega) (by decide)) ?_)
      refine ⟨n + 1, hn2, by omega, [0, 2], ?_⟩
      simp only [e1, e2, hyl]
      exact ⟨⟨⟨rfl, rfl⟩, ⟨rfl, rfl⟩, ⟨rfl, rfl⟩, ⟨rfl, rfl⟩, trivial⟩, ⟨⟨⟨_, rfl, rn_rows (rowsP _)⟩, (by show 1 < 2; decide), ltrI _ _⟩, ⟨⟨_, rfl, rfl⟩, (by show 0 < 2; decide), dtR_ltr1 _⟩, trivial⟩, rfl, by decide⟩
    · rw [stL, if_neg h6] at hup
      repeat (first
    | refine wC_a rfl ?_
    | refine q_s rfl ?_
    | refine q_b rfl ?_
    | refine wG_nil ?_
    | refine wG_g rfl ?_
    | refine wG_pure (o_len_vwm rfl) ?_
    | refine wG_pure (o_not_d rfl) ?_
    | refine wG_p rfl (by first | exact rfl | omega) ?_
    | refine wG_pure (o_str2 rfl rfl rfl) ?_
    | refine wG_pure (e_istr rfl rfl (by omega)) ?_
    | refine wG_pure (e_istr0 rfl rfl (by omega)) ?_
    | refine wG_pure (o_not rfl) ?_
    | refine wG_pure (e_ia_vw0 rfl rfl (by omega) rfl) ?_
    | refine wG_pure (e_ia_vwp rfl rfl (by omega) rfl) ?_
    | refine wG_pure (e_ia_vwm rfl rfl (by omega) (by omega) rfl) ?_
    | refine wG_pure (e_ia_vwi rfl rfl (by omega) rfl) ?_
    | refine wG_pure (e_ia_vwn rfl rfl (by omega) (by omega) rfl) ?_
    | refine wG_n rfl rfl ?_
    | refine wG_u rfl rfl ?_
    | refine wG_new (o_mks rfl rfl (by omega) (by decide)) ?_)
      refine ⟨n + 1, hn2, by omega, [0, 1], ?_⟩
      simp only [hup]
      exact ⟨⟨⟨rfl, rfl⟩, ⟨rfl, rfl⟩, ⟨rfl, rfl⟩, ⟨rfl, rfl⟩, trivial⟩, ⟨⟨⟨_, rfl, rn_rows (rowsP _)⟩, (by show 1 < 2; decide), ltrI _ _⟩, ⟨⟨_, rfl, rfl⟩, (by show 0 < 2; decide), dtR_ltr1 _⟩, trivial⟩, rfl, by decide⟩
  · have hn3 : n = cp xs xs.length := by omega
    subst hn3
    repeat (first
    | refine wC_a rfl ?_
    | refine q_s rfl ?_
    | refine q_b rfl ?_
    | refine wG_nil ?_
    | refine wG_g rfl ?_
    | refine wG_pure (o_len_vwm rfl) ?_
    | refine wG_pure (o_not_d rfl) ?_
    | refine wG_p rfl (by first | exact rfl | omega) ?_
    | refine wG_pure (o_str2 rfl rfl rfl) ?_
    | refine wG_pure (e_istr rfl rfl (by omega)) ?_
    | refine wG_pure (e_istr0 rfl rfl (by omega)) ?_
    | refine wG_pure (o_not rfl) ?_
    | refine wG_pure (e_ia_vw0 rfl rfl (by omega) rfl) ?_
    | refine wG_pure (e_ia_vwp rfl rfl (by omega) rfl) ?_
    | refine wG_pure (e_ia_vwm rfl rfl (by omega) (by omega) rfl) ?_
    | refine wG_pure (e_ia_vwi rfl rfl (by omega) rfl) ?_
    | refine wG_pure (e_ia_vwn rfl rfl (by omega) (by omega) rfl) ?_
    | refine wG_n rfl rfl ?_
    | refine wG_u rfl rfl ?_
    | refine wG_new (o_mks rfl rfl (by omega) (by decide)) ?_)
    exact ret_sbb2 (.inr rfl) rfl rfl (retV_mv rfl) (retV_mv rfl) (retV_mv rfl) rfl
theorem con33_no (a b c : Bool) (r : Rc) (xs : List Dn) (h1 : r.cs.length ≤ 1048576) (h2 : r.xs.length ≤ 1048576) (h3 : xs.length ≤ 1048576) (hL : LenN xs 1048576) (hG : ¬ GoodN r xs) : Con Try.prog 33 true [.agg (dtR a b c r xs)] (.tup [.sl 0 1 0 0, .int .i64 0, .bool false]) [([] : List Int).map iRow] := by
  classical
  refine con_of_wp mixed fun33 (by simp) [1] (plain_map iRow_plain _) ?_
  unfold ac33 ro33
  simp only [zipT]
  have c1 := con47 a b c r xs h1 h2 h3 hL
  rw [decide_eq_false hG] at c1
  repeat (first | refine wG_call c1 rfl rfl ?_ | (first
    | refine wC_a rfl ?_
    | refine q_s rfl ?_
    | refine q_b rfl ?_
    | refine wG_nil ?_
    | refine wG_g rfl ?_
    | refine wG_pure (o_len_vwm rfl) ?_
    | refine wG_pure (o_not_d rfl) ?_
    | refine wG_p rfl (by first | exact rfl | omega) ?_
    | refine wG_pure (o_str2 rfl rfl rfl) ?_
    | refine wG_pure (e_istr rfl rfl (by omega)) ?_
    | refine wG_pure (e_istr0 rfl rfl (by omega)) ?_
    | refine wG_pure (o_not rfl) ?_
    | refine wG_pure (e_ia_vw0 rfl rfl (by omega) rfl) ?_
    | refine wG_pure (e_ia_vwp rfl rfl (by omega) rfl) ?_
    | refine wG_pure (e_ia_vwm rfl rfl (by omega) (by omega) rfl) ?_
    | refine wG_pure (e_ia_vwi rfl rfl (by omega) rfl) ?_
    | refine wG_pure (e_ia_vwn rfl rfl (by omega) (by omega) rfl) ?_
    | refine wG_n rfl rfl ?_
    | refine wG_u rfl rfl ?_
    | refine wG_new (o_mks rfl rfl (by omega) (by decide)) ?_))
  exact ret_sbb2 (.inr rfl) rfl rfl (retV_mv rfl) (retV_mv rfl) (retV_mv rfl) rfl
def hsL (D : List AV) (s : SL) : List (Nat × Option Ab.Rows) := match s.1 with
  | none => [(2, some [[.int .i64 s.2.1]]), (1, some [[.nilS]]), (0, some [D])]
  | some x => [(x.2 + 8, some (x.1.map iRow)), (2, some [[.int .i64 s.2.1]]), (1, some [[.sl (x.2 + 8) 1 0 x.1.length]]), (0, some [D])]
theorem hsL_wf {a b c : Bool} {r : Rc} {xs : List Dn} {n : Nat} {s : SL} (h : okL n s) : wfH (hsL (dtR a b c r xs) s) (s.2.2 + 8) := by
  obtain ⟨o, w, k⟩ := s
  cases o with
  | none => exact wfH_cons (by simp only; omega) (by simp [AV.ltr]) (wfH_cons (by simp only; omega) (by simp [AV.ltr]) (wfH_cons (by simp only; omega) (dtR_ltr1 _) wfH_nil))
  | some x =>
    obtain ⟨ys, j⟩ := x
    have hj := (h.ye ys j rfl).2
    simp only at hj
    exact wfH_cons (by simp only; omega) (ltrI _ _) (wfH_cons (by simp only; omega) (by simp [AV.ltr]) (wfH_cons (by simp only; omega) (by simp [AV.ltr]; exact hj) (wfH_cons (by simp only; omega) (dtR_ltr1 _) wfH_nil)))
theorem hsL_key {D : List AV} {s : SL} {q : Nat} {rows : Ab.Rows} (h : hg (hsL D s) q = some rows) : q < 3 ∨ 8 ≤ q := by
  obtain ⟨o, w, k⟩ := s
  cases o with
  | none =>
    by_cases e : q < 3
    · exact .inl e
    · simp [hsL, Ab.hg, upd, show q ≠ 2 by omega, show q ≠ 1 by omega, show q ≠ 0 by omega] at h
  | some x =>
    by_cases e : q < 3 ∨ 8 ≤ q
    · exact e
    · simp [hsL, Ab.hg, upd, show q ≠ x.2 + 8 by omega, show q ≠ 2 by omega, show q ≠ 1 by omega, show q ≠ 0 by omega] at h
theorem vis_L {a b c : Bool} {r : Rc} {xs : List Dn} (s : SL) (hs : okL xs.length s) (ys : List Int) (hy : ys.length = xs.length) (hn : xs.length ≤ 1048576) (w : Int) (hw : 0 < w) : Sh Try.prog 72 ([.sl (3 + 2) 1 0 xs.length, .int .i64 w] ++ [.pt 2 0 0, .pt 1 0 0]) (eF (dtR a b c r xs) 3 72 [.pt 2 0 0, .pt 1 0 0] xs.length ys (hsL (dtR a b c r xs) s)) (s.2.2 + 8) (.tup []) (eF (dtR a b c r xs) 3 72 [.pt 2 0 0, .pt 1 0 0] xs.length ys (hsL (dtR a b c r xs) (stL s ys w))) ((stL s ys w).2.2 + 8) := by
  have hok := stL_ok hs hy hw
  refine sh_of_wp mixed fun72 (by simp) ?_
  unfold ac72 ro72
  simp only [zipT, List.cons_append, List.nil_append]
  have hE := eF_wf (N := 3) (fv := 72) (n := xs.length) (ys := ys) (caps := [.pt 2 0 0, .pt 1 0 0]) (nr := (stL s ys w).2.2 + 8) (by omega) (dtR_ltr (a := a) (b := b) (c := c) (r := r) (xs := xs) _) (by simp [AV.ltr, ltrL]) (hsL_wf (a := a) (b := b) (c := c) (r := r) (xs := xs) hok)
  have g2 : hg (eF (dtR a b c r xs) 3 72 [.pt 2 0 0, .pt 1 0 0] xs.length ys (hsL (dtR a b c r xs) s)) 2 = some [[.int .i64 s.2.1]] := by
    obtain ⟨o, z, k⟩ := s
    cases o <;> rfl
  repeat (first | refine wG_pure (o_ldf_pt rfl g2 rfl rfl) ?_ | (first
    | refine wC_a rfl ?_
    | refine q_s rfl ?_
    | refine q_b rfl ?_
    | refine wG_nil ?_
    | refine wG_g rfl ?_
    | refine wG_pure (o_len_vwm rfl) ?_
    | refine wG_pure (o_not_d rfl) ?_
    | refine wG_p rfl (by first | exact rfl | omega) ?_
    | refine wG_pure (o_str2 rfl rfl rfl) ?_
    | refine wG_pure (e_istr rfl rfl (by omega)) ?_
    | refine wG_pure (e_istr0 rfl rfl (by omega)) ?_
    | refine wG_pure (o_not rfl) ?_
    | refine wG_pure (e_ia_vw0 rfl rfl (by omega) rfl) ?_
    | refine wG_pure (e_ia_vwp rfl rfl (by omega) rfl) ?_
    | refine wG_pure (e_ia_vwm rfl rfl (by omega) (by omega) rfl) ?_
    | refine wG_pure (e_ia_vwi rfl rfl (by omega) rfl) ?_
    | refine wG_pure (e_ia_vwn rfl rfl (by omega) (by omega) rfl) ?_
    | refine wG_n rfl rfl ?_
    | refine wG_u rfl rfl ?_
    | refine wG_new (o_mks rfl rfl (by omega) (by decide)) ?_))
  refine wC_cond_d rfl (fun h6 => ?_) (fun h6 => ?_)
  · have g1 : ∃ v, hg (eF (dtR a b c r xs) 3 72 [.pt 2 0 0, .pt 1 0 0] xs.length ys (hsL (dtR a b c r xs) s)) 1 = some [[v]] := by
      obtain ⟨o, z, k⟩ := s
      cases o <;> exact ⟨_, rfl⟩
    obtain ⟨v1, g1⟩ := g1
    have cC := con73 ys (by omega)
    have e : stL s ys w = (some (ys, s.2.2), w, s.2.2 + 1) := if_pos h6
    repeat (first | refine wG_call1 cC (ag_sl rfl eF_A hy.symm iRow_plain ag_nil) rfl ?_ | refine wG_upd (o_st1 rfl (hg_skip (by omega) g1) rfl rfl rfl rfl) ?_ | refine wG_upd (o_st1 rfl (hg_skip (by omega) (hg_skip (by omega) g2)) rfl rfl rfl rfl) ?_ | (first
    | refine wC_a rfl ?_
    | refine q_s rfl ?_
    | refine q_b rfl ?_
    | refine wG_nil ?_
    | refine wG_g rfl ?_
    | refine wG_pure (o_len_vwm rfl) ?_
    | refine wG_pure (o_not_d rfl) ?_
    | refine wG_p rfl (by first | exact rfl | omega) ?_
    | refine wG_pure (o_str2 rfl rfl rfl) ?_
    | refine wG_pure (e_istr rfl rfl (by omega)) ?_
    | refine wG_pure (e_istr0 rfl rfl (by omega)) ?_
    | refine wG_pure (o_not rfl) ?_
    | refine wG_pure (e_ia_vw0 rfl rfl (by omega) rfl) ?_
    | refine wG_pure (e_ia_vwp rfl rfl (by omega) rfl) ?_
    | refine wG_pure (e_ia_vwm rfl rfl (by omega) (by omega) rfl) ?_
    | refine wG_pure (e_ia_vwi rfl rfl (by omega) rfl) ?_
    | refine wG_pure (e_ia_vwn rfl rfl (by omega) (by omega) rfl) ?_
    | refine wG_n rfl rfl ?_
    | refine wG_u rfl rfl ?_
    | refine wG_new (o_mks rfl rfl (by omega) (by decide)) ?_))
    rw [e] at hE ⊢
    refine ⟨trivial, [], rfl, Le_of ⟨⟨rfl, rfl⟩, trivial⟩ (fun q rows hq => ?_) hE, by simp only; omega⟩
    by_cases e2 : q = 2
    · subst e2
      exact hg_here.trans hq
    by_cases e1 : q = 1
    · subst e1
      exact (hg_skip (by omega) hg_here).trans hq
    by_cases e8 : q = s.2.2 + 8
    · subst e8
      refine (hg_skip (by omega) (hg_skip (by omega) hg_here)).trans (Eq.trans ?_ hq)
      simp [eF, hsL, Ab.hg, upd]
    · refine hg_skip e2 (hg_skip e1 (hg_skip e8 ?_))
      by_cases e0 : q = 0
      · subst e0
        have : rows = [dtR a b c r xs] := by
          have h0 : hg (eF (dtR a b c r xs) 3 72 [.pt 2 0 0, .pt 1 0 0] xs.length ys (hsL (dtR a b c r xs) (some (ys, s.2.2), w, s.2.2 + 1))) 0 = some [dtR a b c r xs] := by simp [eF, hsL, Ab.hg, upd]
          exact Option.some.inj (hq.symm.trans h0)
        rw [this]
        obtain ⟨o, z, k⟩ := s
        cases o <;> simp [eF, hsL, Ab.hg, upd]
      · have hq2 := hq
        simp only [eF, hsL, Ab.hg, upd, if_neg e8, if_neg e2, if_neg e1, if_neg e0] at hq2
        simp only [eF, Ab.hg, upd]
        by_cases k1 : q = 3 + 2
        · rw [if_pos k1] at hq2 ⊢; exact hq2
        by_cases k2 : q = 3 + 4
        · rw [if_neg k1, if_pos k2] at hq2 ⊢; exact hq2
        by_cases k3 : q = 3 + 3
        · rw [if_neg k1, if_neg k2, if_pos k3] at hq2 ⊢; exact hq2
        by_cases k4 : q = 3 + 1
        · rw [if_neg k1, if_neg k2, if_neg k3, if_pos k4] at hq2 ⊢; exact hq2
        by_cases k5 : q = 3
        · rw [if_neg k1, if_neg k2, if_neg k3, if_neg k4, if_pos k5] at hq2 ⊢; exact hq2
        rw [if_neg k1, if_neg k2, if_neg k3, if_neg k4, if_neg k5] at hq2
        cases hq2
  · have e : stL s ys w = s := if_neg h6
    rw [e] at hE ⊢
    repeat (first
    | refine wC_a rfl ?_
    | refine q_s rfl ?_
    | refine q_b rfl ?_
    | refine wG_nil ?_
    | refine wG_g rfl ?_
    | refine wG_pure (o_len_vwm rfl) ?_
    | refine wG_pure (o_not_d rfl) ?_
    | refine wG_p rfl (by first | exact rfl | omega) ?_
    | refine wG_pure (o_str2 rfl rfl rfl) ?_
    | refine wG_pure (e_istr rfl rfl (by omega)) ?_
    | refine wG_pure (e_istr0 rfl rfl (by omega)) ?_
    | refine wG_pure (o_not rfl) ?_
    | refine wG_pure (e_ia_vw0 rfl rfl (by omega) rfl) ?_
    | refine wG_pure (e_ia_vwp rfl rfl (by omega) rfl) ?_
    | refine wG_pure (e_ia_vwm rfl rfl (by omega) (by omega) rfl) ?_
    | refine wG_pure (e_ia_vwi rfl rfl (by omega) rfl) ?_
    | refine wG_pure (e_ia_vwn rfl rfl (by omega) (by omega) rfl) ?_
    | refine wG_n rfl rfl ?_
    | refine wG_u rfl rfl ?_
    | refine wG_new (o_mks rfl rfl (by omega) (by decide)) ?_)
    exact ⟨trivial, [], rfl, Le_of ⟨⟨rfl, rfl⟩, trivial⟩ (fun q rows hq => hq) hE, Nat.le_refl _⟩
theorem con34_all (a b c : Bool) (r : Rc) (xs : List Dn) (h1 : r.cs.length ≤ 1048576) (h2 : r.xs.length ≤ 1048576) (h3 : xs.length ≤ 1048576) (hL : LenN xs 1048576) (hG : GoodN r xs) : ((ldS r xs (cp xs xs.length)).1 = none → Con Try.prog 34 true [.agg (dtR a b c r xs)] (.tup [.nilS, .int .i64 0, .bool false]) []) ∧ ((ldS r xs (cp xs xs.length)).1 ≠ none → Con Try.prog 34 true [.agg (dtR a b c r xs)] (ldV (bst (ldS r xs (cp xs xs.length))) (ldS r xs (cp xs xs.length)).2.1) [(bst (ldS r xs (cp xs xs.length))).map iRow]) := by
  classical
  have c1 := con24 a b c r xs h1 h2 h3 hL
  rw [decide_eq_true hG] at c1
  have hE := (each_sh (σ := SL) (step := stL) (J := okL xs.length) (hs := hsL (dtR a b c r xs)) (nrS := fun s => s.2.2 + 8) (a := a) (b := b) (c := c) (r := r) (xs := xs) (N := 3) (fv := 72) (caps := [.pt 2 0 0, .pt 1 0 0]) hG (fun s => by omega) (fun s hs => hsL_wf hs) rfl (fun s ys w => by unfold stL; split <;> simp) (fun s ys w hs hy hw _ => ⟨vis_L s hs ys hy h3 w hw, stL_ok hs hy hw⟩) (fun s q rows _ hq => hsL_key hq) (none, 0, 0) ⟨Int.le_refl _, fun _ => rfl, fun ys j e => by cases e⟩ rfl h3).1
  rw [each_fd hG] at hE
  change Sh _ _ _ _ _ _ (hsL (dtR a b c r xs) (ldS r xs (cp xs xs.length))) ((ldS r xs (cp xs xs.length)).2.2 + 8) at hE
  have hok := ldS_ok r xs (cp xs xs.length)
  generalize ldS r xs (cp xs xs.length) = z at *
  have hE2 : Sh Try.prog 69 [.agg (dtR a b c r xs), .fn 72 [.pt 2 0 0, .pt 1 0 0]] [(2, some [[.int .i64 0]]), (2, some [[.int .i64 0]]), (1, some [[.nilS]]), (0, some [dtR a b c r xs])] 3 (.tup []) (hsL (dtR a b c r xs) z) (z.2.2 + 8) := by
    refine Sh_hg ?_ hE
    exact (hg_two (r := 2) (x := some [[.int .i64 0]]) (y := some [[.int .i64 0]])).symm
  obtain ⟨o, w, k⟩ := z
  constructor
  · intro hz
    simp only at hz
    subst hz
    have hw0 := hok.no rfl
    simp only at hw0
    subst hw0
    refine con_of_wp mixed fun34 (by simp) [] plain_nil ?_
    unfold ac34 ro34
    simp only [zipT]
    repeat (first | refine wG_call c1 rfl rfl ?_ | refine wG_pure (o_mkf rfl) ?_ | refine wG_callS hE2 rfl ?_ | (first
    | refine wC_a rfl ?_
    | refine q_s rfl ?_
    | refine q_b rfl ?_
    | refine wG_nil ?_
    | refine wG_g rfl ?_
    | refine wG_pure (o_len_vwm rfl) ?_
    | refine wG_pure (o_not_d rfl) ?_
    | refine wG_p rfl (by first | exact rfl | omega) ?_
    | refine wG_pure (o_str2 rfl rfl rfl) ?_
    | refine wG_pure (e_istr rfl rfl (by omega)) ?_
    | refine wG_pure (e_istr0 rfl rfl (by omega)) ?_
    | refine wG_pure (o_not rfl) ?_
    | refine wG_pure (e_ia_vw0 rfl rfl (by omega) rfl) ?_
    | refine wG_pure (e_ia_vwp rfl rfl (by omega) rfl) ?_
    | refine wG_pure (e_ia_vwm rfl rfl (by omega) (by omega) rfl) ?_
    | refine wG_pure (e_ia_vwi rfl rfl (by omega) rfl) ?_
    | refine wG_pure (e_ia_vwn rfl rfl (by omega) (by omega) rfl) ?_
    | refine wG_n rfl rfl ?_
    | refine wG_u rfl rfl ?_
    | refine wG_new (o_mks rfl rfl (by omega) (by decide)) ?_))
    exact ret_pl (.inr rfl) (retVs_3 (retV_mv rfl) (retV_mv rfl) (retV_mv rfl)) rfl rfl (by simp)
  · intro hz
    cases o with
    | none => exact absurd rfl hz
    | some x =>
      obtain ⟨ys, j⟩ := x
      refine con_of_wp mixed fun34 (by simp) [j + 8] (plain_map iRow_plain _) ?_
      unfold ac34 ro34
      simp only [zipT]
      repeat (first | refine wG_call c1 rfl rfl ?_ | refine wG_pure (o_mkf rfl) ?_ | refine wG_callS hE2 rfl ?_ | (first
    | refine wC_a rfl ?_
    | refine q_s rfl ?_
    | refine q_b rfl ?_
    | refine wG_nil ?_
    | refine wG_g rfl ?_
    | refine wG_pure (o_len_vwm rfl) ?_
    | refine wG_pure (o_not_d rfl) ?_
    | refine wG_p rfl (by first | exact rfl | omega) ?_
    | refine wG_pure (o_str2 rfl rfl rfl) ?_
    | refine wG_pure (e_istr rfl rfl (by omega)) ?_
    | refine wG_pure (e_istr0 rfl rfl (by omega)) ?_
    | refine wG_pure (o_not rfl) ?_
    | refine wG_pure (e_ia_vw0 rfl rfl (by omega) rfl) ?_
    | refine wG_pure (e_ia_vwp rfl rfl (by omega) rfl) ?_
    | refine wG_pure (e_ia_vwm rfl rfl (by omega) (by omega) rfl) ?_
    | refine wG_pure (e_ia_vwi rfl rfl (by omega) rfl) ?_
    | refine wG_pure (e_ia_vwn rfl rfl (by omega) (by omega) rfl) ?_
    | refine wG_n rfl rfl ?_
    | refine wG_u rfl rfl ?_
    | refine wG_new (o_mks rfl rfl (by omega) (by decide)) ?_))
      exact ret_sbb2 (.inr rfl) rfl rfl (retV_mv rfl) (retV_mv rfl) (retV_mv rfl) hg_here
theorem con34_no (a b c : Bool) (r : Rc) (xs : List Dn) (h1 : r.cs.length ≤ 1048576) (h2 : r.xs.length ≤ 1048576) (h3 : xs.length ≤ 1048576) (hL : LenN xs 1048576) (hG : ¬ GoodN r xs) : Con Try.prog 34 true [.agg (dtR a b c r xs)] (.tup [.nilS, .int .i64 0, .bool false]) [] := by
  classical
  refine con_of_wp mixed fun34 (by simp) [] plain_nil ?_
  unfold ac34 ro34
  simp only [zipT]
  have c1 := con24 a b c r xs h1 h2 h3 hL
  rw [decide_eq_false hG] at c1
  repeat (first | refine wG_call c1 rfl rfl ?_ | (first
    | refine wC_a rfl ?_
    | refine q_s rfl ?_
    | refine q_b rfl ?_
    | refine wG_nil ?_
    | refine wG_g rfl ?_
    | refine wG_pure (o_len_vwm rfl) ?_
    | refine wG_pure (o_not_d rfl) ?_
    | refine wG_p rfl (by first | exact rfl | omega) ?_
    | refine wG_pure (o_str2 rfl rfl rfl) ?_
    | refine wG_pure (e_istr rfl rfl (by omega)) ?_
    | refine wG_pure (e_istr0 rfl rfl (by omega)) ?_
    | refine wG_pure (o_not rfl) ?_
    | refine wG_pure (e_ia_vw0 rfl rfl (by omega) rfl) ?_
    | refine wG_pure (e_ia_vwp rfl rfl (by omega) rfl) ?_
    | refine wG_pure (e_ia_vwm rfl rfl (by omega) (by omega) rfl) ?_
    | refine wG_pure (e_ia_vwi rfl rfl (by omega) rfl) ?_
    | refine wG_pure (e_ia_vwn rfl rfl (by omega) (by omega) rfl) ?_
    | refine wG_n rfl rfl ?_
    | refine wG_u rfl rfl ?_
    | refine wG_new (o_mks rfl rfl (by omega) (by decide)) ?_))
  exact ret_pl (.inr rfl) (retVs_3 (retV_mv rfl) (retV_mv rfl) (retV_mv rfl)) rfl rfl (by simp)
end Go.Proofs.Ytkeobnaehgcloaa.Dst
