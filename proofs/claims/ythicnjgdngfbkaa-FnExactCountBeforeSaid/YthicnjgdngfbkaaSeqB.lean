/- What may follow a set of contexts: both sides; the table of the ways to go on. -/
import Derived.Test.YthicnjgdngfbkaaSeqD
import Derived.Test.YthicnjgdngfbkaaOrdT
namespace Go.Proofs.Ythicnjgdngfbkaa.Rec
open Go Go.Proofs.Ythicnjgdngfbkaa.Ab Go.Proofs.Ythicnjgdngfbkaa.Il
attribute [local irreducible] wpO wpC wpDr wpQ wpG wpE stepA seqQ blkQ Ret RetG ev
set_option maxRecDepth 10000
set_option maxHeartbeats 8000000
set_option linter.unusedSimpArgs false
set_option linter.unusedVariables false

def ac41 : AC := (.seq (.reg [⟨(some 2), none, (.mv (.c .nilS))⟩]) (.seq (.reg [⟨(some 8), none, (.mv (.t 0))⟩, ⟨(some 9), none, (.len (.t 8))⟩, ⟨(some 3), none, (.mv (.t 9))⟩]) (.seq (.reg [⟨(some 10), none, (.mv (.t 3))⟩, ⟨(some 11), none, (.cv .u64 (.t 10))⟩, ⟨(some 12), none, (.bin .shl (.c (.int .i64 1)) (.t 11))⟩, ⟨(some 13), none, (.bin .sub (.t 12) (.c (.int .i64 1)))⟩, ⟨(some 4), none, (.mv (.t 13))⟩]) (.seq (.reg [⟨(some 14), none, (.mv (.t 4))⟩, ⟨(some 15), none, (.bin .add (.t 14) (.c (.int .i64 1)))⟩, ⟨(some 16), none, (.mks 1 8 [(.int .i64 0)] (.t 15) (.t 15))⟩, ⟨(some 5), none, (.mv (.t 16))⟩]) (.seq (.reg [⟨(some 17), none, (.mv (.t 5))⟩, ⟨(some 18), none, (.mv (.t 4))⟩, ⟨(some 19), none, (.ia 1 (.t 17) (.t 18))⟩, ⟨none, none, (.st 1 (.t 19) (.c (.int .i64 1)))⟩]) (.seq (.seq (.reg [⟨(some 20), none, (.mv (.t 4))⟩, ⟨(some 21), none, (.bin .sub (.t 20) (.c (.int .i64 1)))⟩, ⟨(some 6), none, (.mv (.t 21))⟩]) (.blk 0 (.loop (.seq (.seq (.reg [⟨(some 22), none, (.mv (.t 6))⟩, ⟨(some 23), none, (.bin .geq (.t 22) (.c (.int .i64 0)))⟩]) (.cond (.t 23) .skip (.exit 0))) (.seq (.blk 1 (.seq (.reg [⟨(some 7), none, (.mv (.c (.int .i64 0)))⟩]) (.blk 2 (.loop (.seq (.seq (.reg [⟨(some 26), none, (.mv (.t 7))⟩, ⟨(some 27), none, (.mv (.t 3))⟩, ⟨(some 28), none, (.bin .lss (.t 26) (.t 27))⟩]) (.cond (.t 28) .skip (.exit 2))) (.seq (.blk 3 (.seq (.reg [⟨(some 31), none, (.mv (.t 0))⟩, ⟨(some 32), none, (.mv (.t 6))⟩, ⟨(some 33), none, (.mv (.t 7))⟩, ⟨(some 34), none, (.call 56 [(.t 31), (.t 32), (.t 33)])⟩]) (.cond (.t 34) (.dreg [⟨(some 35), none, (.mv (.t 5))⟩, ⟨(some 36), none, (.mv (.t 6))⟩, ⟨(some 37), none, (.mv (.t 5))⟩, ⟨(some 38), none, (.mv (.t 6))⟩, ⟨(some 39), none, (.ia 1 (.t 37) (.t 38))⟩, ⟨(some 40), none, (.ld false 1 (.t 39))⟩, ⟨(some 41), none, (.mv (.t 5))⟩, ⟨(some 42), none, (.mv (.t 6))⟩, ⟨(some 43), none, (.mv (.t 7))⟩, ⟨(some 44), none, (.cv .u64 (.t 43))⟩, ⟨(some 45), none, (.bin .shl (.c (.int .i64 1)) (.t 44))⟩, ⟨(some 46), none, (.bin .or (.t 42) (.t 45))⟩, ⟨(some 47), none, (.ia 1 (.t 41) (.t 46))⟩, ⟨(some 48), none, (.ld false 1 (.t 47))⟩, ⟨(some 49), none, (.bin .add (.t 40) (.t 48))⟩, ⟨(some 50), none, (.ia 1 (.t 35) (.t 36))⟩, ⟨none, none, (.st 1 (.t 50) (.t 49))⟩] [[], [], [], [], [2, 3], [2, 3, 4], [], [], [], [8], [8, 9], [7, 8, 9, 10], [6, 7, 8, 9, 10, 11], [6, 7, 8, 9, 10, 11, 12], [2, 3, 4, 5, 6, 7, 8, 9, 10, 11, 12, 13], [0, 1, 2, 3, 4, 5, 6, 7, 8, 9, 10, 11, 12, 13, 14], [0, 1, 2, 3, 4, 5, 6, 7, 8, 9, 10, 11, 12, 13, 14, 15]]) .skip))) (.reg [⟨(some 29), none, (.mv (.t 7))⟩, ⟨(some 30), none, (.bin .add (.t 29) (.c (.int .i64 1)))⟩, ⟨(some 7), none, (.mv (.t 30))⟩]))))))) (.reg [⟨(some 24), none, (.mv (.t 6))⟩, ⟨(some 25), none, (.bin .sub (.t 24) (.c (.int .i64 1)))⟩, ⟨(some 6), none, (.mv (.t 25))⟩])))))) (.seq (.reg [⟨(some 51), none, (.mv (.t 5))⟩, ⟨(some 2), none, (.mv (.t 51))⟩]) .ret)))))))
def ro41 : List AOp := [(.mv (.t 2))]
theorem fun41 : Fun Try.prog 41 52 ac41 ro41 := ⟨Try.f41, _, Try.func41, by kernel_rfl, rfl, rfl, by kernel_rfl, by kernel_rfl, by decide⟩
def ac51 : AC := (.seq (.reg [⟨(some 6), none, (.mv (.c (.bool false)))⟩]) (.seq (.reg [⟨(some 7), none, (.mv (.t 1))⟩, ⟨(some 8), none, (.mv (.t 2))⟩, ⟨(some 9), none, (.bin .shr (.t 7) (.t 8))⟩, ⟨(some 10), none, (.bin .and (.t 9) (.c (.int .i64 1)))⟩, ⟨(some 11), none, (.bin .eql (.t 10) (.c (.int .i64 0)))⟩, ⟨(some 12), none, (.mv (.t 11))⟩, ⟨(some 13), (some (12, true)), (.mv (.t 0))⟩, ⟨(some 14), (some (12, true)), (.mv (.t 2))⟩, ⟨(some 15), (some (12, true)), (.call 73 [(.t 13), (.t 14)])⟩, ⟨(some 16), (some (12, true)), (.mv (.t 1))⟩, ⟨(some 17), (some (12, true)), (.bin .andNot (.t 15) (.t 16))⟩, ⟨(some 18), (some (12, true)), (.bin .eql (.t 17) (.c (.int .i64 0)))⟩, ⟨(some 19), none, (.pick (.t 12) (.t 18) (.c (.bool false)))⟩, ⟨(some 6), none, (.mv (.t 19))⟩]) .ret))
def ro51 : List AOp := [(.mv (.t 6))]
theorem fun51 : Fun Try.prog 51 20 ac51 ro51 := ⟨Try.f51, _, Try.func51, by kernel_rfl, rfl, rfl, by kernel_rfl, by kernel_rfl, by decide⟩
def ac56 : AC := (.seq (.reg [⟨(some 6), none, (.mv (.c (.bool false)))⟩]) (.seq (.seq (.reg [⟨(some 8), none, (.mv (.t 1))⟩, ⟨(some 9), none, (.mv (.t 2))⟩, ⟨(some 10), none, (.call 49 [(.t 8), (.t 9)])⟩]) (.cond (.t 10) (.seq (.reg [⟨(some 6), none, (.mv (.c (.bool false)))⟩]) .ret) .skip)) (.seq (.seq (.reg [⟨(some 7), none, (.mv (.c (.int .i64 0)))⟩]) (.blk 0 (.loop (.seq (.seq (.reg [⟨(some 11), none, (.mv (.t 7))⟩, ⟨(some 12), none, (.mv (.t 0))⟩, ⟨(some 13), none, (.len (.t 12))⟩, ⟨(some 14), none, (.bin .lss (.t 11) (.t 13))⟩]) (.cond (.t 14) .skip (.exit 0))) (.seq (.blk 1 (.seq (.reg [⟨(some 17), none, (.mv (.t 0))⟩, ⟨(some 18), none, (.mv (.t 7))⟩, ⟨(some 19), none, (.ia 1 (.t 17) (.t 18))⟩, ⟨(some 20), none, (.ld false 1 (.t 19))⟩, ⟨(some 21), none, (.mv (.t 2))⟩, ⟨(some 22), none, (.call 49 [(.t 20), (.t 21)])⟩, ⟨(some 23), none, (.mv (.t 22))⟩, ⟨(some 24), (some (23, true)), (.mv (.t 1))⟩, ⟨(some 25), (some (23, true)), (.mv (.t 7))⟩, ⟨(some 26), (some (23, true)), (.call 49 [(.t 24), (.t 25)])⟩, ⟨(some 27), (some (23, true)), (.un .not (.t 26))⟩, ⟨(some 28), none, (.pick (.t 23) (.t 27) (.c (.bool false)))⟩]) (.cond (.t 28) (.seq (.reg [⟨(some 6), none, (.mv (.c (.bool false)))⟩]) .ret) .skip))) (.reg [⟨(some 15), none, (.mv (.t 7))⟩, ⟨(some 16), none, (.bin .add (.t 15) (.c (.int .i64 1)))⟩, ⟨(some 7), none, (.mv (.t 16))⟩])))))) (.seq (.reg [⟨(some 6), none, (.mv (.c (.bool true)))⟩]) .ret))))
def ro56 : List AOp := [(.mv (.t 6))]
theorem fun56 : Fun Try.prog 56 29 ac56 ro56 := ⟨Try.f56, _, Try.func56, by kernel_rfl, rfl, rfl, by kernel_rfl, by kernel_rfl, by decide⟩
def ac73 : AC := (.seq (.reg [⟨(some 4), none, (.mv (.c (.int .i64 0)))⟩]) (.seq (.reg [⟨(some 5), none, (.mv (.c (.int .i64 0)))⟩]) (.seq (.seq (.reg [⟨(some 7), none, (.mv (.t 0))⟩, ⟨(some 8), none, (.nck (.t 7))⟩, ⟨(some 9), none, (.fa 0 (.t 8))⟩, ⟨(some 10), none, (.ld false 1 (.t 9))⟩, ⟨(some 11), none, (.len (.t 10))⟩, ⟨(some 12), none, (.mv (.c (.int .i64 0)))⟩]) (.blk 0 (.loop (.seq (.reg [⟨(some 13), none, (.bin .lss (.t 12) (.t 11))⟩]) (.seq (.cond (.t 13) .skip (.exit 0)) (.seq (.blk 1 (.seq (.reg [⟨(some 14), none, (.mv (.t 12))⟩, ⟨(some 6), none, (.mv (.t 14))⟩]) (.seq (.reg [⟨(some 15), none, (.mv (.t 0))⟩, ⟨(some 16), none, (.nck (.t 15))⟩, ⟨(some 17), none, (.fa 2 (.t 16))⟩, ⟨(some 18), none, (.ld false 1 (.t 17))⟩, ⟨(some 19), none, (.mv (.t 6))⟩, ⟨(some 20), none, (.ia 1 (.t 18) (.t 19))⟩, ⟨(some 21), none, (.ld false 1 (.t 20))⟩, ⟨(some 22), none, (.mv (.t 1))⟩, ⟨(some 23), none, (.ia 1 (.t 21) (.t 22))⟩, ⟨(some 24), none, (.ld false 1 (.t 23))⟩]) (.cond (.t 24) (.reg [⟨(some 25), none, (.mv (.t 5))⟩, ⟨(some 26), none, (.mv (.t 6))⟩, ⟨(some 27), none, (.bin .shl (.c (.int .i64 1)) (.t 26))⟩, ⟨(some 28), none, (.bin .or (.t 25) (.t 27))⟩, ⟨(some 5), none, (.mv (.t 28))⟩]) .skip)))) (.reg [⟨(some 29), none, (.bin .add (.t 12) (.c (.int .i64 1)))⟩, ⟨(some 12), none, (.mv (.t 29))⟩]))))))) (.seq (.reg [⟨(some 30), none, (.mv (.t 5))⟩, ⟨(some 4), none, (.mv (.t 30))⟩]) .ret))))
def ro73 : List AOp := [(.mv (.t 4))]
theorem fun73 : Fun Try.prog 73 31 ac73 ro73 := ⟨Try.f73, _, Try.func73, by kernel_rfl, rfl, rfl, by kernel_rfl, by kernel_rfl, by decide⟩

theorem e_row {x i : AX} {n : Nat} {k : IntKind} {sz nr : Nat} {nn : Bool} {es : Ab.Rows} {row : List AV} {T : Nat → AV} {H : Nat → Option Ab.Rows} (h1 : gT T x = .vw nn es) (h2 : gT T i = .int k (n : Int)) (h3 : es[n]? = some row) (h4 : row.length = sz) : Ab.ev (gT T) H nr (.ia sz x i) = some (.vp row, [], 0) := e_ia_vw h1 h2 (by omega) (by simpa using h3) h4
theorem dr_ordH (ns : List Int) (W A : Nat → Nat → Bool) (n b d : Nat) (hns : ns.length = n) {H : Nat → Option Ab.Rows} (hO : ∀ i rows, (ordO (ns.map iRow) W A n)[i]? = some rows → H (b + i) = some (shR b rows)) : dr H (d + 4) (.pt b 0 0) = ordC ns W A n := by
  have h0 : ∀ rows, (ordO (ns.map iRow) W A n)[0]? = some rows → H b = some (shR b rows) := fun rows hr => by have := hO 0 rows hr; rwa [Nat.add_zero] at this
  cases n with
  | zero =>
    have e0 := h0 _ rfl
    have e1 := hO 1 _ (show (ordO (ns.map iRow) W A 0)[1]? = some [] from rfl)
    have e2 := hO 2 _ (show (ordO (ns.map iRow) W A 0)[2]? = some [] from rfl)
    rw [dr_pt3 e0]
    show AV.vp [.nilS, dr _ (d + 3) (.sl (b + 2) 1 0 0), dr _ (d + 3) (.sl (b + 1) 1 0 0)] = _
    rw [dr_outB (W := A) (b := 0) (n := 0) e2 (fun i hi => by omega), dr_outB (W := W) (b := 0) (n := 0) e1 (fun i hi => by omega)]
    rfl
  | succ n =>
    have e0 := h0 _ rfl
    have e1 := hO 1 _ (show (ordO (ns.map iRow) W A (n + 1))[1]? = some _ from rfl)
    have e2 := hO 2 _ (show (ordO (ns.map iRow) W A (n + 1))[2]? = some _ from rfl)
    have e3 := hO 3 _ (show (ordO (ns.map iRow) W A (n + 1))[3]? = some _ from rfl)
    rw [sh_outB] at e1 e2
    rw [shR_plain (rowsP _)] at e3
    rw [dr_pt3 e0]
    show AV.vp [dr _ (d + 1 + 2) (.sl (b + 3) 1 0 (n + 1)), dr _ (d + 3) (.sl (b + 2) 1 0 (n + 1)), dr _ (d + 3) (.sl (b + 1) 1 0 (n + 1))] = _
    rw [dr_outB (W := A) e2 (fun i hi => ?_), dr_outB (W := W) e1 (fun i hi => ?_), dr_rows (m := d + 1) e3 hns.symm iRow_plain]
    · rfl
    · have := hO (i + 4) (boolR (W i) (n + 1)) (by
        show (boolRs W (n + 1) ++ boolRs A (n + 1))[i]? = _
        rw [List.getElem?_append_left (by simp [boolRs_len]; omega), boolRs_get hi])
      rw [shR_plain (boolR_plain _ _)] at this
      rwa [show i + (b + 4) = b + (i + 4) by omega]
    · have := hO (i + (n + 1) + 4) (boolR (A i) (n + 1)) (by
        show (boolRs W (n + 1) ++ boolRs A (n + 1))[i + (n + 1)]? = _
        rw [List.getElem?_append_right (by simp [boolRs_len]), boolRs_len, Nat.add_sub_cancel, boolRs_get hi])
      rw [shR_plain (boolR_plain _ _)] at this
      rwa [show i + (b + (n + 1 + 4)) = b + (i + (n + 1) + 4) by omega]
theorem hlenC {ns : List Int} {n : Nat} (hns : ns.length = n) (T : Nat → AV) (H : Nat → Option Ab.Rows) (nr : Nat) (x : AX) (hx : gT T x = numC ns n) : Ab.ev (gT T) H nr (.len x) = some (.int .i64 (n : Int), [], 0) := by
  cases n with
  | zero => exact o_len_nil hx
  | succ n => rw [← hns]; exact o_len_vwm hx
theorem lt10 {n S : Nat} (hn : n ≤ 10) (h : S < 2 ^ n) : S < 1024 := Nat.lt_of_lt_of_le h (Nat.pow_le_pow_right (by decide) hn)
theorem con56 (nn : Bool) (W : Nat → Nat → Bool) {n S i : Nat} (hn : n ≤ 10) (hS : S < 1024) (hi : i < n) : Con Try.prog 56 true [.vw nn ((maskL W n).map iRow), .int .i64 (S : Int), .int .i64 (i : Int)] (.bool (decide (rdy n W S i))) [] := by
  refine con_of_wp mixed fun56 (by simp) [] plain_nil ?_
  unfold ac56 ro56
  simp only [zipT]
  have hl := maskL_len W n
  have cb := con49 S i hS (by omega)
  by_cases h0 : S.testBit i = true
  · rw [decide_eq_true h0] at cb
    repeat (first | refine wG_call cb rfl rfl ?_ | (first
    | refine wC_a rfl ?_
    | refine q_s rfl ?_
    | refine q_b rfl ?_
    | refine wG_nil ?_
    | refine wG_g rfl ?_
    | refine wG_pure (o_len_vwm rfl) ?_
    | refine wG_pure (o_not_d rfl) ?_
    | refine wG_p rfl (by first | exact rfl | omega) ?_
    | refine wG_pure (o_str2 rfl rfl rfl) ?_
    | refine wG_pure (e_istr rfl rfl (by omega)) ?_
    | refine wG_pure (e_istr0 rfl rfl (by omega)) ?_
    | refine wG_pure (o_not rfl) ?_
    | refine wG_pure (e_ia_vw0 rfl rfl (by omega) rfl) ?_
    | refine wG_pure (e_ia_vwp rfl rfl (by omega) rfl) ?_
    | refine wG_pure (e_ia_vwm rfl rfl (by omega) (by omega) rfl) ?_
    | refine wG_pure (e_ia_vwi rfl rfl (by omega) rfl) ?_
    | refine wG_pure (e_ia_vwn rfl rfl (by omega) (by omega) rfl) ?_
    | refine wG_n rfl rfl ?_
    | refine wG_u rfl rfl ?_
    | refine wG_new (o_mks rfl rfl (by omega) (by decide)) ?_))
    exact ret_boolE (.inr rfl) ⟨_, retV_mv rfl, (decide_eq_false fun h => by rw [h.1] at h0; cases h0).symm⟩
  · rw [decide_eq_false h0] at cb
    repeat (first | refine wG_call cb rfl rfl ?_ | (first
    | refine wC_a rfl ?_
    | refine q_s rfl ?_
    | refine q_b rfl ?_
    | refine wG_nil ?_
    | refine wG_g rfl ?_
    | refine wG_pure (o_len_vwm rfl) ?_
    | refine wG_pure (o_not_d rfl) ?_
    | refine wG_p rfl (by first | exact rfl | omega) ?_
    | refine wG_pure (o_str2 rfl rfl rfl) ?_
    | refine wG_pure (e_istr rfl rfl (by omega)) ?_
    | refine wG_pure (e_istr0 rfl rfl (by omega)) ?_
    | refine wG_pure (o_not rfl) ?_
    | refine wG_pure (e_ia_vw0 rfl rfl (by omega) rfl) ?_
    | refine wG_pure (e_ia_vwp rfl rfl (by omega) rfl) ?_
    | refine wG_pure (e_ia_vwm rfl rfl (by omega) (by omega) rfl) ?_
    | refine wG_pure (e_ia_vwi rfl rfl (by omega) rfl) ?_
    | refine wG_pure (e_ia_vwn rfl rfl (by omega) (by omega) rfl) ?_
    | refine wG_n rfl rfl ?_
    | refine wG_u rfl rfl ?_
    | refine wG_new (o_mks rfl rfl (by omega) (by decide)) ?_))
    refine wC_loop Nat (fun k => ⟨[(0, .vw nn ((maskL W n).map iRow)), (1, .int .i64 (S : Int)), (2, .int .i64 (i : Int)), (7, .int .i64 (k : Int))], [], 0⟩) (fun k => k ≤ n ∧ ∀ j, j < k → W j i = true → S.testBit j = true) (fun k => n - k) 0 ⟨Nat.zero_le _, fun j hj => absurd hj (Nat.not_lt_zero _)⟩ ?_ (fun _ _ => Nat.zero_le _) ?_
    · simp [LeP, leT, leH, lk, AV.ltr, ltrL, Ab.hg, upd, -List.getD_eq_getElem?_getD, -Int.default_eq_zero]
    rintro k ⟨hk, hok⟩
    repeat (first
    | refine wC_a rfl ?_
    | refine q_s rfl ?_
    | refine q_b rfl ?_
    | refine wG_nil ?_
    | refine wG_g rfl ?_
    | refine wG_pure (o_len_vwm rfl) ?_
    | refine wG_pure (o_not_d rfl) ?_
    | refine wG_p rfl (by first | exact rfl | omega) ?_
    | refine wG_pure (o_str2 rfl rfl rfl) ?_
    | refine wG_pure (e_istr rfl rfl (by omega)) ?_
    | refine wG_pure (e_istr0 rfl rfl (by omega)) ?_
    | refine wG_pure (o_not rfl) ?_
    | refine wG_pure (e_ia_vw0 rfl rfl (by omega) rfl) ?_
    | refine wG_pure (e_ia_vwp rfl rfl (by omega) rfl) ?_
    | refine wG_pure (e_ia_vwm rfl rfl (by omega) (by omega) rfl) ?_
    | refine wG_pure (e_ia_vwi rfl rfl (by omega) rfl) ?_
    | refine wG_pure (e_ia_vwn rfl rfl (by omega) (by omega) rfl) ?_
    | refine wG_n rfl rfl ?_
    | refine wG_u rfl rfl ?_
    | refine wG_new (o_mks rfl rfl (by omega) (by decide)) ?_)
    refine wC_cond_d rfl (fun h4 => ?_) (fun h4 => ?_)
    · have hk2 : k < n := by omega
      have hgm := maskL_get (W := W) hk2
      have cw := con49 (mkM (W k) n) i (mk10 _ hn) (by omega)
      have hbit : (mkM (W k) n).testBit i = W k i := by rw [mkM_bit]; simp [hi]
      rw [hbit] at cw
      have cs := con49 S k hS (by omega)
      cases hb : W k i <;> cases hs : S.testBit k
      all_goals (rw [hb] at cw; rw [hs] at cs)
      all_goals (repeat (first | refine wG_pure (e_row rfl rfl hgm rfl) ?_ | refine wG_call cw rfl rfl ?_ | refine wG_call cs rfl rfl ?_ | (first
    | refine wC_a rfl ?_
    | refine q_s rfl ?_
    | refine q_b rfl ?_
    | refine wG_nil ?_
    | refine wG_g rfl ?_
    | refine wG_pure (o_len_vwm rfl) ?_
    | refine wG_pure (o_not_d rfl) ?_
    | refine wG_p rfl (by first | exact rfl | omega) ?_
    | refine wG_pure (o_str2 rfl rfl rfl) ?_
    | refine wG_pure (e_istr rfl rfl (by omega)) ?_
    | refine wG_pure (e_istr0 rfl rfl (by omega)) ?_
    | refine wG_pure (o_not rfl) ?_
    | refine wG_pure (e_ia_vw0 rfl rfl (by omega) rfl) ?_
    | refine wG_pure (e_ia_vwp rfl rfl (by omega) rfl) ?_
    | refine wG_pure (e_ia_vwm rfl rfl (by omega) (by omega) rfl) ?_
    | refine wG_pure (e_ia_vwi rfl rfl (by omega) rfl) ?_
    | refine wG_pure (e_ia_vwn rfl rfl (by omega) (by omega) rfl) ?_
    | refine wG_n rfl rfl ?_
    | refine wG_u rfl rfl ?_
    | refine wG_new (o_mks rfl rfl (by omega) (by decide)) ?_)))
      all_goals (first
        | exact ret_boolE (.inr rfl) ⟨_, retV_mv rfl, (decide_eq_false fun h => by have := h.2 k hk2 hb; rw [hs] at this; cases this).symm⟩
        | (refine ⟨k + 1, ⟨hk2, fun j hj hw => ?_⟩, by omega, by simp [LeP, leT, leH, lk, AV.ltr, ltrL, Ab.hg, upd, -List.getD_eq_getElem?_getD, -Int.default_eq_zero]⟩
           rcases Nat.lt_or_ge j k with hji | hji
           · exact hok j hji hw
           · obtain rfl : j = k := by omega
             first | exact hs | (rw [hb] at hw; cases hw)))
    · have hk3 : k = n := by omega
      subst hk3
      repeat (first
    | refine wC_a rfl ?_
    | refine q_s rfl ?_
    | refine q_b rfl ?_
    | refine wG_nil ?_
    | refine wG_g rfl ?_
    | refine wG_pure (o_len_vwm rfl) ?_
    | refine wG_pure (o_not_d rfl) ?_
    | refine wG_p rfl (by first | exact rfl | omega) ?_
    | refine wG_pure (o_str2 rfl rfl rfl) ?_
    | refine wG_pure (e_istr rfl rfl (by omega)) ?_
    | refine wG_pure (e_istr0 rfl rfl (by omega)) ?_
    | refine wG_pure (o_not rfl) ?_
    | refine wG_pure (e_ia_vw0 rfl rfl (by omega) rfl) ?_
    | refine wG_pure (e_ia_vwp rfl rfl (by omega) rfl) ?_
    | refine wG_pure (e_ia_vwm rfl rfl (by omega) (by omega) rfl) ?_
    | refine wG_pure (e_ia_vwi rfl rfl (by omega) rfl) ?_
    | refine wG_pure (e_ia_vwn rfl rfl (by omega) (by omega) rfl) ?_
    | refine wG_n rfl rfl ?_
    | refine wG_u rfl rfl ?_
    | refine wG_new (o_mks rfl rfl (by omega) (by decide)) ?_)
      exact ret_boolE (.inr rfl) ⟨_, retV_mv rfl, (decide_eq_true ⟨by simpa using h0, hok⟩).symm⟩
theorem mkM_up {f : Nat → Bool} {k : Nat} (h : f k = true) : mkM f k ||| 2 ^ k = mkM f (k + 1) := by
  refine Nat.eq_of_testBit_eq fun j => ?_
  rw [tb_or, mkM_bit, mkM_bit]
  by_cases e : k = j
  · subst e; simp [h]
  · simp only [e, decide_false, Bool.or_false]
    rw [show decide (j < k + 1) = decide (j < k) from decide_eq_decide.2 (by omega)]
theorem mkM_dn {f : Nat → Bool} {k : Nat} (h : f k = false) : mkM f (k + 1) = mkM f k := by rw [mkM, h]; simp
theorem rowsC_get {W : Nat → Nat → Bool} {n i : Nat} (h : i < n) : (rowsC W n)[i]? = some [.vw true (boolR (W i) n)] := get_range h
theorem con73 (ns : List Int) (W A : Nat → Nat → Bool) {n i : Nat} (hns : ns.length = n) (hn : n ≤ 10) (hi : i < n) : Con Try.prog 73 true [ordC ns W A n, .int .i64 (i : Int)] (.int .i64 ((mkM (fun k => W k i) n : Nat) : Int)) [] := by
  refine con_of_wp mixed fun73 (by simp) [] plain_nil ?_
  unfold ac73 ro73
  simp only [zipT]
  repeat (first | refine wG_pure (hlenC hns _ _ _ _ rfl) ?_ | (first
    | refine wC_a rfl ?_
    | refine q_s rfl ?_
    | refine q_b rfl ?_
    | refine wG_nil ?_
    | refine wG_g rfl ?_
    | refine wG_pure (o_len_vwm rfl) ?_
    | refine wG_pure (o_not_d rfl) ?_
    | refine wG_p rfl (by first | exact rfl | omega) ?_
    | refine wG_pure (o_str2 rfl rfl rfl) ?_
    | refine wG_pure (e_istr rfl rfl (by omega)) ?_
    | refine wG_pure (e_istr0 rfl rfl (by omega)) ?_
    | refine wG_pure (o_not rfl) ?_
    | refine wG_pure (e_ia_vw0 rfl rfl (by omega) rfl) ?_
    | refine wG_pure (e_ia_vwp rfl rfl (by omega) rfl) ?_
    | refine wG_pure (e_ia_vwm rfl rfl (by omega) (by omega) rfl) ?_
    | refine wG_pure (e_ia_vwi rfl rfl (by omega) rfl) ?_
    | refine wG_pure (e_ia_vwn rfl rfl (by omega) (by omega) rfl) ?_
    | refine wG_n rfl rfl ?_
    | refine wG_u rfl rfl ?_
    | refine wG_new (o_mks rfl rfl (by omega) (by decide)) ?_))
  refine wC_loop Nat (fun k => ⟨[(0, ordC ns W A n), (1, .int .i64 (i : Int)), (5, .int .i64 ((mkM (fun q => W q i) k : Nat) : Int)), (11, .int .i64 (n : Int)), (12, .int .i64 (k : Int))], [], 0⟩) (fun k => k ≤ n) (fun k => n - k) 0 (Nat.zero_le _) ?_ (fun _ _ => Nat.zero_le _) ?_
  · exact ⟨⟨⟨rfl, rfl⟩, ⟨rfl, rfl⟩, ⟨rfl, rfl⟩, ⟨rfl, rfl⟩, ⟨rfl, rfl⟩, trivial⟩, trivial⟩
  intro k hk
  repeat (first
    | refine wC_a rfl ?_
    | refine q_s rfl ?_
    | refine q_b rfl ?_
    | refine wG_nil ?_
    | refine wG_g rfl ?_
    | refine wG_pure (o_len_vwm rfl) ?_
    | refine wG_pure (o_not_d rfl) ?_
    | refine wG_p rfl (by first | exact rfl | omega) ?_
    | refine wG_pure (o_str2 rfl rfl rfl) ?_
    | refine wG_pure (e_istr rfl rfl (by omega)) ?_
    | refine wG_pure (e_istr0 rfl rfl (by omega)) ?_
    | refine wG_pure (o_not rfl) ?_
    | refine wG_pure (e_ia_vw0 rfl rfl (by omega) rfl) ?_
    | refine wG_pure (e_ia_vwp rfl rfl (by omega) rfl) ?_
    | refine wG_pure (e_ia_vwm rfl rfl (by omega) (by omega) rfl) ?_
    | refine wG_pure (e_ia_vwi rfl rfl (by omega) rfl) ?_
    | refine wG_pure (e_ia_vwn rfl rfl (by omega) (by omega) rfl) ?_
    | refine wG_n rfl rfl ?_
    | refine wG_u rfl rfl ?_
    | refine wG_new (o_mks rfl rfl (by omega) (by decide)) ?_)
  refine wC_cond_d rfl (fun h4 => ?_) (fun h4 => ?_)
  · have hk2 : k < n := by omega
    have h1 := rowsC_get (W := W) hk2
    have h2 := boolR_get (f := W k) hi
    have hm := mkM_lt (fun q => W q i) k
    have hp : 2 ^ k ≤ 1024 := Nat.le_trans (Nat.pow_le_pow_right (by decide) (show k ≤ 10 by omega)) (by decide)
    cases hb : W k i
    all_goals (rw [hb] at h2)
    all_goals (repeat (first | refine wG_pure (e_row rfl rfl h1 rfl) ?_ | refine wG_pure (e_row rfl rfl h2 rfl) ?_ | refine wG_pure (o_shl1 rfl rfl (by omega)) ?_ | refine wG_pure (o_or rfl rfl (by omega) (by omega)) ?_ | (first
    | refine wC_a rfl ?_
    | refine q_s rfl ?_
    | refine q_b rfl ?_
    | refine wG_nil ?_
    | refine wG_g rfl ?_
    | refine wG_pure (o_len_vwm rfl) ?_
    | refine wG_pure (o_not_d rfl) ?_
    | refine wG_p rfl (by first | exact rfl | omega) ?_
    | refine wG_pure (o_str2 rfl rfl rfl) ?_
    | refine wG_pure (e_istr rfl rfl (by omega)) ?_
    | refine wG_pure (e_istr0 rfl rfl (by omega)) ?_
    | refine wG_pure (o_not rfl) ?_
    | refine wG_pure (e_ia_vw0 rfl rfl (by omega) rfl) ?_
    | refine wG_pure (e_ia_vwp rfl rfl (by omega) rfl) ?_
    | refine wG_pure (e_ia_vwm rfl rfl (by omega) (by omega) rfl) ?_
    | refine wG_pure (e_ia_vwi rfl rfl (by omega) rfl) ?_
    | refine wG_pure (e_ia_vwn rfl rfl (by omega) (by omega) rfl) ?_
    | refine wG_n rfl rfl ?_
    | refine wG_u rfl rfl ?_
    | refine wG_new (o_mks rfl rfl (by omega) (by decide)) ?_)))
    · refine ⟨k + 1, hk2, by omega, ⟨⟨rfl, rfl⟩, ⟨rfl, rfl⟩, ⟨?_, rfl⟩, ⟨rfl, rfl⟩, ⟨rfl, rfl⟩, trivial⟩, trivial⟩
      rw [mkM_dn (f := fun q => W q i) hb]; rfl
    · refine ⟨k + 1, hk2, by omega, ⟨⟨rfl, rfl⟩, ⟨rfl, rfl⟩, ⟨?_, rfl⟩, ⟨rfl, rfl⟩, ⟨rfl, rfl⟩, trivial⟩, trivial⟩
      rw [← mkM_up (f := fun q => W q i) hb]; rfl
  · have hk3 : k = n := by omega
    subst hk3
    repeat (first
    | refine wC_a rfl ?_
    | refine q_s rfl ?_
    | refine q_b rfl ?_
    | refine wG_nil ?_
    | refine wG_g rfl ?_
    | refine wG_pure (o_len_vwm rfl) ?_
    | refine wG_pure (o_not_d rfl) ?_
    | refine wG_p rfl (by first | exact rfl | omega) ?_
    | refine wG_pure (o_str2 rfl rfl rfl) ?_
    | refine wG_pure (e_istr rfl rfl (by omega)) ?_
    | refine wG_pure (e_istr0 rfl rfl (by omega)) ?_
    | refine wG_pure (o_not rfl) ?_
    | refine wG_pure (e_ia_vw0 rfl rfl (by omega) rfl) ?_
    | refine wG_pure (e_ia_vwp rfl rfl (by omega) rfl) ?_
    | refine wG_pure (e_ia_vwm rfl rfl (by omega) (by omega) rfl) ?_
    | refine wG_pure (e_ia_vwi rfl rfl (by omega) rfl) ?_
    | refine wG_pure (e_ia_vwn rfl rfl (by omega) (by omega) rfl) ?_
    | refine wG_n rfl rfl ?_
    | refine wG_u rfl rfl ?_
    | refine wG_new (o_mks rfl rfl (by omega) (by decide)) ?_)
    exact ret_intE (.inr rfl) ⟨_, retV_mv rfl, rfl⟩
theorem rdy_and {n S i : Nat} {W : Nat → Nat → Bool} (hn : n ≤ 10) (hS : S < 1024) (h0 : S.testBit i = false) : ((nAnd (mkM (fun k => W k i) n) S : Nat) : Int) = 0 ↔ rdy n W S i := by
  rw [show (((nAnd (mkM (fun k => W k i) n) S : Nat) : Int) = 0) = (nAnd (mkM (fun k => W k i) n) S = 0) from propext (by omega), nAnd_0 (mk10 _ hn) hS]
  constructor
  · intro h
    exact ⟨h0, fun k hk hw => h k (by rw [mkM_bit]; simp [hk, hw])⟩
  · intro h k hk
    rw [mkM_bit, Bool.and_eq_true, decide_eq_true_eq] at hk
    exact h.2 k hk.1 hk.2
theorem con51 (ns : List Int) (W A : Nat → Nat → Bool) {n S i : Nat} (hns : ns.length = n) (hn : n ≤ 10) (hS : S < 1024) (hi : i < n) : Con Try.prog 51 true [ordC ns W A n, .int .i64 (S : Int), .int .i64 (i : Int)] (.bool (decide (rdy n W S i))) [] := by
  refine con_of_wp mixed fun51 (by simp) [] plain_nil ?_
  unfold ac51 ro51
  simp only [zipT]
  have hs : S >>> i ≤ 1024 := by rw [Nat.shiftRight_eq_div_pow]; exact Nat.le_trans (Nat.div_le_self _ _) (by omega)
  have cn := con73 ns W A hns hn hi
  have hm := mk10 (fun k => W k i) hn
  repeat (first | refine wG_pure (o_shr rfl rfl (by omega)) ?_ | refine wG_pure (o_and (b := 1) rfl rfl (by omega) (by decide)) ?_ | (first
    | refine wC_a rfl ?_
    | refine q_s rfl ?_
    | refine q_b rfl ?_
    | refine wG_nil ?_
    | refine wG_g rfl ?_
    | refine wG_pure (o_len_vwm rfl) ?_
    | refine wG_pure (o_not_d rfl) ?_
    | refine wG_p rfl (by first | exact rfl | omega) ?_
    | refine wG_pure (o_str2 rfl rfl rfl) ?_
    | refine wG_pure (e_istr rfl rfl (by omega)) ?_
    | refine wG_pure (e_istr0 rfl rfl (by omega)) ?_
    | refine wG_pure (o_not rfl) ?_
    | refine wG_pure (e_ia_vw0 rfl rfl (by omega) rfl) ?_
    | refine wG_pure (e_ia_vwp rfl rfl (by omega) rfl) ?_
    | refine wG_pure (e_ia_vwm rfl rfl (by omega) (by omega) rfl) ?_
    | refine wG_pure (e_ia_vwi rfl rfl (by omega) rfl) ?_
    | refine wG_pure (e_ia_vwn rfl rfl (by omega) (by omega) rfl) ?_
    | refine wG_n rfl rfl ?_
    | refine wG_u rfl rfl ?_
    | refine wG_new (o_mks rfl rfl (by omega) (by decide)) ?_))
  cases h0 : S.testBit i with
  | true =>
    have hd : decide (((S >>> i &&& 1 : Nat) : Int) = 0) = false := decide_eq_false fun h => by rw [(bit_iff0 S i).1 h] at h0; cases h0
    simp only [hd]
    repeat (first
    | refine wC_a rfl ?_
    | refine q_s rfl ?_
    | refine q_b rfl ?_
    | refine wG_nil ?_
    | refine wG_g rfl ?_
    | refine wG_pure (o_len_vwm rfl) ?_
    | refine wG_pure (o_not_d rfl) ?_
    | refine wG_p rfl (by first | exact rfl | omega) ?_
    | refine wG_pure (o_str2 rfl rfl rfl) ?_
    | refine wG_pure (e_istr rfl rfl (by omega)) ?_
    | refine wG_pure (e_istr0 rfl rfl (by omega)) ?_
    | refine wG_pure (o_not rfl) ?_
    | refine wG_pure (e_ia_vw0 rfl rfl (by omega) rfl) ?_
    | refine wG_pure (e_ia_vwp rfl rfl (by omega) rfl) ?_
    | refine wG_pure (e_ia_vwm rfl rfl (by omega) (by omega) rfl) ?_
    | refine wG_pure (e_ia_vwi rfl rfl (by omega) rfl) ?_
    | refine wG_pure (e_ia_vwn rfl rfl (by omega) (by omega) rfl) ?_
    | refine wG_n rfl rfl ?_
    | refine wG_u rfl rfl ?_
    | refine wG_new (o_mks rfl rfl (by omega) (by decide)) ?_)
    exact ret_boolE (.inr rfl) ⟨_, retV_mv rfl, (decide_eq_false fun h => by rw [h.1] at h0; cases h0).symm⟩
  | false =>
    have hd : decide (((S >>> i &&& 1 : Nat) : Int) = 0) = true := decide_eq_true ((bit_iff0 S i).2 h0)
    simp only [hd]
    repeat (first | refine wG_call cn (ag_any rfl ag_nil) rfl ?_ | refine wG_call cn rfl rfl ?_ | refine wG_pure (o_andn rfl rfl (by omega)) ?_ | (first
    | refine wC_a rfl ?_
    | refine q_s rfl ?_
    | refine q_b rfl ?_
    | refine wG_nil ?_
    | refine wG_g rfl ?_
    | refine wG_pure (o_len_vwm rfl) ?_
    | refine wG_pure (o_not_d rfl) ?_
    | refine wG_p rfl (by first | exact rfl | omega) ?_
    | refine wG_pure (o_str2 rfl rfl rfl) ?_
    | refine wG_pure (e_istr rfl rfl (by omega)) ?_
    | refine wG_pure (e_istr0 rfl rfl (by omega)) ?_
    | refine wG_pure (o_not rfl) ?_
    | refine wG_pure (e_ia_vw0 rfl rfl (by omega) rfl) ?_
    | refine wG_pure (e_ia_vwp rfl rfl (by omega) rfl) ?_
    | refine wG_pure (e_ia_vwm rfl rfl (by omega) (by omega) rfl) ?_
    | refine wG_pure (e_ia_vwi rfl rfl (by omega) rfl) ?_
    | refine wG_pure (e_ia_vwn rfl rfl (by omega) (by omega) rfl) ?_
    | refine wG_n rfl rfl ?_
    | refine wG_u rfl rfl ?_
    | refine wG_new (o_mks rfl rfl (by omega) (by decide)) ?_))
    exact ret_boolE (.inr rfl) ⟨_, retV_mv rfl, decide_eq_decide.2 (rdy_and hn hS h0)⟩
theorem con41 (nn : Bool) (W : Nat → Nat → Bool) {n : Nat} (hn : n ≤ 10) : Con Try.prog 41 true [.vw nn ((maskL W n).map iRow)] (.sl 0 1 0 (2 ^ n)) [(cntL n W).map iRow] := by
  refine con_of_wp mixed fun41 (by simp) [0] (plain_map iRow_plain _) ?_
  unfold ac41 ro41
  simp only [zipT]
  have hl := maskL_len W n
  have e0 : ∀ n : Nat, 0 + ((n : Int)).toNat = n := fun n => by simp
  obtain ⟨m, hm⟩ : ∃ m, 2 ^ n = m := ⟨_, rfl⟩
  have hm0 : 0 < m := by rw [← hm]; exact Nat.pow_pos (by decide)
  have hm1 : m ≤ 1024 := by rw [← hm]; exact Nat.pow_le_pow_right (by decide) hn
  have em : ((m : Nat) : Int) - 1 = ((m - 1 : Nat) : Int) := by omega
  have em2 : ((m - 1 : Nat) : Int) + 1 = ((m : Nat) : Int) := by omega
  have hrep : (List.replicate m [AV.int .i64 0])[m - 1]? = some [AV.int .i64 0] := by rw [List.getElem?_replicate, if_pos (by omega)]
  have htop := bhL_top n W
  rw [hm] at htop
  repeat (first
    | refine wC_a rfl ?_
    | refine q_s rfl ?_
    | refine q_b rfl ?_
    | refine wG_nil ?_
    | refine wG_g rfl ?_
    | refine wG_pure (o_len_vwm rfl) ?_
    | refine wG_pure (o_not_d rfl) ?_
    | refine wG_p rfl (by first | exact rfl | omega) ?_
    | refine wG_pure (o_str2 rfl rfl rfl) ?_
    | refine wG_pure (e_istr rfl rfl (by omega)) ?_
    | refine wG_pure (e_istr0 rfl rfl (by omega)) ?_
    | refine wG_pure (o_not rfl) ?_
    | refine wG_pure (e_ia_vw0 rfl rfl (by omega) rfl) ?_
    | refine wG_pure (e_ia_vwp rfl rfl (by omega) rfl) ?_
    | refine wG_pure (e_ia_vwm rfl rfl (by omega) (by omega) rfl) ?_
    | refine wG_pure (e_ia_vwi rfl rfl (by omega) rfl) ?_
    | refine wG_pure (e_ia_vwn rfl rfl (by omega) (by omega) rfl) ?_
    | refine wG_n rfl rfl ?_
    | refine wG_u rfl rfl ?_
    | refine wG_new (o_mks rfl rfl (by omega) (by decide)) ?_)
  rw [hl]
  repeat (first | refine wG_pure (o_cvu rfl (by omega)) ?_ | refine wG_pure (o_shl1 rfl rfl (by omega)) ?_ | (first
    | refine wC_a rfl ?_
    | refine q_s rfl ?_
    | refine q_b rfl ?_
    | refine wG_nil ?_
    | refine wG_g rfl ?_
    | refine wG_pure (o_len_vwm rfl) ?_
    | refine wG_pure (o_not_d rfl) ?_
    | refine wG_p rfl (by first | exact rfl | omega) ?_
    | refine wG_pure (o_str2 rfl rfl rfl) ?_
    | refine wG_pure (e_istr rfl rfl (by omega)) ?_
    | refine wG_pure (e_istr0 rfl rfl (by omega)) ?_
    | refine wG_pure (o_not rfl) ?_
    | refine wG_pure (e_ia_vw0 rfl rfl (by omega) rfl) ?_
    | refine wG_pure (e_ia_vwp rfl rfl (by omega) rfl) ?_
    | refine wG_pure (e_ia_vwm rfl rfl (by omega) (by omega) rfl) ?_
    | refine wG_pure (e_ia_vwi rfl rfl (by omega) rfl) ?_
    | refine wG_pure (e_ia_vwn rfl rfl (by omega) (by omega) rfl) ?_
    | refine wG_n rfl rfl ?_
    | refine wG_u rfl rfl ?_
    | refine wG_new (o_mks rfl rfl (by omega) (by decide)) ?_))
  rw [hm]
  repeat (first
    | refine wC_a rfl ?_
    | refine q_s rfl ?_
    | refine q_b rfl ?_
    | refine wG_nil ?_
    | refine wG_g rfl ?_
    | refine wG_pure (o_len_vwm rfl) ?_
    | refine wG_pure (o_not_d rfl) ?_
    | refine wG_p rfl (by first | exact rfl | omega) ?_
    | refine wG_pure (o_str2 rfl rfl rfl) ?_
    | refine wG_pure (e_istr rfl rfl (by omega)) ?_
    | refine wG_pure (e_istr0 rfl rfl (by omega)) ?_
    | refine wG_pure (o_not rfl) ?_
    | refine wG_pure (e_ia_vw0 rfl rfl (by omega) rfl) ?_
    | refine wG_pure (e_ia_vwp rfl rfl (by omega) rfl) ?_
    | refine wG_pure (e_ia_vwm rfl rfl (by omega) (by omega) rfl) ?_
    | refine wG_pure (e_ia_vwi rfl rfl (by omega) rfl) ?_
    | refine wG_pure (e_ia_vwn rfl rfl (by omega) (by omega) rfl) ?_
    | refine wG_n rfl rfl ?_
    | refine wG_u rfl rfl ?_
    | refine wG_new (o_mks rfl rfl (by omega) (by decide)) ?_)
  rw [em]
  repeat (first
    | refine wC_a rfl ?_
    | refine q_s rfl ?_
    | refine q_b rfl ?_
    | refine wG_nil ?_
    | refine wG_g rfl ?_
    | refine wG_pure (o_len_vwm rfl) ?_
    | refine wG_pure (o_not_d rfl) ?_
    | refine wG_p rfl (by first | exact rfl | omega) ?_
    | refine wG_pure (o_str2 rfl rfl rfl) ?_
    | refine wG_pure (e_istr rfl rfl (by omega)) ?_
    | refine wG_pure (e_istr0 rfl rfl (by omega)) ?_
    | refine wG_pure (o_not rfl) ?_
    | refine wG_pure (e_ia_vw0 rfl rfl (by omega) rfl) ?_
    | refine wG_pure (e_ia_vwp rfl rfl (by omega) rfl) ?_
    | refine wG_pure (e_ia_vwm rfl rfl (by omega) (by omega) rfl) ?_
    | refine wG_pure (e_ia_vwi rfl rfl (by omega) rfl) ?_
    | refine wG_pure (e_ia_vwn rfl rfl (by omega) (by omega) rfl) ?_
    | refine wG_n rfl rfl ?_
    | refine wG_u rfl rfl ?_
    | refine wG_new (o_mks rfl rfl (by omega) (by decide)) ?_)
  rw [em2]
  repeat (first | refine wG_new (o_mks rfl rfl (by omega) (by decide)) ?_ | (refine wG_pure (e_ia_sl rfl rfl (by omega) (by omega)) ?_; simp only [e0]) | refine wG_upd (o_st1 rfl hg_here hrep rfl rfl htop) ?_ | (first
    | refine wC_a rfl ?_
    | refine q_s rfl ?_
    | refine q_b rfl ?_
    | refine wG_nil ?_
    | refine wG_g rfl ?_
    | refine wG_pure (o_len_vwm rfl) ?_
    | refine wG_pure (o_not_d rfl) ?_
    | refine wG_p rfl (by first | exact rfl | omega) ?_
    | refine wG_pure (o_str2 rfl rfl rfl) ?_
    | refine wG_pure (e_istr rfl rfl (by omega)) ?_
    | refine wG_pure (e_istr0 rfl rfl (by omega)) ?_
    | refine wG_pure (o_not rfl) ?_
    | refine wG_pure (e_ia_vw0 rfl rfl (by omega) rfl) ?_
    | refine wG_pure (e_ia_vwp rfl rfl (by omega) rfl) ?_
    | refine wG_pure (e_ia_vwm rfl rfl (by omega) (by omega) rfl) ?_
    | refine wG_pure (e_ia_vwi rfl rfl (by omega) rfl) ?_
    | refine wG_pure (e_ia_vwn rfl rfl (by omega) (by omega) rfl) ?_
    | refine wG_n rfl rfl ?_
    | refine wG_u rfl rfl ?_
    | refine wG_new (o_mks rfl rfl (by omega) (by decide)) ?_))
  have hget : ∀ u i S, S < m → ((bhL n W u i).map iRow)[S]? = some (iRow ((bhB n W u i S : Nat) : Int)) := fun u i S h => bhL_get (by omega)
  refine wC_loop Nat (fun u => ⟨[(0, .vw nn ((maskL W n).map iRow)), (3, .int .i64 (n : Int)), (5, .sl 0 1 0 m), (6, .int .i64 ((u : Int) - 1))], [(0, some ((bhL n W u 0).map iRow))], 1⟩) (fun u => u ≤ m - 1) (fun u => u) (m - 1) (Nat.le_refl _) ?_ (fun _ _ => Nat.zero_le _) ?_
  · exact ⟨⟨⟨rfl, rfl⟩, ⟨rfl, rfl⟩, ⟨rfl, rfl⟩, ⟨rfl, rfl⟩, trivial⟩, ⟨rfl, by show 0 < 1; decide, ltrI _ _⟩, trivial⟩
  intro u hu
  repeat (first
    | refine wC_a rfl ?_
    | refine q_s rfl ?_
    | refine q_b rfl ?_
    | refine wG_nil ?_
    | refine wG_g rfl ?_
    | refine wG_pure (o_len_vwm rfl) ?_
    | refine wG_pure (o_not_d rfl) ?_
    | refine wG_p rfl (by first | exact rfl | omega) ?_
    | refine wG_pure (o_str2 rfl rfl rfl) ?_
    | refine wG_pure (e_istr rfl rfl (by omega)) ?_
    | refine wG_pure (e_istr0 rfl rfl (by omega)) ?_
    | refine wG_pure (o_not rfl) ?_
    | refine wG_pure (e_ia_vw0 rfl rfl (by omega) rfl) ?_
    | refine wG_pure (e_ia_vwp rfl rfl (by omega) rfl) ?_
    | refine wG_pure (e_ia_vwm rfl rfl (by omega) (by omega) rfl) ?_
    | refine wG_pure (e_ia_vwi rfl rfl (by omega) rfl) ?_
    | refine wG_pure (e_ia_vwn rfl rfl (by omega) (by omega) rfl) ?_
    | refine wG_n rfl rfl ?_
    | refine wG_u rfl rfl ?_
    | refine wG_new (o_mks rfl rfl (by omega) (by decide)) ?_)
  refine wC_cond_d rfl (fun h4 => ?_) (fun h4 => ?_)
  · obtain ⟨s, rfl⟩ : ∃ s, u = s + 1 := ⟨u - 1, by omega⟩
    have es : (((s + 1 : Nat)) : Int) - 1 = (s : Int) := by omega
    simp only [es]
    repeat (first
    | refine wC_a rfl ?_
    | refine q_s rfl ?_
    | refine q_b rfl ?_
    | refine wG_nil ?_
    | refine wG_g rfl ?_
    | refine wG_pure (o_len_vwm rfl) ?_
    | refine wG_pure (o_not_d rfl) ?_
    | refine wG_p rfl (by first | exact rfl | omega) ?_
    | refine wG_pure (o_str2 rfl rfl rfl) ?_
    | refine wG_pure (e_istr rfl rfl (by omega)) ?_
    | refine wG_pure (e_istr0 rfl rfl (by omega)) ?_
    | refine wG_pure (o_not rfl) ?_
    | refine wG_pure (e_ia_vw0 rfl rfl (by omega) rfl) ?_
    | refine wG_pure (e_ia_vwp rfl rfl (by omega) rfl) ?_
    | refine wG_pure (e_ia_vwm rfl rfl (by omega) (by omega) rfl) ?_
    | refine wG_pure (e_ia_vwi rfl rfl (by omega) rfl) ?_
    | refine wG_pure (e_ia_vwn rfl rfl (by omega) (by omega) rfl) ?_
    | refine wG_n rfl rfl ?_
    | refine wG_u rfl rfl ?_
    | refine wG_new (o_mks rfl rfl (by omega) (by decide)) ?_)
    refine wC_loop Nat (fun i => ⟨[(0, .vw nn ((maskL W n).map iRow)), (3, .int .i64 (n : Int)), (5, .sl 0 1 0 m), (6, .int .i64 (s : Int)), (7, .int .i64 (i : Int))], [(0, some ((bhL n W (s + 1) i).map iRow))], 1⟩) (fun i => i ≤ n) (fun i => n - i) 0 (Nat.zero_le _) ?_ (fun _ _ => Nat.zero_le _) ?_
    · exact ⟨⟨⟨rfl, rfl⟩, ⟨rfl, rfl⟩, ⟨rfl, rfl⟩, ⟨rfl, rfl⟩, ⟨rfl, rfl⟩, trivial⟩, ⟨rfl, by show 0 < 1; decide, ltrI _ _⟩, trivial⟩
    intro i hi
    repeat (first
    | refine wC_a rfl ?_
    | refine q_s rfl ?_
    | refine q_b rfl ?_
    | refine wG_nil ?_
    | refine wG_g rfl ?_
    | refine wG_pure (o_len_vwm rfl) ?_
    | refine wG_pure (o_not_d rfl) ?_
    | refine wG_p rfl (by first | exact rfl | omega) ?_
    | refine wG_pure (o_str2 rfl rfl rfl) ?_
    | refine wG_pure (e_istr rfl rfl (by omega)) ?_
    | refine wG_pure (e_istr0 rfl rfl (by omega)) ?_
    | refine wG_pure (o_not rfl) ?_
    | refine wG_pure (e_ia_vw0 rfl rfl (by omega) rfl) ?_
    | refine wG_pure (e_ia_vwp rfl rfl (by omega) rfl) ?_
    | refine wG_pure (e_ia_vwm rfl rfl (by omega) (by omega) rfl) ?_
    | refine wG_pure (e_ia_vwi rfl rfl (by omega) rfl) ?_
    | refine wG_pure (e_ia_vwn rfl rfl (by omega) (by omega) rfl) ?_
    | refine wG_n rfl rfl ?_
    | refine wG_u rfl rfl ?_
    | refine wG_new (o_mks rfl rfl (by omega) (by decide)) ?_)
    refine wC_cond_d rfl (fun h5 => ?_) (fun h5 => ?_)
    · have hi2 : i < n := by omega
      have cR := con56 nn W hn (show s < 1024 by omega) hi2
      have hp := p10 hi2 hn
      have hor : s ||| 2 ^ i < m := by rw [← hm]; exact or_lt (by omega) hi2
      have g1 := hget (s + 1) i s (by omega)
      have g2 := hget (s + 1) i (s ||| 2 ^ i) hor
      have b1 := bhB_b (W := W) hn (s + 1) s hi
      have b2 := bhB_b (W := W) hn (s + 1) (s ||| 2 ^ i) hi
      by_cases hr : rdy n W s i
      · rw [decide_eq_true hr] at cR
        have hset := bhL_yes (W := W) (show s < 2 ^ n by omega) hi2 hr
        repeat (first | refine wG_call cR rfl rfl ?_ | (first
    | refine wC_a rfl ?_
    | refine q_s rfl ?_
    | refine q_b rfl ?_
    | refine wG_nil ?_
    | refine wG_g rfl ?_
    | refine wG_pure (o_len_vwm rfl) ?_
    | refine wG_pure (o_not_d rfl) ?_
    | refine wG_p rfl (by first | exact rfl | omega) ?_
    | refine wG_pure (o_str2 rfl rfl rfl) ?_
    | refine wG_pure (e_istr rfl rfl (by omega)) ?_
    | refine wG_pure (e_istr0 rfl rfl (by omega)) ?_
    | refine wG_pure (o_not rfl) ?_
    | refine wG_pure (e_ia_vw0 rfl rfl (by omega) rfl) ?_
    | refine wG_pure (e_ia_vwp rfl rfl (by omega) rfl) ?_
    | refine wG_pure (e_ia_vwm rfl rfl (by omega) (by omega) rfl) ?_
    | refine wG_pure (e_ia_vwi rfl rfl (by omega) rfl) ?_
    | refine wG_pure (e_ia_vwn rfl rfl (by omega) (by omega) rfl) ?_
    | refine wG_n rfl rfl ?_
    | refine wG_u rfl rfl ?_
    | refine wG_new (o_mks rfl rfl (by omega) (by decide)) ?_))
        repeat (first | (refine wE_v (e_ia_sl rfl rfl (by omega) (by omega)) rfl ?_; simp only [e0]) | refine wE_v (o_ldf_pt rfl rfl g1 rfl) rfl ?_ | refine wE_v (o_ldf_pt rfl rfl g2 rfl) rfl ?_ | refine wE_v (o_cvu rfl (by omega)) rfl ?_ | refine wE_v (o_shl1 rfl rfl (by omega)) rfl ?_ | refine wE_v (o_or rfl rfl (by omega) (by omega)) rfl ?_ | refine wE_upd (o_st1 rfl rfl g1 rfl rfl hset) rfl ?_ | (first
    | refine wE_nil (by kernel_rfl) ?_
    | refine wE_gy rfl ?_
    | refine wE_gn rfl rfl rfl ?_
    | refine wE_gu rfl rfl ?_
    | refine wE_gnn rfl rfl rfl ?_
    | refine wE_v (o_len_vwm rfl) rfl ?_
    | refine wE_v (o_not_d rfl) rfl ?_
    | refine wE_p rfl (by first | exact rfl | omega) rfl ?_
    | refine wE_v (o_str2 rfl rfl rfl) rfl ?_
    | refine wE_v (e_istr rfl rfl (by omega)) rfl ?_
    | refine wE_v (e_istr0 rfl rfl (by omega)) rfl ?_
    | refine wE_v (o_not rfl) rfl ?_
    | refine wE_v (e_ia_vw0 rfl rfl (by omega) rfl) rfl ?_
    | refine wE_v (e_ia_vwp rfl rfl (by omega) rfl) rfl ?_
    | refine wE_v (e_ia_vwm rfl rfl (by omega) (by omega) rfl) rfl ?_
    | refine wE_v (e_ia_vwi rfl rfl (by omega) rfl) rfl ?_
    | refine wE_v (e_ia_vwn rfl rfl (by omega) (by omega) rfl) rfl ?_
    | refine wE_n rfl rfl rfl ?_
    | refine wE_u rfl rfl rfl ?_
    | refine wE_new (o_mks rfl rfl (by omega) (by decide)) rfl ?_))
        repeat (first
    | refine wC_a rfl ?_
    | refine q_s rfl ?_
    | refine q_b rfl ?_
    | refine wG_nil ?_
    | refine wG_g rfl ?_
    | refine wG_pure (o_len_vwm rfl) ?_
    | refine wG_pure (o_not_d rfl) ?_
    | refine wG_p rfl (by first | exact rfl | omega) ?_
    | refine wG_pure (o_str2 rfl rfl rfl) ?_
    | refine wG_pure (e_istr rfl rfl (by omega)) ?_
    | refine wG_pure (e_istr0 rfl rfl (by omega)) ?_
    | refine wG_pure (o_not rfl) ?_
    | refine wG_pure (e_ia_vw0 rfl rfl (by omega) rfl) ?_
    | refine wG_pure (e_ia_vwp rfl rfl (by omega) rfl) ?_
    | refine wG_pure (e_ia_vwm rfl rfl (by omega) (by omega) rfl) ?_
    | refine wG_pure (e_ia_vwi rfl rfl (by omega) rfl) ?_
    | refine wG_pure (e_ia_vwn rfl rfl (by omega) (by omega) rfl) ?_
    | refine wG_n rfl rfl ?_
    | refine wG_u rfl rfl ?_
    | refine wG_new (o_mks rfl rfl (by omega) (by decide)) ?_)
        exact ⟨i + 1, hi2, by omega, ⟨⟨rfl, rfl⟩, ⟨rfl, rfl⟩, ⟨rfl, rfl⟩, ⟨rfl, rfl⟩, ⟨rfl, rfl⟩, trivial⟩, ⟨rfl, by show 0 < 1; decide, ltrI _ _⟩, trivial⟩
      · rw [decide_eq_false hr] at cR
        repeat (first | refine wG_call cR rfl rfl ?_ | (first
    | refine wC_a rfl ?_
    | refine q_s rfl ?_
    | refine q_b rfl ?_
    | refine wG_nil ?_
    | refine wG_g rfl ?_
    | refine wG_pure (o_len_vwm rfl) ?_
    | refine wG_pure (o_not_d rfl) ?_
    | refine wG_p rfl (by first | exact rfl | omega) ?_
    | refine wG_pure (o_str2 rfl rfl rfl) ?_
    | refine wG_pure (e_istr rfl rfl (by omega)) ?_
    | refine wG_pure (e_istr0 rfl rfl (by omega)) ?_
    | refine wG_pure (o_not rfl) ?_
    | refine wG_pure (e_ia_vw0 rfl rfl (by omega) rfl) ?_
    | refine wG_pure (e_ia_vwp rfl rfl (by omega) rfl) ?_
    | refine wG_pure (e_ia_vwm rfl rfl (by omega) (by omega) rfl) ?_
    | refine wG_pure (e_ia_vwi rfl rfl (by omega) rfl) ?_
    | refine wG_pure (e_ia_vwn rfl rfl (by omega) (by omega) rfl) ?_
    | refine wG_n rfl rfl ?_
    | refine wG_u rfl rfl ?_
    | refine wG_new (o_mks rfl rfl (by omega) (by decide)) ?_))
        refine ⟨i + 1, hi2, by omega, ⟨⟨rfl, rfl⟩, ⟨rfl, rfl⟩, ⟨rfl, rfl⟩, ⟨rfl, rfl⟩, ⟨rfl, rfl⟩, trivial⟩, ⟨?_, by show 0 < 1; decide, ltrI _ _⟩, trivial⟩
        rw [bhL_no hr]; rfl
    · have hi3 : i = n := by omega
      subst hi3
      repeat (first
    | refine wC_a rfl ?_
    | refine q_s rfl ?_
    | refine q_b rfl ?_
    | refine wG_nil ?_
    | refine wG_g rfl ?_
    | refine wG_pure (o_len_vwm rfl) ?_
    | refine wG_pure (o_not_d rfl) ?_
    | refine wG_p rfl (by first | exact rfl | omega) ?_
    | refine wG_pure (o_str2 rfl rfl rfl) ?_
    | refine wG_pure (e_istr rfl rfl (by omega)) ?_
    | refine wG_pure (e_istr0 rfl rfl (by omega)) ?_
    | refine wG_pure (o_not rfl) ?_
    | refine wG_pure (e_ia_vw0 rfl rfl (by omega) rfl) ?_
    | refine wG_pure (e_ia_vwp rfl rfl (by omega) rfl) ?_
    | refine wG_pure (e_ia_vwm rfl rfl (by omega) (by omega) rfl) ?_
    | refine wG_pure (e_ia_vwi rfl rfl (by omega) rfl) ?_
    | refine wG_pure (e_ia_vwn rfl rfl (by omega) (by omega) rfl) ?_
    | refine wG_n rfl rfl ?_
    | refine wG_u rfl rfl ?_
    | refine wG_new (o_mks rfl rfl (by omega) (by decide)) ?_)
      refine ⟨s, by omega, by omega, ⟨⟨rfl, rfl⟩, ⟨rfl, rfl⟩, ⟨rfl, rfl⟩, ⟨rfl, rfl⟩, trivial⟩, ⟨?_, by show 0 < 1; decide, ltrI _ _⟩, trivial⟩
      rw [← bhL_end (by omega)]; rfl
  · have hu0 : u = 0 := by omega
    subst hu0
    rw [bhL_0]
    repeat (first
    | refine wC_a rfl ?_
    | refine q_s rfl ?_
    | refine q_b rfl ?_
    | refine wG_nil ?_
    | refine wG_g rfl ?_
    | refine wG_pure (o_len_vwm rfl) ?_
    | refine wG_pure (o_not_d rfl) ?_
    | refine wG_p rfl (by first | exact rfl | omega) ?_
    | refine wG_pure (o_str2 rfl rfl rfl) ?_
    | refine wG_pure (e_istr rfl rfl (by omega)) ?_
    | refine wG_pure (e_istr0 rfl rfl (by omega)) ?_
    | refine wG_pure (o_not rfl) ?_
    | refine wG_pure (e_ia_vw0 rfl rfl (by omega) rfl) ?_
    | refine wG_pure (e_ia_vwp rfl rfl (by omega) rfl) ?_
    | refine wG_pure (e_ia_vwm rfl rfl (by omega) (by omega) rfl) ?_
    | refine wG_pure (e_ia_vwi rfl rfl (by omega) rfl) ?_
    | refine wG_pure (e_ia_vwn rfl rfl (by omega) (by omega) rfl) ?_
    | refine wG_n rfl rfl ?_
    | refine wG_u rfl rfl ?_
    | refine wG_new (o_mks rfl rfl (by omega) (by decide)) ?_)
    exact ret_sl (.inr rfl) (retV_mv rfl) rfl
end Go.Proofs.Ythicnjgdngfbkaa.Rec
