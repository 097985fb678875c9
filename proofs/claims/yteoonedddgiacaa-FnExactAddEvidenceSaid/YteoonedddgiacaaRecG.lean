/- Consistent records: what the implementation reads of an order. -/
import Derived.Test.YteoonedddgiacaaRecF
namespace Go.Proofs.Yteoonedddgiacaa.Rec
open Go Go.Proofs.Yteoonedddgiacaa.Ab Go.Proofs.Yteoonedddgiacaa.Il
attribute [local irreducible] wpO wpC wpDr wpQ wpG wpE stepA seqQ blkQ Ret RetG ev
set_option maxRecDepth 10000
set_option maxHeartbeats 8000000
set_option linter.unusedSimpArgs false
set_option linter.unusedVariables false

def ac54 : AC := (.seq (.reg [⟨(some 1), none, (.box 2 true (.t 0))⟩, ⟨(some 2), none, (.mv (.c .nilP))⟩, ⟨(some 3), none, (.mv (.c (.bool false)))⟩]) (.seq (.seq (.reg [⟨(some 5), none, (.ld true 2 (.t 1))⟩, ⟨(some 6), none, (.call 61 [(.t 5)])⟩, ⟨(some 7), none, (.un .not (.t 6))⟩]) (.cond (.t 7) (.seq (.reg [⟨(some 2), none, (.mv (.c .nilP))⟩, ⟨(some 3), none, (.mv (.c (.bool false)))⟩]) .ret) .skip)) (.seq (.reg [⟨(some 8), none, (.ld true 2 (.t 1))⟩, ⟨(some 9), none, (.call 62 [(.t 8)])⟩, ⟨(some 4), none, (.mv (.t 9))⟩]) (.seq (.reg [⟨(some 10), none, (.mv (.t 4))⟩, ⟨(some 11), none, (.mv (.t 4))⟩, ⟨(some 12), none, (.call 63 [(.t 11)])⟩, ⟨(some 2), none, (.mv (.t 10))⟩, ⟨(some 3), none, (.mv (.t 12))⟩]) .ret))))
def ro54 : List AOp := [(.mv (.t 2)), (.mv (.t 3))]
theorem fun54 : Fun Try.prog 54 13 ac54 ro54 := ⟨Try.f54, _, Try.func54, by kernel_rfl, rfl, rfl, by kernel_rfl, by kernel_rfl, by decide⟩
def ac63 : AC := (.seq (.reg [⟨(some 2), none, (.mv (.c (.bool false)))⟩]) (.seq (.seq (.reg [⟨(some 4), none, (.mv (.t 0))⟩, ⟨(some 5), none, (.nck (.t 4))⟩, ⟨(some 6), none, (.fa 0 (.t 5))⟩, ⟨(some 7), none, (.ld false 1 (.t 6))⟩, ⟨(some 8), none, (.len (.t 7))⟩, ⟨(some 9), none, (.mv (.c (.int .i64 0)))⟩]) (.blk 0 (.loop (.seq (.reg [⟨(some 10), none, (.bin .lss (.t 9) (.t 8))⟩]) (.seq (.cond (.t 10) .skip (.exit 0)) (.seq (.blk 1 (.seq (.reg [⟨(some 11), none, (.mv (.t 9))⟩, ⟨(some 3), none, (.mv (.t 11))⟩]) (.seq (.reg [⟨(some 12), none, (.mv (.t 0))⟩, ⟨(some 13), none, (.nck (.t 12))⟩, ⟨(some 14), none, (.fa 2 (.t 13))⟩, ⟨(some 15), none, (.ld false 1 (.t 14))⟩, ⟨(some 16), none, (.mv (.t 3))⟩, ⟨(some 17), none, (.ia 1 (.t 15) (.t 16))⟩, ⟨(some 18), none, (.ld false 1 (.t 17))⟩, ⟨(some 19), none, (.mv (.t 3))⟩, ⟨(some 20), none, (.ia 1 (.t 18) (.t 19))⟩, ⟨(some 21), none, (.ld false 1 (.t 20))⟩]) (.cond (.t 21) (.seq (.reg [⟨(some 2), none, (.mv (.c (.bool false)))⟩]) .ret) .skip)))) (.reg [⟨(some 22), none, (.bin .add (.t 9) (.c (.int .i64 1)))⟩, ⟨(some 9), none, (.mv (.t 22))⟩]))))))) (.seq (.reg [⟨(some 2), none, (.mv (.c (.bool true)))⟩]) .ret)))
def ro63 : List AOp := [(.mv (.t 2))]
theorem fun63 : Fun Try.prog 63 23 ac63 ro63 := ⟨Try.f63, _, Try.func63, by kernel_rfl, rfl, rfl, by kernel_rfl, by kernel_rfl, by decide⟩

/-! ### An order by content -/
def rowsC (W : Nat → Nat → Bool) (n : Nat) : Ab.Rows := (List.range n).map fun i => [.vw true (boolR (W i) n)]
def numC (ns : List Int) (n : Nat) : AV := match n with
  | 0 => .nilS
  | _ + 1 => .vw true (ns.map iRow)
def ordC (ns : List Int) (W A : Nat → Nat → Bool) (n : Nat) : AV := .vp [numC ns n, .vw true (rowsC A n), .vw true (rowsC W n)]
theorem dr_boolR {H : Nat → Option Ab.Rows} {f : Nat → Bool} {n q m : Nat} (h : H q = some (boolR f n)) : dr H (m + 2) (.sl q 1 0 n) = .vw true (boolR f n) :=
  dr_rows (f := fun k => [.bool (f k)]) (xs := List.range n) h (by simp) (fun x v hv => by simp at hv; subst hv; rfl)
theorem dr_outB {H : Nat → Option Ab.Rows} {W : Nat → Nat → Bool} {n b q m : Nat} (h : H q = some (outB n b)) (hr : ∀ i, i < n → H (i + b) = some (boolR (W i) n)) : dr H (m + 3) (.sl q 1 0 n) = .vw true (rowsC W n) := by
  simp only [dr, h, List.drop_zero]
  congr 1
  rw [List.take_of_length_le (by rw [outB_len]; exact Nat.le_refl _), outB, List.map_map]
  refine List.map_congr_left fun i hi => ?_
  simp only [Function.comp, List.map_cons, List.map_nil]
  rw [dr_boolR (hr i (List.mem_range.1 hi))]
theorem dr_pt3 {H : Nat → Option Ab.Rows} {q m b : Nat} {x y z : AV} (h : H q = some (shR b [[x, y, z]])) : dr H (m + 1) (.pt q 0 0) = .vp [dr H m (sh b x), dr H m (sh b y), dr H m (sh b z)] := by
  have e : shR b [[x, y, z]] = [[sh b x, sh b y, sh b z]] := rfl
  rw [e] at h
  generalize sh b x = x' at *
  generalize sh b y = y' at *
  generalize sh b z = z' at *
  simp only [dr, h, List.getElem?_cons_zero, List.drop_zero, List.map_cons, List.map_nil]
theorem shO_get {objs : List Ab.Rows} {b i : Nat} {rows : Ab.Rows} {h : List (Nat × Option Ab.Rows)} (hi : objs[i]? = some rows) : hg (mkh b (objs.map (shR b)) ++ h) (b + i) = some (shR b rows) := by
  refine hg_in (by omega) ?_
  rw [Nat.add_sub_cancel_left, List.getElem?_map, hi]
  rfl
theorem sh_outB {n b d : Nat} : shR b (outB n d) = outB n (b + d) := by
  rw [outB, shR, List.map_map, outB]
  refine List.map_congr_left fun q _ => ?_
  show [AV.sl (b + (q + d)) 1 0 n] = [AV.sl (q + (b + d)) 1 0 n]
  rw [show b + (q + d) = q + (b + d) by omega]
theorem dr_ordO (ns : List Int) (W A : Nat → Nat → Bool) (n b : Nat) (hns : ns.length = n) (h : List (Nat × Option Ab.Rows)) : dr (hg (mkh b ((ordO (ns.map iRow) W A n).map (shR b)) ++ h)) 6 (.pt b 0 0) = ordC ns W A n := by
  have h0 : ∀ rows, (ordO (ns.map iRow) W A n)[0]? = some rows → hg (mkh b ((ordO (ns.map iRow) W A n).map (shR b)) ++ h) b = some (shR b rows) := fun rows hr => by have := shO_get (b := b) (h := h) hr; rwa [Nat.add_zero] at this
  cases n with
  | zero =>
    have e0 := h0 _ rfl
    have e1 := shO_get (b := b) (h := h) (show (ordO (ns.map iRow) W A 0)[1]? = some [] from rfl)
    have e2 := shO_get (b := b) (h := h) (show (ordO (ns.map iRow) W A 0)[2]? = some [] from rfl)
    rw [dr_pt3 e0]
    show AV.vp [.nilS, dr _ (2 + 3) (.sl (b + 2) 1 0 0), dr _ (2 + 3) (.sl (b + 1) 1 0 0)] = _
    rw [dr_outB (W := A) (b := 0) (n := 0) e2 (fun i hi => by omega), dr_outB (W := W) (b := 0) (n := 0) e1 (fun i hi => by omega)]
    rfl
  | succ n =>
    have e0 := h0 _ rfl
    have e1 := shO_get (b := b) (h := h) (show (ordO (ns.map iRow) W A (n + 1))[1]? = some _ from rfl)
    have e2 := shO_get (b := b) (h := h) (show (ordO (ns.map iRow) W A (n + 1))[2]? = some _ from rfl)
    have e3 := shO_get (b := b) (h := h) (show (ordO (ns.map iRow) W A (n + 1))[3]? = some _ from rfl)
    rw [sh_outB] at e1 e2
    rw [shR_plain (rowsP _)] at e3
    rw [dr_pt3 e0]
    show AV.vp [dr _ (3 + 2) (.sl (b + 3) 1 0 (n + 1)), dr _ (2 + 3) (.sl (b + 2) 1 0 (n + 1)), dr _ (2 + 3) (.sl (b + 1) 1 0 (n + 1))] = _
    rw [dr_outB (W := A) e2 (fun i hi => ?_), dr_outB (W := W) e1 (fun i hi => ?_), dr_rows (m := 3) e3 hns.symm iRow_plain]
    · rfl
    · have := shO_get (b := b) (h := h) (i := i + 4) (objs := ordO (ns.map iRow) W A (n + 1)) (rows := boolR (W i) (n + 1)) (by
        show (boolRs W (n + 1) ++ boolRs A (n + 1))[i]? = _
        rw [List.getElem?_append_left (by simp [boolRs_len]; omega), boolRs_get hi])
      rw [shR_plain (boolR_plain _ _)] at this
      rwa [show i + (b + 4) = b + (i + 4) by omega]
    · have := shO_get (b := b) (h := h) (i := i + (n + 1) + 4) (objs := ordO (ns.map iRow) W A (n + 1)) (rows := boolR (A i) (n + 1)) (by
        show (boolRs W (n + 1) ++ boolRs A (n + 1))[i + (n + 1)]? = _
        rw [List.getElem?_append_right (by simp [boolRs_len]), boolRs_len, Nat.add_sub_cancel, boolRs_get hi])
      rw [shR_plain (boolR_plain _ _)] at this
      rwa [show i + (b + (n + 1 + 4)) = b + (i + (n + 1) + 4) by omega]
theorem con63 (ns : List Int) (W A : Nat → Nat → Bool) (n : Nat) (hns : ns.length = n) (hn : n ≤ 10) : Con Try.prog 63 true [ordC ns W A n] (.bool (decide (∀ i, i < n → W i i = false))) [] := by
  refine con_of_wp mixed fun63 (by simp) [] plain_nil ?_
  unfold ac63 ro63 ordC
  simp only [zipT]
  have hlen : ∀ (T : Nat → AV) (H : Nat → Option Ab.Rows) (nr : Nat) (x : AX), gT T x = numC ns n → Ab.ev (gT T) H nr (.len x) = some (.int .i64 (n : Int), [], 0) := by
    intro T H nr x hx
    cases n with
    | zero => exact o_len_nil hx
    | succ n => rw [← hns]; exact o_len_vwm hx
  repeat (first | refine wG_pure (hlen _ _ _ _ rfl) ?_ | (first
    | refine wC_a rfl ?_
    | refine q_s rfl ?_
    | refine q_b rfl ?_
    | refine wG_nil ?_
    | refine wG_g rfl ?_
    | refine wG_pure (o_len_vwm rfl) ?_
    | refine wG_pure (o_not_d rfl) ?_
    | refine wG_p rfl (by first | exact rfl | omega) ?_
    | refine wG_pure (o_str2 rfl rfl rfl) ?_
    | refine wG_pure (e_istr rfl rfl (by omega)) ?_
    | refine wG_pure (e_istr0 rfl rfl (by omega)) ?_
    | refine wG_pure (o_not rfl) ?_
    | refine wG_pure (e_ia_vw0 rfl rfl (by omega) rfl) ?_
    | refine wG_pure (e_ia_vwp rfl rfl (by omega) rfl) ?_
    | refine wG_pure (e_ia_vwm rfl rfl (by omega) (by omega) rfl) ?_
    | refine wG_pure (e_ia_vwi rfl rfl (by omega) rfl) ?_
    | refine wG_pure (e_ia_vwn rfl rfl (by omega) (by omega) rfl) ?_
    | refine wG_n rfl rfl ?_
    | refine wG_u rfl rfl ?_
    | refine wG_new (o_mks rfl rfl (by omega) (by decide)) ?_))
  refine wC_loop Nat (fun i => ⟨[(0, .vp [numC ns n, .vw true (rowsC A n), .vw true (rowsC W n)]), (8, .int .i64 (n : Int)), (9, .int .i64 (i : Int))], [], 0⟩) (fun i => i ≤ n ∧ ∀ j, j < i → W j j = false) (fun i => n - i) 0 ⟨Nat.zero_le _, fun j hj => absurd hj (Nat.not_lt_zero _)⟩ ?_ (fun _ _ => Nat.zero_le _) ?_
  · simp [LeP, leT, leH, lk, AV.ltr, ltrL, Ab.hg, upd, -List.getD_eq_getElem?_getD, -Int.default_eq_zero]
  rintro i ⟨hi, hok⟩
  repeat (first
    | refine wC_a rfl ?_
    | refine q_s rfl ?_
    | refine q_b rfl ?_
    | refine wG_nil ?_
    | refine wG_g rfl ?_
    | refine wG_pure (o_len_vwm rfl) ?_
    | refine wG_pure (o_not_d rfl) ?_
    | refine wG_p rfl (by first | exact rfl | omega) ?_
    | refine wG_pure (o_str2 rfl rfl rfl) ?_
    | refine wG_pure (e_istr rfl rfl (by omega)) ?_
    | refine wG_pure (e_istr0 rfl rfl (by omega)) ?_
    | refine wG_pure (o_not rfl) ?_
    | refine wG_pure (e_ia_vw0 rfl rfl (by omega) rfl) ?_
    | refine wG_pure (e_ia_vwp rfl rfl (by omega) rfl) ?_
    | refine wG_pure (e_ia_vwm rfl rfl (by omega) (by omega) rfl) ?_
    | refine wG_pure (e_ia_vwi rfl rfl (by omega) rfl) ?_
    | refine wG_pure (e_ia_vwn rfl rfl (by omega) (by omega) rfl) ?_
    | refine wG_n rfl rfl ?_
    | refine wG_u rfl rfl ?_
    | refine wG_new (o_mks rfl rfl (by omega) (by decide)) ?_)
  refine wC_cond_d rfl (fun h2 => ?_) (fun h2 => ?_)
  · have hi2 : i < n := by omega
    have g1 : (rowsC W n)[((i : Int)).toNat]? = some [.vw true (boolR (W i) n)] := get_range hi2
    have g2 : (boolR (W i) n)[((i : Int)).toNat]? = some [.bool (W i i)] := get_range hi2
    repeat (first | refine wG_pure (e_ia_vw rfl rfl (by omega) g1 rfl) ?_ | refine wG_pure (e_ia_vw rfl rfl (by omega) g2 rfl) ?_ | (first
    | refine wC_a rfl ?_
    | refine q_s rfl ?_
    | refine q_b rfl ?_
    | refine wG_nil ?_
    | refine wG_g rfl ?_
    | refine wG_pure (o_len_vwm rfl) ?_
    | refine wG_pure (o_not_d rfl) ?_
    | refine wG_p rfl (by first | exact rfl | omega) ?_
    | refine wG_pure (o_str2 rfl rfl rfl) ?_
    | refine wG_pure (e_istr rfl rfl (by omega)) ?_
    | refine wG_pure (e_istr0 rfl rfl (by omega)) ?_
    | refine wG_pure (o_not rfl) ?_
    | refine wG_pure (e_ia_vw0 rfl rfl (by omega) rfl) ?_
    | refine wG_pure (e_ia_vwp rfl rfl (by omega) rfl) ?_
    | refine wG_pure (e_ia_vwm rfl rfl (by omega) (by omega) rfl) ?_
    | refine wG_pure (e_ia_vwi rfl rfl (by omega) rfl) ?_
    | refine wG_pure (e_ia_vwn rfl rfl (by omega) (by omega) rfl) ?_
    | refine wG_n rfl rfl ?_
    | refine wG_u rfl rfl ?_
    | refine wG_new (o_mks rfl rfl (by omega) (by decide)) ?_))
    refine wC_cond rfl (fun h3 => ?_) (fun h3 => ?_)
    · repeat (first
    | refine wC_a rfl ?_
    | refine q_s rfl ?_
    | refine q_b rfl ?_
    | refine wG_nil ?_
    | refine wG_g rfl ?_
    | refine wG_pure (o_len_vwm rfl) ?_
    | refine wG_pure (o_not_d rfl) ?_
    | refine wG_p rfl (by first | exact rfl | omega) ?_
    | refine wG_pure (o_str2 rfl rfl rfl) ?_
    | refine wG_pure (e_istr rfl rfl (by omega)) ?_
    | refine wG_pure (e_istr0 rfl rfl (by omega)) ?_
    | refine wG_pure (o_not rfl) ?_
    | refine wG_pure (e_ia_vw0 rfl rfl (by omega) rfl) ?_
    | refine wG_pure (e_ia_vwp rfl rfl (by omega) rfl) ?_
    | refine wG_pure (e_ia_vwm rfl rfl (by omega) (by omega) rfl) ?_
    | refine wG_pure (e_ia_vwi rfl rfl (by omega) rfl) ?_
    | refine wG_pure (e_ia_vwn rfl rfl (by omega) (by omega) rfl) ?_
    | refine wG_n rfl rfl ?_
    | refine wG_u rfl rfl ?_
    | refine wG_new (o_mks rfl rfl (by omega) (by decide)) ?_)
      refine ret_boolE (.inr rfl) ⟨_, retV_mv rfl, Eq.symm (decide_eq_false fun hG => ?_)⟩
      rw [hG i hi2] at h3; cases h3
    · repeat (first
    | refine wC_a rfl ?_
    | refine q_s rfl ?_
    | refine q_b rfl ?_
    | refine wG_nil ?_
    | refine wG_g rfl ?_
    | refine wG_pure (o_len_vwm rfl) ?_
    | refine wG_pure (o_not_d rfl) ?_
    | refine wG_p rfl (by first | exact rfl | omega) ?_
    | refine wG_pure (o_str2 rfl rfl rfl) ?_
    | refine wG_pure (e_istr rfl rfl (by omega)) ?_
    | refine wG_pure (e_istr0 rfl rfl (by omega)) ?_
    | refine wG_pure (o_not rfl) ?_
    | refine wG_pure (e_ia_vw0 rfl rfl (by omega) rfl) ?_
    | refine wG_pure (e_ia_vwp rfl rfl (by omega) rfl) ?_
    | refine wG_pure (e_ia_vwm rfl rfl (by omega) (by omega) rfl) ?_
    | refine wG_pure (e_ia_vwi rfl rfl (by omega) rfl) ?_
    | refine wG_pure (e_ia_vwn rfl rfl (by omega) (by omega) rfl) ?_
    | refine wG_n rfl rfl ?_
    | refine wG_u rfl rfl ?_
    | refine wG_new (o_mks rfl rfl (by omega) (by decide)) ?_)
      refine ⟨i + 1, ⟨by omega, fun j hj => ?_⟩, by omega, by simp [LeP, leT, leH, lk, AV.ltr, ltrL, Ab.hg, upd, -List.getD_eq_getElem?_getD, -Int.default_eq_zero]⟩
      rcases Nat.lt_or_ge j i with hji | hji
      · exact hok j hji
      · obtain rfl : j = i := by omega
        exact h3
  · have hi3 : i = n := by omega
    subst hi3
    repeat (first
    | refine wC_a rfl ?_
    | refine q_s rfl ?_
    | refine q_b rfl ?_
    | refine wG_nil ?_
    | refine wG_g rfl ?_
    | refine wG_pure (o_len_vwm rfl) ?_
    | refine wG_pure (o_not_d rfl) ?_
    | refine wG_p rfl (by first | exact rfl | omega) ?_
    | refine wG_pure (o_str2 rfl rfl rfl) ?_
    | refine wG_pure (e_istr rfl rfl (by omega)) ?_
    | refine wG_pure (e_istr0 rfl rfl (by omega)) ?_
    | refine wG_pure (o_not rfl) ?_
    | refine wG_pure (e_ia_vw0 rfl rfl (by omega) rfl) ?_
    | refine wG_pure (e_ia_vwp rfl rfl (by omega) rfl) ?_
    | refine wG_pure (e_ia_vwm rfl rfl (by omega) (by omega) rfl) ?_
    | refine wG_pure (e_ia_vwi rfl rfl (by omega) rfl) ?_
    | refine wG_pure (e_ia_vwn rfl rfl (by omega) (by omega) rfl) ?_
    | refine wG_n rfl rfl ?_
    | refine wG_u rfl rfl ?_
    | refine wG_new (o_mks rfl rfl (by omega) (by decide)) ?_)
    exact ret_boolE (.inr rfl) ⟨_, retV_mv rfl, Eq.symm (decide_eq_true hok)⟩
theorem sh_rn {m b : Nat} {π : Nat → Nat} (hπ : ∀ i, i < m → π i = b + i) : ∀ (x : AV), x.plain = true ∨ (∃ r s o l, x = .sl r s o l ∧ r < m) → sh b x = rn π x := by
  rintro x (h | ⟨r, s, o, l, rfl, h⟩)
  · cases x <;> first | rfl | simp [AV.plain] at h
  · simp only [sh, rn, hπ r h]
/-- What an order's new objects become under a caller's numbers. -/
theorem ordO_sh {nb : Ab.Rows} (hnb : ∀ row ∈ nb, ∀ x ∈ row, AV.plain x = true) {W A : Nat → Nat → Bool} {n b i : Nat} {π : Nat → Nat} {rows : Ab.Rows} (hπ : ∀ i, i < (ordO nb W A n).length → π i = b + i) (h : (ordO nb W A n)[i]? = some rows) : shR b rows = rows.map fun row => rnL π row := by
  refine List.map_congr_left fun row hrow => ?_
  have hn := ordO_nest hnb W A n rows (List.mem_of_getElem? h) row hrow
  have key : ∀ (l : List AV), (∀ x ∈ l, AV.ltr (ordO nb W A n).length x = true ∧ AV.nvf x = true ∧ (x.plain = true ∨ ∃ r s o q, x = .sl r s o q)) → shL b l = rnL π l := by
    intro l
    induction l with
    | nil => intro _; rfl
    | cons x xs ih =>
      intro hl
      rw [shL, rnL, ih (fun y hy => hl y (List.mem_cons_of_mem _ hy))]
      have hx := hl x List.mem_cons_self
      rw [sh_rn hπ x]
      rcases hx.2.2 with h | ⟨r, s, o, q, rfl⟩
      · exact .inl h
      · exact .inr ⟨r, s, o, q, rfl, by simpa [AV.ltr] using hx.1⟩
  refine key row fun x hx => ⟨(hn x hx).1, (hn x hx).2, ?_⟩
  cases n with
  | zero =>
    match i, h with
    | 0, h => simp [ordO] at h; subst h; simp at hrow; subst hrow; simp at hx; rcases hx with rfl | rfl | rfl <;> simp [AV.plain]
    | 1, h => simp [ordO] at h; subst h; simp at hrow
    | 2, h => simp [ordO] at h; subst h; simp at hrow
  | succ n =>
    have hm := List.mem_of_getElem? h
    rcases List.mem_cons.1 hm with rfl | hm
    · simp at hrow; subst hrow; simp at hx; rcases hx with rfl | rfl | rfl <;> simp [AV.plain]
    rcases List.mem_cons.1 hm with rfl | hm
    · obtain ⟨k, _, rfl⟩ := List.mem_map.1 hrow; simp at hx; subst hx; simp [AV.plain]
    rcases List.mem_cons.1 hm with rfl | hm
    · obtain ⟨k, _, rfl⟩ := List.mem_map.1 hrow; simp at hx; subst hx; simp [AV.plain]
    rcases List.mem_cons.1 hm with rfl | hm
    · exact .inl (hnb row hrow x hx)
    · rcases List.mem_append.1 hm with hm | hm
      · obtain ⟨k, _, rfl⟩ := List.mem_map.1 hm; exact .inl (boolR_plain _ _ row hrow x hx)
      · obtain ⟨k, _, rfl⟩ := List.mem_map.1 hm; exact .inl (boolR_plain _ _ row hrow x hx)
noncomputable def oO (r : Rc) : List Ab.Rows := ordO ((nums r r.cs.length).map iRow) (later r) (lk0 r r.xs.length) r.cs.length
open Classical in
theorem con54_yes (a b : Bool) (r : Rc) (hG : GoodR r) : ConG Try.prog 54 true [.agg (rRow a b r)] (.tup [.pt 0 0 0, .bool (decide (consis r))]) (oO r) := by
  have h10 := hG.1
  have h24 := hG.2.1
  have hnl : (nums r r.cs.length).length = r.cs.length := nums_len (Nat.le_refl _)
  refine con_of_wpG mixed fun54 (by simp) ((List.range (oO r).length).map (· + 1)) (ordO_nest (rowsP _) _ _ _) ?_
  unfold ac54 ro54
  simp only [zipT]
  have c1 := con61 a b r (by omega) (by omega)
  rw [decide_eq_true hG] at c1
  have c2 := con62 a b r hG
  have c3 := con63 (nums r r.cs.length) (later r) (lk0 r r.xs.length) r.cs.length hnl h10
  repeat (first | refine wG_call c1 rfl rfl ?_ | (first
    | refine wC_a rfl ?_
    | refine q_s rfl ?_
    | refine q_b rfl ?_
    | refine wG_nil ?_
    | refine wG_g rfl ?_
    | refine wG_pure (o_len_vwm rfl) ?_
    | refine wG_pure (o_not_d rfl) ?_
    | refine wG_p rfl (by first | exact rfl | omega) ?_
    | refine wG_pure (o_str2 rfl rfl rfl) ?_
    | refine wG_pure (e_istr rfl rfl (by omega)) ?_
    | refine wG_pure (e_istr0 rfl rfl (by omega)) ?_
    | refine wG_pure (o_not rfl) ?_
    | refine wG_pure (e_ia_vw0 rfl rfl (by omega) rfl) ?_
    | refine wG_pure (e_ia_vwp rfl rfl (by omega) rfl) ?_
    | refine wG_pure (e_ia_vwm rfl rfl (by omega) (by omega) rfl) ?_
    | refine wG_pure (e_ia_vwi rfl rfl (by omega) rfl) ?_
    | refine wG_pure (e_ia_vwn rfl rfl (by omega) (by omega) rfl) ?_
    | refine wG_n rfl rfl ?_
    | refine wG_u rfl rfl ?_
    | refine wG_new (o_mks rfl rfl (by omega) (by decide)) ?_))
  refine wG_callG (v' := .pt 1 0 0) c2 rfl rfl rfl ?_
  repeat (first | refine wG_call c3 (ag_any (dr_ordO _ _ _ _ 1 hnl _) ag_nil) rfl ?_ | (first
    | refine wC_a rfl ?_
    | refine q_s rfl ?_
    | refine q_b rfl ?_
    | refine wG_nil ?_
    | refine wG_g rfl ?_
    | refine wG_pure (o_len_vwm rfl) ?_
    | refine wG_pure (o_not_d rfl) ?_
    | refine wG_p rfl (by first | exact rfl | omega) ?_
    | refine wG_pure (o_str2 rfl rfl rfl) ?_
    | refine wG_pure (e_istr rfl rfl (by omega)) ?_
    | refine wG_pure (e_istr0 rfl rfl (by omega)) ?_
    | refine wG_pure (o_not rfl) ?_
    | refine wG_pure (e_ia_vw0 rfl rfl (by omega) rfl) ?_
    | refine wG_pure (e_ia_vwp rfl rfl (by omega) rfl) ?_
    | refine wG_pure (e_ia_vwm rfl rfl (by omega) (by omega) rfl) ?_
    | refine wG_pure (e_ia_vwi rfl rfl (by omega) rfl) ?_
    | refine wG_pure (e_ia_vwn rfl rfl (by omega) (by omega) rfl) ?_
    | refine wG_n rfl rfl ?_
    | refine wG_u rfl rfl ?_
    | refine wG_new (o_mks rfl rfl (by omega) (by decide)) ?_))
  refine retG_gen (.inr rfl) (retVs_2 (retV_mv rfl) (retV_mv rfl)) ?_ (by simp [notOne]) ?_ (by simp) (nd_succ _) (fun i rows h => ?_)
  · show [AV.pt 1 0 0, .bool _] = [AV.pt (πof _ 0) 0 0, .bool _]
    have hp : 0 < (oO r).length := ordO_pos _ _ _ _
    have hd : decide (∀ i, i < r.cs.length → later r i i = false) = decide (consis r) := decide_eq_decide.2 Iff.rfl
    rw [πs hp, hd]
  · have : 0 < (oO r).length := ordO_pos _ _ _ _
    simp [AV.ltr, ltrL, this]
  · have hi := (List.getElem?_eq_some_iff.1 h).1
    rw [πs hi, ← ordO_sh (rowsP _) (b := 1) (fun j hj => by rw [πs (show j < (oO r).length from hj)]; omega) h, show i + 1 = 1 + i by omega]
    exact shO_get h
theorem con54_no (a b : Bool) (r : Rc) (h1 : r.cs.length ≤ 1048576) (h2 : r.xs.length ≤ 1048576) (hG : ¬ GoodR r) : Con Try.prog 54 true [.agg (rRow a b r)] (.tup [.nilP, .bool false]) [] := by
  classical
  refine con_of_wp mixed fun54 (by simp) [] plain_nil ?_
  unfold ac54 ro54
  simp only [zipT]
  have c1 := con61 a b r h1 h2
  rw [decide_eq_false hG] at c1
  repeat (first | refine wG_call c1 rfl rfl ?_ | (first
    | refine wC_a rfl ?_
    | refine q_s rfl ?_
    | refine q_b rfl ?_
    | refine wG_nil ?_
    | refine wG_g rfl ?_
    | refine wG_pure (o_len_vwm rfl) ?_
    | refine wG_pure (o_not_d rfl) ?_
    | refine wG_p rfl (by first | exact rfl | omega) ?_
    | refine wG_pure (o_str2 rfl rfl rfl) ?_
    | refine wG_pure (e_istr rfl rfl (by omega)) ?_
    | refine wG_pure (e_istr0 rfl rfl (by omega)) ?_
    | refine wG_pure (o_not rfl) ?_
    | refine wG_pure (e_ia_vw0 rfl rfl (by omega) rfl) ?_
    | refine wG_pure (e_ia_vwp rfl rfl (by omega) rfl) ?_
    | refine wG_pure (e_ia_vwm rfl rfl (by omega) (by omega) rfl) ?_
    | refine wG_pure (e_ia_vwi rfl rfl (by omega) rfl) ?_
    | refine wG_pure (e_ia_vwn rfl rfl (by omega) (by omega) rfl) ?_
    | refine wG_n rfl rfl ?_
    | refine wG_u rfl rfl ?_
    | refine wG_new (o_mks rfl rfl (by omega) (by decide)) ?_))
  exact ret_pl (.inr rfl) (retVs_2 (retV_mv rfl) (retV_mv rfl)) rfl rfl (by simp)
end Go.Proofs.Yteoonedddgiacaa.Rec
