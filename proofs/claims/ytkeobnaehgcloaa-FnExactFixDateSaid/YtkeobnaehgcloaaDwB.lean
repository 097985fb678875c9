/- A record with another distribution for one context: the specification. -/
import Derived.Test.YtkeobnaehgcloaaDwA
namespace Go.Proofs.Ytkeobnaehgcloaa.Dst
open Go Go.Proofs.Ytkeobnaehgcloaa.Ab Go.Proofs.Ytkeobnaehgcloaa.Il Go.Proofs.Ytkeobnaehgcloaa.Rec
attribute [local irreducible] wpO wpC wpDr wpQ wpG wpE stepA seqQ blkQ Ret RetG ev
set_option maxRecDepth 10000
set_option maxHeartbeats 8000000
set_option linter.unusedSimpArgs false
set_option linter.unusedVariables false

def ac50 : AC := (.seq (.reg [⟨(some 3), none, (.box 3 true (.t 0))⟩, ⟨(some 5), none, (.box 2 true (.t 2))⟩, ⟨(some 6), none, (.alloc [.nilS, .nilS, .nilS])⟩]) (.seq (.reg [⟨(some 10), none, (.fa 0 (.t 3))⟩, ⟨(some 11), none, (.ld true 2 (.t 10))⟩, ⟨(some 12), none, (.call 89 [(.t 11)])⟩, ⟨(some 13), none, (.build [.nilS, .nilS, .nilS] [(0, (2, (.t 12)))])⟩, ⟨(some 7), none, (.alloc [.nilS, .nilS, .nilS])⟩, ⟨none, none, (.st 3 (.t 7) (.t 13))⟩]) (.seq (.seq (.reg [⟨(some 8), none, (.mv (.c (.int .i64 0)))⟩]) (.blk 0 (.loop (.seq (.seq (.reg [⟨(some 14), none, (.mv (.t 8))⟩, ⟨(some 15), none, (.fa 2 (.t 3))⟩, ⟨(some 16), none, (.ld false 1 (.t 15))⟩, ⟨(some 17), none, (.len (.t 16))⟩, ⟨(some 18), none, (.bin .lss (.t 14) (.t 17))⟩]) (.cond (.t 18) .skip (.exit 0))) (.seq (.blk 1 (.seq (.reg [⟨(some 21), none, (.fa 2 (.t 3))⟩, ⟨(some 22), none, (.ld false 1 (.t 21))⟩, ⟨(some 23), none, (.mv (.t 8))⟩, ⟨(some 24), none, (.ia 2 (.t 22) (.t 23))⟩, ⟨(some 25), none, (.ld true 2 (.t 24))⟩, ⟨(some 9), none, (.alloc [(.int .i64 0), .nilS])⟩, ⟨none, none, (.st 2 (.t 9) (.t 25))⟩]) (.seq (.seq (.reg [⟨(some 26), none, (.mv (.t 8))⟩, ⟨(some 27), none, (.mv (.t 1))⟩, ⟨(some 28), none, (.bin .eql (.t 26) (.t 27))⟩]) (.cond (.t 28) (.reg [⟨(some 29), none, (.ld true 2 (.t 5))⟩, ⟨none, none, (.st 2 (.t 9) (.t 29))⟩]) .skip)) (.dreg [⟨(some 30), none, (.fa 2 (.t 7))⟩, ⟨(some 31), none, (.ld false 1 (.t 30))⟩, ⟨(some 32), none, (.fa 0 (.t 9))⟩, ⟨(some 33), none, (.ld false 1 (.t 32))⟩, ⟨(some 34), none, (.fa 1 (.t 9))⟩, ⟨(some 35), none, (.ld false 1 (.t 34))⟩, ⟨(some 36), none, (.call 76 [(.t 35)])⟩, ⟨(some 37), none, (.build [(.int .i64 0), .nilS] [(0, (1, (.t 33))), (1, (1, (.t 36)))])⟩, ⟨(some 38), none, (.bsl 2 [(.int .i64 0), .nilS] 1 [(0, (.t 37))])⟩, ⟨(some 39), none, (.app 2 32 [(.int .i64 0), .nilS] (.t 31) (.t 38))⟩, ⟨(some 40), none, (.fa 2 (.t 7))⟩, ⟨none, none, (.st 1 (.t 40) (.t 39))⟩] [[], [0], [], [2], [], [4], [4, 5], [2, 3, 4, 5, 6], [2, 3, 4, 5, 6, 7], [0, 1, 2, 3, 4, 5, 6, 7, 8], [0, 1, 2, 3, 4, 5, 6, 7, 8, 9], [0, 1, 2, 3, 4, 5, 6, 7, 8, 9, 10]])))) (.reg [⟨(some 19), none, (.mv (.t 8))⟩, ⟨(some 20), none, (.bin .add (.t 19) (.c (.int .i64 1)))⟩, ⟨(some 8), none, (.mv (.t 20))⟩])))))) (.seq (.reg [⟨(some 41), none, (.ld true 3 (.t 7))⟩, ⟨none, none, (.st 3 (.t 6) (.t 41))⟩]) .ret))))
def ro50 : List AOp := [(.ld true 3 (.t 6))]
theorem fun50 : Fun Try.prog 50 42 ac50 ro50 := ⟨Try.f50, _, Try.func50, by kernel_rfl, rfl, rfl, by kernel_rfl, by kernel_rfl, by decide⟩

theorem nD_rn {π : Nat → Nat} {b b' : Nat} {L : List Dn} (h : ∀ j, j < L.length → π (b + j) = b' + j) : (nR hD b L L.length z0).map (fun row => rnL π row) = nR hD b' L L.length z0 := by
  unfold nR
  rw [List.map_map]
  refine List.map_congr_left fun j hj => ?_
  have hj2 := List.mem_range.1 hj
  simp only [Function.comp, if_pos hj2, hD.rn, Ab.rn, h j hj2]
theorem nD_app {b : Nat} {L : List Dn} {x : Dn} : nR hD b (L ++ [x]) (L ++ [x]).length z0 = nR hD b L L.length z0 ++ [[.int .i64 x.d.f, .sl (b + L.length) 1 0 x.d.ws.length]] := by
  refine List.ext_getElem? fun j => ?_
  rcases Nat.lt_trichotomy j L.length with h | h | h
  · rw [nR_row (by simp; omega), List.getElem?_append_left (by rw [nR_len]; exact h), nR_row h]
    have e : (L ++ [x]).getD j default = L.getD j default := by simp [List.getD_eq_getElem?_getD, List.getElem?_append_left h]
    rw [e]
  · subst h
    rw [nR_row (by simp), List.getElem?_append_right (by rw [nR_len]; exact Nat.le_refl _), nR_len, Nat.sub_self]
    have e : (L ++ [x]).getD L.length default = x := by simp [List.getD_eq_getElem?_getD]
    rw [e]; rfl
  · rw [List.getElem?_eq_none (by rw [nR_len]; simp; omega), List.getElem?_eq_none (by simp [nR_len]; omega)]
theorem djB1 {a b : Nat} (h : a ≠ b) : djB [a] [b] = true := by simp [djB, h]
theorem hokX {W6 W8 W9 W11 r0 r1 r2 r3 r4 r5 r6 r7 r8 r9 r10 r11 : List Nat} (h1 : djB W6 r0 = true) (h2 : djB W6 r1 = true) (h3 : djB W6 r2 = true) (h4 : djB W6 r3 = true) (h5 : djB W8 r0 = true) (h6 : djB W8 r1 = true) : hokB [[], [0], [], [2], [], [4], [4, 5], [2, 3, 4, 5, 6], [2, 3, 4, 5, 6, 7], [0, 1, 2, 3, 4, 5, 6, 7, 8], [0, 1, 2, 3, 4, 5, 6, 7, 8, 9], [0, 1, 2, 3, 4, 5, 6, 7, 8, 9, 10]] [([], r0), ([], r1), ([], r2), ([], r3), ([], r4), ([], r5), (W6, r6), ([], r7), (W8, r8), (W9, r9), ([], r10), (W11, r11)] = true := by
  have e : ∀ l : List Nat, djB [] l = true := fun l => rfl
  have e2 : ∀ l : List Nat, djB l [] = true := fun l => by simp [djB]
  simp [hokB, List.range, List.range.loop, e, e2, h1, h2, h3, h4, h5, h6]
theorem pi_X (i : Nat) : ∃ π : Nat → Nat, π 6 = i + 7 + 1 + 1 + 1 ∧ π (i + 7) = i + 7 + 1 ∧ ∀ y, y ≠ 6 → y ≠ i + 7 → π y = y := by
  refine ⟨fun y => if y = 6 then i + 7 + 1 + 1 + 1 else if y = i + 7 then i + 7 + 1 else y, if_pos rfl, ?_, fun y h1 h2 => ?_⟩
  · show (if i + 7 = 6 then _ else if i + 7 = i + 7 then _ else _) = _
    rw [if_neg (by omega), if_pos rfl]
  · show (if y = 6 then _ else if y = i + 7 then _ else _) = _
    rw [if_neg h1, if_neg h2]
theorem inj_X {i : Nat} {π : Nat → Nat} (p1 : π 6 = i + 7 + 1 + 1 + 1) (p2 : π (i + 7) = i + 7 + 1) (p3 : ∀ y, y ≠ 6 → y ≠ i + 7 → π y = y) {y y' : Nat} (h1 : y < i + 8) (h2 : y' < i + 8) (h : π y = π y') : y = y' := by
  have hcs : ∀ r, (r = 6 ∧ π r = i + 7 + 1 + 1 + 1) ∨ (r = i + 7 ∧ π r = i + 7 + 1) ∨ (r ≠ 6 ∧ r ≠ i + 7 ∧ π r = r) := fun r => by
    by_cases g1 : r = 6
    · exact .inl ⟨g1, by rw [g1, p1]⟩
    · by_cases g2 : r = i + 7
      · exact .inr (.inl ⟨g2, by rw [g2, p2]⟩)
      · exact .inr (.inr ⟨g1, g2, p3 r g1 g2⟩)
  have k1 := hcs y
  have k2 := hcs y'
  omega
def oV (n : Nat) : AV := if n = 0 then .nilS else .sl 6 2 0 n
def oR (L : List Dn) : Option Ab.Rows := if L.length = 0 then none else some (nR hD 7 L L.length z0)
/-- While the list is made anew. -/
def hX (a b : Nat) (L : List Dn) (B : List (Nat × Option Ab.Rows)) : List (Nat × Option Ab.Rows) := (5, some [[.sl 3 2 0 a, .sl 4 2 0 b, oV L.length]]) :: (6, oR L) :: (mkh 7 (nO hD L L.length) ++ B)
section
variable {a b : Nat} {L : List Dn} {B : List (Nat × Option Ab.Rows)}
theorem hX_5 : hg (hX a b L B) 5 = some [[.sl 3 2 0 a, .sl 4 2 0 b, oV L.length]] := hg_here
theorem hX_6 (h : L.length ≠ 0) : hg (hX a b L B) 6 = some (nR hD 7 L L.length z0) := hg_skip (by decide) (hg_here.trans (if_neg h))
theorem hX_j {j : Nat} (h : j < L.length) : hg (hX a b L B) (7 + j) = some ((L.getD j default).d.ws.map iRow) := hg_skip (by omega) (hg_skip (by omega) (hg_in (by omega) (by rw [Nat.add_sub_cancel_left]; exact nO_get (K := hD) h (Nat.le_refl _))))
theorem hX_B {y : Nat} {rows : Option Ab.Rows} (h : y < 5) (h2 : hg B y = rows) : hg (hX a b L B) y = rows := hg_skip (by omega) (hg_skip (by omega) (hg_out (fun hc => by have := hc.1; omega) h2))
theorem hX_cs {y : Nat} {rows : Ab.Rows} (h : hg (hX a b L B) y = some rows) : (y = 5 ∧ rows = [[.sl 3 2 0 a, .sl 4 2 0 b, oV L.length]]) ∨ (y = 6 ∧ L.length ≠ 0 ∧ rows = nR hD 7 L L.length z0) ∨ (∃ j, j < L.length ∧ y = 7 + j ∧ rows = (L.getD j default).d.ws.map iRow) ∨ (y ≠ 5 ∧ y ≠ 6 ∧ hg B y = some rows) := by
  unfold hX at h
  by_cases e : y = 5
  · subst e
    exact .inl ⟨rfl, (Option.some.inj (hg_here.symm.trans h)).symm⟩
  by_cases e6 : y = 6
  · subst e6
    have h2 : oR L = some rows := by simpa [Ab.hg, upd] using h
    unfold oR at h2
    split at h2
    · cases h2
    · rename_i hn
      exact .inr (.inl ⟨rfl, hn, (Option.some.inj h2).symm⟩)
  have h2 : hg (mkh 7 (nO hD L L.length) ++ B) y = some rows := by simpa [Ab.hg, upd, e, e6] using h
  rw [hg_app, nO_len (Nat.le_refl _)] at h2
  split at h2
  · rename_i hc
    refine .inr (.inr (.inl ⟨y - 7, by omega, by omega, ?_⟩))
    rw [nO_get (by omega) (Nat.le_refl _)] at h2
    exact (Option.some.inj h2).symm
  · exact .inr (.inr (.inr ⟨e, e6, h2⟩))
theorem oV_ltr {n m : Nat} (h : 7 ≤ m) : AV.ltr m (oV n) = true := by
  unfold oV
  split
  · rfl
  · simp [AV.ltr]; omega
theorem hX_wf {nr : Nat} (hB : wfH B 5) (h : 7 + L.length ≤ nr) : wfH (hX a b L B) nr := by
  intro y rows hy
  rcases hX_cs hy with ⟨rfl, rfl⟩ | ⟨rfl, _, rfl⟩ | ⟨j, hj, rfl, rfl⟩ | ⟨_, _, h2⟩
  · refine ⟨by omega, fun row hr x hx => ?_⟩
    simp only [List.mem_cons, List.not_mem_nil, or_false] at hr
    subst hr
    simp only [List.mem_cons, List.not_mem_nil, or_false] at hx
    rcases hx with rfl | rfl | rfl
    · simp [AV.ltr]; omega
    · simp [AV.ltr]; omega
    · exact oV_ltr (by omega)
  · exact ⟨by omega, nR_ltr (by omega) (fun x _ y hy => by
      simp only [z0, List.mem_cons, List.not_mem_nil, or_false] at hy
      rcases hy with rfl | rfl <;> rfl)⟩
  · exact ⟨by omega, ltrI _ _⟩
  · have := hB y rows h2
    exact ⟨by omega, (wfH_le hB (show 5 ≤ nr by omega) y rows h2).2⟩
/-- One element more. -/
theorem hX_up {x : Dn} {H : List (Nat × Option Ab.Rows)} {N : Nat} {π : Nat → Nat} (hN : N = L.length + 7) (hB : ∀ y rows, hg B y = some rows → y < 5 ∧ rows.map (fun row => rnL π row) = rows)
    (p1 : π 6 = N + 1 + 1 + 1) (p2 : π N = N + 1) (p3 : ∀ y, y ≠ 6 → y ≠ N → π y = y)
    (h5 : hg H 5 = some [[.sl 3 2 0 a, .sl 4 2 0 b, .sl (N + 1 + 1 + 1) 2 0 (L.length + 1)]]) (h6 : hg H (N + 1 + 1 + 1) = some (nR hD 7 L L.length z0 ++ [[.int .i64 x.d.f, .sl (N + 1) 1 0 x.d.ws.length]])) (hx : hg H (N + 1) = some (x.d.ws.map iRow)) (hold : ∀ y rows, y ≠ 5 → y ≠ 6 → y < N → hg (hX a b L B) y = some rows → hg H y = some rows) :
    ∀ y rows, hg (hX a b (L ++ [x]) B) y = some rows → hg H (π y) = some (rows.map fun row => rnL π row) := by
  intro y rows hy
  have hl : (L ++ [x]).length = L.length + 1 := by simp
  rcases hX_cs hy with ⟨rfl, rfl⟩ | ⟨rfl, _, rfl⟩ | ⟨j, hj, rfl, rfl⟩ | ⟨e1, e2, h2⟩
  · rw [p3 5 (by omega) (by omega), h5, hl]
    have : oV (L.length + 1) = .sl 6 2 0 (L.length + 1) := if_neg (by omega)
    rw [this]
    show _ = some [[AV.sl (π 3) 2 0 a, AV.sl (π 4) 2 0 b, AV.sl (π 6) 2 0 (L.length + 1)]]
    rw [p1, p3 3 (by omega) (by omega), p3 4 (by omega) (by omega)]
  · rw [p1, h6, nD_app, List.map_append, nD_rn (b' := 7) (fun j hj => p3 _ (by omega) (by omega))]
    show _ = some (_ ++ [[AV.int .i64 x.d.f, AV.sl (π _) 1 0 _]])
    rw [show 7 + L.length = N by omega, p2]
  · rw [hl] at hj
    rw [← rn_rows (rowsP _)]
    by_cases e : j = L.length
    · subst e
      rw [show 7 + L.length = N by omega, p2, hx]
      simp [List.getD_eq_getElem?_getD]
    · rw [p3 _ (by omega) (by omega)]
      have e2 : (L ++ [x]).getD j default = L.getD j default := by simp [List.getD_eq_getElem?_getD, List.getElem?_append_left (show j < L.length by omega)]
      rw [e2]
      exact hold _ _ (by omega) (by omega) (by omega) (hX_j (by omega))
  · obtain ⟨k1, k2⟩ := hB y rows h2
    rw [p3 y (by omega) (by omega), k2]
    exact hold _ _ e1 e2 (by omega) (hX_B k1 h2)
end
theorem con50 (r : Rc) (xs : List Dn) (h1 : r.cs.length ≤ 1048576) (h2 : r.xs.length ≤ 1048576) (h3 : xs.length ≤ 1048576) (hL : LenN xs 1048576) {k : Nat} (hk : k < xs.length) (d : Ds) (hd : d.ws.length ≤ 1048576) : ConG Try.prog 50 true [.agg (dtR true true true r xs), .int .i64 (k : Int), .agg (dRow true d)] (dtV 0 r (sx xs k d)) (dtO r (sx xs k d)) := by
  refine con_of_wpG mixed fun50 (by simp) ((List.range ((sx xs k d).length + 3)).map (fun i => if i < 2 then i + 3 else i + 4)) (dtO_nest r (sx xs k d)) ?_
  unfold ac50 ro50
  simp only [zipT]
  have hxl := sx_len xs k d
  have c1 := con89 r h1 h2
  obtain ⟨B, hBd⟩ : ∃ B : List (Nat × Option Ab.Rows), B = [(3, some (r.cs.map cRow)), (4, some (r.xs.map xRow)), (2, some [[.nilS, .nilS, .nilS]]), (1, some [dRow true d]), (0, some [dtR true true true r xs])] := ⟨_, rfl⟩
  have hB0 : hg B 0 = some [dtR true true true r xs] := by subst hBd; rfl
  have hB1 : hg B 1 = some [dRow true d] := by subst hBd; rfl
  have hB2 : hg B 2 = some [[.nilS, .nilS, .nilS]] := by subst hBd; rfl
  have hB3 : hg B 3 = some (r.cs.map cRow) := by subst hBd; rfl
  have hB4 : hg B 4 = some (r.xs.map xRow) := by subst hBd; rfl
  have hBw : wfH B 5 := by
    subst hBd
    exact wfH_cons (by omega) (ltrK _ _) (wfH_cons (by omega) (ltrX _ _) (wfH_cons (by omega) (by simp [AV.ltr]) (wfH_cons (by omega) (by simp [dRow, AV.ltr]) (wfH_cons (by omega) (by simp [dtR, AV.ltr]) wfH_nil))))
  have hBr : ∀ (π : Nat → Nat) y rows, hg B y = some rows → y < 5 ∧ rows.map (fun row => rnL π row) = rows := fun π y rows hy => by
    refine ⟨(hBw y rows hy).1, ?_⟩
    rw [hBd] at hy
    have hm := hg_memL _ hy
    simp only [List.mem_cons, List.not_mem_nil, or_false, Prod.mk.injEq, Option.some.injEq] at hm
    rcases hm with ⟨_, rfl⟩ | ⟨_, rfl⟩ | ⟨_, rfl⟩ | ⟨_, rfl⟩ | ⟨_, rfl⟩
    · exact (rn_rows (cRowsP _)).symm
    · exact (rn_rows (xRowsP _)).symm
    · rfl
    · rfl
    · rfl
  repeat (first | refine wG_call2 c1 rfl rfl ?_ | (first
    | refine wC_a rfl ?_
    | refine q_s rfl ?_
    | refine q_b rfl ?_
    | refine wG_nil ?_
    | refine wG_g rfl ?_
    | refine wG_pure (o_len_vwm rfl) ?_
    | refine wG_pure (o_not_d rfl) ?_
    | refine wG_p rfl (by first | exact rfl | omega) ?_
    | refine wG_pure (o_str2 rfl rfl rfl) ?_
    | refine wG_pure (e_istr rfl rfl (by omega)) ?_
    | refine wG_pure (e_istr0 rfl rfl (by omega)) ?_
    | refine wG_pure (o_not rfl) ?_
    | refine wG_pure (e_ia_vw0 rfl rfl (by omega) rfl) ?_
    | refine wG_pure (e_ia_vwp rfl rfl (by omega) rfl) ?_
    | refine wG_pure (e_ia_vwm rfl rfl (by omega) (by omega) rfl) ?_
    | refine wG_pure (e_ia_vwi rfl rfl (by omega) rfl) ?_
    | refine wG_pure (e_ia_vwn rfl rfl (by omega) (by omega) rfl) ?_
    | refine wG_n rfl rfl ?_
    | refine wG_u rfl rfl ?_
    | refine wG_new (o_mks rfl rfl (by omega) (by decide)) ?_))
  refine wC_loopX Nat (fun i => ⟨[(1, .int .i64 (k : Int)), (3, .pt 0 0 0), (5, .pt 1 0 0), (6, .pt 2 0 0), (7, .pt 5 0 0), (8, .int .i64 (i : Int))], hX r.cs.length r.xs.length ((sx xs k d).take i) B, i + 7⟩) (fun i => i ≤ xs.length) (fun i => xs.length - i) 0 (Nat.zero_le _) ?_ ?_
  · refine .inl (Le_of ⟨⟨rfl, rfl⟩, ⟨rfl, rfl⟩, ⟨rfl, rfl⟩, ⟨rfl, rfl⟩, ⟨rfl, rfl⟩, ⟨rfl, rfl⟩, trivial⟩ (fun y rows hy => ?_) (hX_wf hBw (by simp)))
    rcases hX_cs hy with ⟨rfl, rfl⟩ | ⟨rfl, hc, rfl⟩ | ⟨j, hj, rfl, rfl⟩ | ⟨e1, e2, e3⟩
    · rfl
    · exact absurd rfl hc
    · exact absurd hj (Nat.not_lt_zero _)
    · have := (hBw y rows e3).1
      rw [hBd] at e3
      exact hg_skip (by omega) (hg_skip (by omega) e3)
  intro i hi
  have hpl : ((sx xs k d).take i).length = i := by rw [List.length_take, hxl]; omega
  repeat (first | refine wG_pure (o_ldf_pt rfl (hX_B (by decide) hB0) rfl rfl) ?_ | (first
    | refine wC_a rfl ?_
    | refine q_s rfl ?_
    | refine q_b rfl ?_
    | refine wG_nil ?_
    | refine wG_g rfl ?_
    | refine wG_pure (o_len_vwm rfl) ?_
    | refine wG_pure (o_not_d rfl) ?_
    | refine wG_p rfl (by first | exact rfl | omega) ?_
    | refine wG_pure (o_str2 rfl rfl rfl) ?_
    | refine wG_pure (e_istr rfl rfl (by omega)) ?_
    | refine wG_pure (e_istr0 rfl rfl (by omega)) ?_
    | refine wG_pure (o_not rfl) ?_
    | refine wG_pure (e_ia_vw0 rfl rfl (by omega) rfl) ?_
    | refine wG_pure (e_ia_vwp rfl rfl (by omega) rfl) ?_
    | refine wG_pure (e_ia_vwm rfl rfl (by omega) (by omega) rfl) ?_
    | refine wG_pure (e_ia_vwi rfl rfl (by omega) rfl) ?_
    | refine wG_pure (e_ia_vwn rfl rfl (by omega) (by omega) rfl) ?_
    | refine wG_n rfl rfl ?_
    | refine wG_u rfl rfl ?_
    | refine wG_new (o_mks rfl rfl (by omega) (by decide)) ?_))
  refine wC_cond_d rfl (fun h5 => ?_) (fun h5 => ?_)
  · have hi2 : i < xs.length := by omega
    have hget := sx_get (i := k) (d := d) hi2
    have htk : (sx xs k d).take (i + 1) = (sx xs k d).take i ++ [(sx xs k d).getD i default] := by
      rw [List.take_succ_eq_append_getElem (by rw [hxl]; exact hi2)]
      simp [List.getD_eq_getElem?_getD, List.getElem?_eq_getElem (show i < (sx xs k d).length by rw [hxl]; exact hi2)]
    generalize hLL : (sx xs k d).take i = L at *
    generalize he : (sx xs k d).getD i default = e at *
    have hwN := hX_wf (a := r.cs.length) (b := r.xs.length) (L := L) (nr := i + 7) hBw (by omega)
    have hlL : e.d.ws.length ≤ 1048576 := by
      rw [hget]
      split
      · exact hd
      · exact hL i hi2
    have cO := con76 e.b e.d.ws hlL
    by_cases hik : i = k
    · have dk : decide ((i : Int) = (k : Int)) = true := decide_eq_true (by omega)
      rw [if_pos hik] at hget
      subst hget
      by_cases hz : i = 0
      · have h5o : hg (hX r.cs.length r.xs.length L B) 5 = some [[.sl 3 2 0 r.cs.length, .sl 4 2 0 r.xs.length, .nilS]] := by
          have := hX_5 (a := r.cs.length) (b := r.xs.length) (L := L) (B := B)
          rwa [show oV L.length = AV.nilS from if_pos (by omega)] at this
        repeat (first | refine wG_pure (o_ldf_pt rfl (hX_B (by decide) hB0) rfl rfl) ?_ | refine wG_upd (o_st_agg rfl hg_here rfl rfl rfl rfl rfl) ?_ | (first
    | refine wC_a rfl ?_
    | refine q_s rfl ?_
    | refine q_b rfl ?_
    | refine wG_nil ?_
    | refine wG_g rfl ?_
    | refine wG_pure (o_len_vwm rfl) ?_
    | refine wG_pure (o_not_d rfl) ?_
    | refine wG_p rfl (by first | exact rfl | omega) ?_
    | refine wG_pure (o_str2 rfl rfl rfl) ?_
    | refine wG_pure (e_istr rfl rfl (by omega)) ?_
    | refine wG_pure (e_istr0 rfl rfl (by omega)) ?_
    | refine wG_pure (o_not rfl) ?_
    | refine wG_pure (e_ia_vw0 rfl rfl (by omega) rfl) ?_
    | refine wG_pure (e_ia_vwp rfl rfl (by omega) rfl) ?_
    | refine wG_pure (e_ia_vwm rfl rfl (by omega) (by omega) rfl) ?_
    | refine wG_pure (e_ia_vwi rfl rfl (by omega) rfl) ?_
    | refine wG_pure (e_ia_vwn rfl rfl (by omega) (by omega) rfl) ?_
    | refine wG_n rfl rfl ?_
    | refine wG_u rfl rfl ?_
    | refine wG_new (o_mks rfl rfl (by omega) (by decide)) ?_))
        simp only [dk]
        repeat (first | refine wC_dregE ?_ | refine wG_pure (o_ldt_pt rfl (hg_skip (by omega) (hg_skip (by omega) (hX_B (by decide) hB1))) rfl rfl rfl) ?_ | refine wG_upd (o_st_agg rfl hg_here rfl rfl rfl rfl rfl) ?_ | refine wE_v (o_ldf_pt rfl (hg_skip (by omega) (hg_skip (by omega) (hg_skip (by omega) h5o))) rfl rfl) rfl ?_ | refine wE_v (o_ldf_pt rfl hg_here rfl rfl) rfl ?_ | refine wE_call1 cO rfl rfl rfl ?_ | refine wE_appn rfl (rows_sl rfl hg_here rfl) (by simp) (by simp) (by decide) rfl ?_ | refine wE_upd (o_st1 rfl (hg_skip (by omega) (hg_skip (by omega) (hg_skip (by omega) (hg_skip (by omega) (hg_skip (by omega) (hg_skip (by omega) h5o)))))) rfl rfl rfl rfl) rfl ?_ | refine wE_nil (hokX (djB1 (by omega)) (djB1 (by omega)) (djB1 (by omega)) (djB1 (by omega)) (djB1 (by omega)) (djB1 (by omega))) ?_ | (first
    | refine wC_a rfl ?_
    | refine q_s rfl ?_
    | refine q_b rfl ?_
    | refine wG_nil ?_
    | refine wG_g rfl ?_
    | refine wG_pure (o_len_vwm rfl) ?_
    | refine wG_pure (o_not_d rfl) ?_
    | refine wG_p rfl (by first | exact rfl | omega) ?_
    | refine wG_pure (o_str2 rfl rfl rfl) ?_
    | refine wG_pure (e_istr rfl rfl (by omega)) ?_
    | refine wG_pure (e_istr0 rfl rfl (by omega)) ?_
    | refine wG_pure (o_not rfl) ?_
    | refine wG_pure (e_ia_vw0 rfl rfl (by omega) rfl) ?_
    | refine wG_pure (e_ia_vwp rfl rfl (by omega) rfl) ?_
    | refine wG_pure (e_ia_vwm rfl rfl (by omega) (by omega) rfl) ?_
    | refine wG_pure (e_ia_vwi rfl rfl (by omega) rfl) ?_
    | refine wG_pure (e_ia_vwn rfl rfl (by omega) (by omega) rfl) ?_
    | refine wG_n rfl rfl ?_
    | refine wG_u rfl rfl ?_
    | refine wG_new (o_mks rfl rfl (by omega) (by decide)) ?_) | (first
    | refine wE_nil (by kernel_rfl) ?_
    | refine wE_gy rfl ?_
    | refine wE_gn rfl rfl rfl ?_
    | refine wE_gu rfl rfl ?_
    | refine wE_gnn rfl rfl rfl ?_
    | refine wE_v (o_len_vwm rfl) rfl ?_
    | refine wE_v (o_not_d rfl) rfl ?_
    | refine wE_p rfl (by first | exact rfl | omega) rfl ?_
    | refine wE_v (o_str2 rfl rfl rfl) rfl ?_
    | refine wE_v (e_istr rfl rfl (by omega)) rfl ?_
    | refine wE_v (e_istr0 rfl rfl (by omega)) rfl ?_
    | refine wE_v (o_not rfl) rfl ?_
    | refine wE_v (e_ia_vw0 rfl rfl (by omega) rfl) rfl ?_
    | refine wE_v (e_ia_vwp rfl rfl (by omega) rfl) rfl ?_
    | refine wE_v (e_ia_vwm rfl rfl (by omega) (by omega) rfl) rfl ?_
    | refine wE_v (e_ia_vwi rfl rfl (by omega) rfl) rfl ?_
    | refine wE_v (e_ia_vwn rfl rfl (by omega) (by omega) rfl) rfl ?_
    | refine wE_n rfl rfl rfl ?_
    | refine wE_u rfl rfl rfl ?_
    | refine wE_new (o_mks rfl rfl (by omega) (by decide)) rfl ?_))
        obtain ⟨π, p1, p2, p3⟩ : ∃ π : Nat → Nat, π 6 = i + 7 + 1 + 1 + 1 ∧ π (i + 7) = i + 7 + 1 ∧ ∀ y, y ≠ 6 → y ≠ i + 7 → π y = y := pi_X i
        refine ⟨i + 1, by omega, by omega, .inr ⟨π, LeR_of ⟨⟨rfl, rfl⟩, ⟨?_, rfl⟩, ⟨?_, rfl⟩, ⟨?_, rfl⟩, ⟨?_, by simp only [AV.ltr, decide_eq_true_eq]; show 5 < i + 1 + 7; omega⟩, ⟨rfl, rfl⟩, trivial⟩ (fun y rows hy => ?_) (hX_wf hBw (by show 7 + ((sx xs k d).take (i + 1)).length ≤ i + 1 + 7; rw [htk]; simp; omega)) (fun y y' a1 a2 a3 => ?_)⟩⟩
        · show AV.pt 0 0 0 = AV.pt (π 0) 0 0
          rw [p3 0 (by omega) (by omega)]
        · show AV.pt 1 0 0 = AV.pt (π 1) 0 0
          rw [p3 1 (by omega) (by omega)]
        · show AV.pt 2 0 0 = AV.pt (π 2) 0 0
          rw [p3 2 (by omega) (by omega)]
        · show AV.pt 5 0 0 = AV.pt (π 5) 0 0
          rw [p3 5 (by omega) (by omega)]
        · simp only at hy
          rw [htk] at hy
          refine hX_up (N := i + 7) (by omega) (hBr π) p1 p2 p3 ?_ ?_ ?_ (fun y rows' g1 g2 g3 g4 => ?_) y rows hy
          · exact hg_here.trans (by rw [show L.length + 1 = 1 from by omega]; rfl)
          · refine (hg_skip (by omega) hg_here).trans ?_
            have hL0 : L = [] := List.length_eq_zero_iff.1 (by omega)
            rw [hL0]; rfl
          · exact (hg_skip (by omega) (hg_skip (by omega) (hg_skip (by omega) hg_here)))
          · exact (hg_skip (by omega) (hg_skip (by omega) (hg_skip (by omega) (hg_skip (by omega) (hg_skip (by omega) (hg_skip (by omega) (hg_skip (by omega) g4)))))))
        · exact inj_X p1 p2 p3 (by have : y < i + 1 + 7 := a1; omega) (by have : y' < i + 1 + 7 := a2; omega) a3
      · have hne : L.length ≠ 0 := by omega
        have h5o : hg (hX r.cs.length r.xs.length L B) 5 = some [[.sl 3 2 0 r.cs.length, .sl 4 2 0 r.xs.length, .sl 6 2 0 L.length]] := by
          have := hX_5 (a := r.cs.length) (b := r.xs.length) (L := L) (B := B)
          rwa [show oV L.length = AV.sl 6 2 0 L.length from if_neg hne] at this
        repeat (first | refine wG_pure (o_ldf_pt rfl (hX_B (by decide) hB0) rfl rfl) ?_ | refine wG_upd (o_st_agg rfl hg_here rfl rfl rfl rfl rfl) ?_ | (first
    | refine wC_a rfl ?_
    | refine q_s rfl ?_
    | refine q_b rfl ?_
    | refine wG_nil ?_
    | refine wG_g rfl ?_
    | refine wG_pure (o_len_vwm rfl) ?_
    | refine wG_pure (o_not_d rfl) ?_
    | refine wG_p rfl (by first | exact rfl | omega) ?_
    | refine wG_pure (o_str2 rfl rfl rfl) ?_
    | refine wG_pure (e_istr rfl rfl (by omega)) ?_
    | refine wG_pure (e_istr0 rfl rfl (by omega)) ?_
    | refine wG_pure (o_not rfl) ?_
    | refine wG_pure (e_ia_vw0 rfl rfl (by omega) rfl) ?_
    | refine wG_pure (e_ia_vwp rfl rfl (by omega) rfl) ?_
    | refine wG_pure (e_ia_vwm rfl rfl (by omega) (by omega) rfl) ?_
    | refine wG_pure (e_ia_vwi rfl rfl (by omega) rfl) ?_
    | refine wG_pure (e_ia_vwn rfl rfl (by omega) (by omega) rfl) ?_
    | refine wG_n rfl rfl ?_
    | refine wG_u rfl rfl ?_
    | refine wG_new (o_mks rfl rfl (by omega) (by decide)) ?_))
        simp only [dk]
        repeat (first | refine wC_dregE ?_ | refine wG_pure (o_ldt_pt rfl (hg_skip (by omega) (hg_skip (by omega) (hX_B (by decide) hB1))) rfl rfl rfl) ?_ | refine wG_upd (o_st_agg rfl hg_here rfl rfl rfl rfl rfl) ?_ | refine wE_v (o_ldf_pt rfl (hg_skip (by omega) (hg_skip (by omega) (hg_skip (by omega) h5o))) rfl rfl) rfl ?_ | refine wE_v (o_ldf_pt rfl hg_here rfl rfl) rfl ?_ | refine wE_call1 cO rfl rfl rfl ?_ | refine wE_app (n := L.length) rfl (hg_skip (by omega) (hg_skip (by omega) (hg_skip (by omega) (hg_skip (by omega) (hg_skip (by omega) (hX_6 hne)))))) (by rw [nR_len]) (rows_sl rfl hg_here rfl) (by simp) (by rw [show ∀ a : List AV, [a].length = 1 from fun _ => rfl]; omega) (by decide) rfl ?_ | refine wE_upd (o_st1 rfl (hg_skip (by omega) (hg_skip (by omega) (hg_skip (by omega) (hg_skip (by omega) (hg_skip (by omega) (hg_skip (by omega) (hg_skip (by omega) h5o))))))) rfl rfl rfl rfl) rfl ?_ | refine wE_nil (hokX (djB1 (by omega)) (djB1 (by omega)) (djB1 (by omega)) (djB1 (by omega)) (djB1 (by omega)) (djB1 (by omega))) ?_ | (first
    | refine wC_a rfl ?_
    | refine q_s rfl ?_
    | refine q_b rfl ?_
    | refine wG_nil ?_
    | refine wG_g rfl ?_
    | refine wG_pure (o_len_vwm rfl) ?_
    | refine wG_pure (o_not_d rfl) ?_
    | refine wG_p rfl (by first | exact rfl | omega) ?_
    | refine wG_pure (o_str2 rfl rfl rfl) ?_
    | refine wG_pure (e_istr rfl rfl (by omega)) ?_
    | refine wG_pure (e_istr0 rfl rfl (by omega)) ?_
    | refine wG_pure (o_not rfl) ?_
    | refine wG_pure (e_ia_vw0 rfl rfl (by omega) rfl) ?_
    | refine wG_pure (e_ia_vwp rfl rfl (by omega) rfl) ?_
    | refine wG_pure (e_ia_vwm rfl rfl (by omega) (by omega) rfl) ?_
    | refine wG_pure (e_ia_vwi rfl rfl (by omega) rfl) ?_
    | refine wG_pure (e_ia_vwn rfl rfl (by omega) (by omega) rfl) ?_
    | refine wG_n rfl rfl ?_
    | refine wG_u rfl rfl ?_
    | refine wG_new (o_mks rfl rfl (by omega) (by decide)) ?_) | (first
    | refine wE_nil (by kernel_rfl) ?_
    | refine wE_gy rfl ?_
    | refine wE_gn rfl rfl rfl ?_
    | refine wE_gu rfl rfl ?_
    | refine wE_gnn rfl rfl rfl ?_
    | refine wE_v (o_len_vwm rfl) rfl ?_
    | refine wE_v (o_not_d rfl) rfl ?_
    | refine wE_p rfl (by first | exact rfl | omega) rfl ?_
    | refine wE_v (o_str2 rfl rfl rfl) rfl ?_
    | refine wE_v (e_istr rfl rfl (by omega)) rfl ?_
    | refine wE_v (e_istr0 rfl rfl (by omega)) rfl ?_
    | refine wE_v (o_not rfl) rfl ?_
    | refine wE_v (e_ia_vw0 rfl rfl (by omega) rfl) rfl ?_
    | refine wE_v (e_ia_vwp rfl rfl (by omega) rfl) rfl ?_
    | refine wE_v (e_ia_vwm rfl rfl (by omega) (by omega) rfl) rfl ?_
    | refine wE_v (e_ia_vwi rfl rfl (by omega) rfl) rfl ?_
    | refine wE_v (e_ia_vwn rfl rfl (by omega) (by omega) rfl) rfl ?_
    | refine wE_n rfl rfl rfl ?_
    | refine wE_u rfl rfl rfl ?_
    | refine wE_new (o_mks rfl rfl (by omega) (by decide)) rfl ?_))
        obtain ⟨π, p1, p2, p3⟩ : ∃ π : Nat → Nat, π 6 = i + 7 + 1 + 1 + 1 ∧ π (i + 7) = i + 7 + 1 ∧ ∀ y, y ≠ 6 → y ≠ i + 7 → π y = y := pi_X i
        refine ⟨i + 1, by omega, by omega, .inr ⟨π, LeR_of ⟨⟨rfl, rfl⟩, ⟨?_, rfl⟩, ⟨?_, rfl⟩, ⟨?_, rfl⟩, ⟨?_, by simp only [AV.ltr, decide_eq_true_eq]; show 5 < i + 1 + 7; omega⟩, ⟨rfl, rfl⟩, trivial⟩ (fun y rows hy => ?_) (hX_wf hBw (by show 7 + ((sx xs k d).take (i + 1)).length ≤ i + 1 + 7; rw [htk]; simp; omega)) (fun y y' a1 a2 a3 => ?_)⟩⟩
        · show AV.pt 0 0 0 = AV.pt (π 0) 0 0
          rw [p3 0 (by omega) (by omega)]
        · show AV.pt 1 0 0 = AV.pt (π 1) 0 0
          rw [p3 1 (by omega) (by omega)]
        · show AV.pt 2 0 0 = AV.pt (π 2) 0 0
          rw [p3 2 (by omega) (by omega)]
        · show AV.pt 5 0 0 = AV.pt (π 5) 0 0
          rw [p3 5 (by omega) (by omega)]
        · simp only at hy
          rw [htk] at hy
          refine hX_up (N := i + 7) (by omega) (hBr π) p1 p2 p3 ?_ ?_ ?_ (fun y rows' g1 g2 g3 g4 => ?_) y rows hy
          · exact hg_here.trans (by rw [show L.length + 1 = L.length + 1 from by omega]; rfl)
          · exact hg_skip (by omega) (hg_skip (by omega) hg_here)
          · exact (hg_skip (by omega) (hg_skip (by omega) (hg_skip (by omega) (hg_skip (by omega) hg_here))))
          · exact (hg_skip (by omega) (hg_skip (by omega) (hg_skip (by omega) (hg_skip (by omega) (hg_skip (by omega) (hg_skip (by omega) (hg_skip (by omega) (hg_skip (by omega) g4))))))))
        · exact inj_X p1 p2 p3 (by have : y < i + 1 + 7 := a1; omega) (by have : y' < i + 1 + 7 := a2; omega) a3
    · have dk : decide ((i : Int) = (k : Int)) = false := decide_eq_false (by omega)
      rw [if_neg hik] at hget
      subst hget
      by_cases hz : i = 0
      · have h5o : hg (hX r.cs.length r.xs.length L B) 5 = some [[.sl 3 2 0 r.cs.length, .sl 4 2 0 r.xs.length, .nilS]] := by
          have := hX_5 (a := r.cs.length) (b := r.xs.length) (L := L) (B := B)
          rwa [show oV L.length = AV.nilS from if_pos (by omega)] at this
        repeat (first | refine wG_pure (o_ldf_pt rfl (hX_B (by decide) hB0) rfl rfl) ?_ | refine wG_upd (o_st_agg rfl hg_here rfl rfl rfl rfl rfl) ?_ | (first
    | refine wC_a rfl ?_
    | refine q_s rfl ?_
    | refine q_b rfl ?_
    | refine wG_nil ?_
    | refine wG_g rfl ?_
    | refine wG_pure (o_len_vwm rfl) ?_
    | refine wG_pure (o_not_d rfl) ?_
    | refine wG_p rfl (by first | exact rfl | omega) ?_
    | refine wG_pure (o_str2 rfl rfl rfl) ?_
    | refine wG_pure (e_istr rfl rfl (by omega)) ?_
    | refine wG_pure (e_istr0 rfl rfl (by omega)) ?_
    | refine wG_pure (o_not rfl) ?_
    | refine wG_pure (e_ia_vw0 rfl rfl (by omega) rfl) ?_
    | refine wG_pure (e_ia_vwp rfl rfl (by omega) rfl) ?_
    | refine wG_pure (e_ia_vwm rfl rfl (by omega) (by omega) rfl) ?_
    | refine wG_pure (e_ia_vwi rfl rfl (by omega) rfl) ?_
    | refine wG_pure (e_ia_vwn rfl rfl (by omega) (by omega) rfl) ?_
    | refine wG_n rfl rfl ?_
    | refine wG_u rfl rfl ?_
    | refine wG_new (o_mks rfl rfl (by omega) (by decide)) ?_))
        simp only [dk]
        repeat (first | refine wC_dregE ?_ | refine wG_pure (o_ldt_pt rfl (hg_skip (by omega) (hg_skip (by omega) (hX_B (by decide) hB1))) rfl rfl rfl) ?_ | refine wG_upd (o_st_agg rfl hg_here rfl rfl rfl rfl rfl) ?_ | refine wE_v (o_ldf_pt rfl (hg_skip (by omega) (hg_skip (by omega) h5o)) rfl rfl) rfl ?_ | refine wE_v (o_ldf_pt rfl hg_here rfl rfl) rfl ?_ | refine wE_call1 cO rfl rfl rfl ?_ | refine wE_appn rfl (rows_sl rfl hg_here rfl) (by simp) (by simp) (by decide) rfl ?_ | refine wE_upd (o_st1 rfl (hg_skip (by omega) (hg_skip (by omega) (hg_skip (by omega) (hg_skip (by omega) (hg_skip (by omega) h5o))))) rfl rfl rfl rfl) rfl ?_ | refine wE_nil (hokX (djB1 (by omega)) (djB1 (by omega)) (djB1 (by omega)) (djB1 (by omega)) (djB1 (by omega)) (djB1 (by omega))) ?_ | (first
    | refine wC_a rfl ?_
    | refine q_s rfl ?_
    | refine q_b rfl ?_
    | refine wG_nil ?_
    | refine wG_g rfl ?_
    | refine wG_pure (o_len_vwm rfl) ?_
    | refine wG_pure (o_not_d rfl) ?_
    | refine wG_p rfl (by first | exact rfl | omega) ?_
    | refine wG_pure (o_str2 rfl rfl rfl) ?_
    | refine wG_pure (e_istr rfl rfl (by omega)) ?_
    | refine wG_pure (e_istr0 rfl rfl (by omega)) ?_
    | refine wG_pure (o_not rfl) ?_
    | refine wG_pure (e_ia_vw0 rfl rfl (by omega) rfl) ?_
    | refine wG_pure (e_ia_vwp rfl rfl (by omega) rfl) ?_
    | refine wG_pure (e_ia_vwm rfl rfl (by omega) (by omega) rfl) ?_
    | refine wG_pure (e_ia_vwi rfl rfl (by omega) rfl) ?_
    | refine wG_pure (e_ia_vwn rfl rfl (by omega) (by omega) rfl) ?_
    | refine wG_n rfl rfl ?_
    | refine wG_u rfl rfl ?_
    | refine wG_new (o_mks rfl rfl (by omega) (by decide)) ?_) | (first
    | refine wE_nil (by kernel_rfl) ?_
    | refine wE_gy rfl ?_
    | refine wE_gn rfl rfl rfl ?_
    | refine wE_gu rfl rfl ?_
    | refine wE_gnn rfl rfl rfl ?_
    | refine wE_v (o_len_vwm rfl) rfl ?_
    | refine wE_v (o_not_d rfl) rfl ?_
    | refine wE_p rfl (by first | exact rfl | omega) rfl ?_
    | refine wE_v (o_str2 rfl rfl rfl) rfl ?_
    | refine wE_v (e_istr rfl rfl (by omega)) rfl ?_
    | refine wE_v (e_istr0 rfl rfl (by omega)) rfl ?_
    | refine wE_v (o_not rfl) rfl ?_
    | refine wE_v (e_ia_vw0 rfl rfl (by omega) rfl) rfl ?_
    | refine wE_v (e_ia_vwp rfl rfl (by omega) rfl) rfl ?_
    | refine wE_v (e_ia_vwm rfl rfl (by omega) (by omega) rfl) rfl ?_
    | refine wE_v (e_ia_vwi rfl rfl (by omega) rfl) rfl ?_
    | refine wE_v (e_ia_vwn rfl rfl (by omega) (by omega) rfl) rfl ?_
    | refine wE_n rfl rfl rfl ?_
    | refine wE_u rfl rfl rfl ?_
    | refine wE_new (o_mks rfl rfl (by omega) (by decide)) rfl ?_))
        obtain ⟨π, p1, p2, p3⟩ : ∃ π : Nat → Nat, π 6 = i + 7 + 1 + 1 + 1 ∧ π (i + 7) = i + 7 + 1 ∧ ∀ y, y ≠ 6 → y ≠ i + 7 → π y = y := pi_X i
        refine ⟨i + 1, by omega, by omega, .inr ⟨π, LeR_of ⟨⟨rfl, rfl⟩, ⟨?_, rfl⟩, ⟨?_, rfl⟩, ⟨?_, rfl⟩, ⟨?_, by simp only [AV.ltr, decide_eq_true_eq]; show 5 < i + 1 + 7; omega⟩, ⟨rfl, rfl⟩, trivial⟩ (fun y rows hy => ?_) (hX_wf hBw (by show 7 + ((sx xs k d).take (i + 1)).length ≤ i + 1 + 7; rw [htk]; simp; omega)) (fun y y' a1 a2 a3 => ?_)⟩⟩
        · show AV.pt 0 0 0 = AV.pt (π 0) 0 0
          rw [p3 0 (by omega) (by omega)]
        · show AV.pt 1 0 0 = AV.pt (π 1) 0 0
          rw [p3 1 (by omega) (by omega)]
        · show AV.pt 2 0 0 = AV.pt (π 2) 0 0
          rw [p3 2 (by omega) (by omega)]
        · show AV.pt 5 0 0 = AV.pt (π 5) 0 0
          rw [p3 5 (by omega) (by omega)]
        · simp only at hy
          rw [htk] at hy
          refine hX_up (N := i + 7) (by omega) (hBr π) p1 p2 p3 ?_ ?_ ?_ (fun y rows' g1 g2 g3 g4 => ?_) y rows hy
          · exact hg_here.trans (by rw [show L.length + 1 = 1 from by omega]; rfl)
          · refine (hg_skip (by omega) hg_here).trans ?_
            have hL0 : L = [] := List.length_eq_zero_iff.1 (by omega)
            rw [hL0]; rfl
          · exact (hg_skip (by omega) (hg_skip (by omega) (hg_skip (by omega) hg_here)))
          · exact (hg_skip (by omega) (hg_skip (by omega) (hg_skip (by omega) (hg_skip (by omega) (hg_skip (by omega) (hg_skip (by omega) g4))))))
        · exact inj_X p1 p2 p3 (by have : y < i + 1 + 7 := a1; omega) (by have : y' < i + 1 + 7 := a2; omega) a3
      · have hne : L.length ≠ 0 := by omega
        have h5o : hg (hX r.cs.length r.xs.length L B) 5 = some [[.sl 3 2 0 r.cs.length, .sl 4 2 0 r.xs.length, .sl 6 2 0 L.length]] := by
          have := hX_5 (a := r.cs.length) (b := r.xs.length) (L := L) (B := B)
          rwa [show oV L.length = AV.sl 6 2 0 L.length from if_neg hne] at this
        repeat (first | refine wG_pure (o_ldf_pt rfl (hX_B (by decide) hB0) rfl rfl) ?_ | refine wG_upd (o_st_agg rfl hg_here rfl rfl rfl rfl rfl) ?_ | (first
    | refine wC_a rfl ?_
    | refine q_s rfl ?_
    | refine q_b rfl ?_
    | refine wG_nil ?_
    | refine wG_g rfl ?_
    | refine wG_pure (o_len_vwm rfl) ?_
    | refine wG_pure (o_not_d rfl) ?_
    | refine wG_p rfl (by first | exact rfl | omega) ?_
    | refine wG_pure (o_str2 rfl rfl rfl) ?_
    | refine wG_pure (e_istr rfl rfl (by omega)) ?_
    | refine wG_pure (e_istr0 rfl rfl (by omega)) ?_
    | refine wG_pure (o_not rfl) ?_
    | refine wG_pure (e_ia_vw0 rfl rfl (by omega) rfl) ?_
    | refine wG_pure (e_ia_vwp rfl rfl (by omega) rfl) ?_
    | refine wG_pure (e_ia_vwm rfl rfl (by omega) (by omega) rfl) ?_
    | refine wG_pure (e_ia_vwi rfl rfl (by omega) rfl) ?_
    | refine wG_pure (e_ia_vwn rfl rfl (by omega) (by omega) rfl) ?_
    | refine wG_n rfl rfl ?_
    | refine wG_u rfl rfl ?_
    | refine wG_new (o_mks rfl rfl (by omega) (by decide)) ?_))
        simp only [dk]
        repeat (first | refine wC_dregE ?_ | refine wG_pure (o_ldt_pt rfl (hg_skip (by omega) (hg_skip (by omega) (hX_B (by decide) hB1))) rfl rfl rfl) ?_ | refine wG_upd (o_st_agg rfl hg_here rfl rfl rfl rfl rfl) ?_ | refine wE_v (o_ldf_pt rfl (hg_skip (by omega) (hg_skip (by omega) h5o)) rfl rfl) rfl ?_ | refine wE_v (o_ldf_pt rfl hg_here rfl rfl) rfl ?_ | refine wE_call1 cO rfl rfl rfl ?_ | refine wE_app (n := L.length) rfl (hg_skip (by omega) (hg_skip (by omega) (hg_skip (by omega) (hg_skip (by omega) (hX_6 hne))))) (by rw [nR_len]) (rows_sl rfl hg_here rfl) (by simp) (by rw [show ∀ a : List AV, [a].length = 1 from fun _ => rfl]; omega) (by decide) rfl ?_ | refine wE_upd (o_st1 rfl (hg_skip (by omega) (hg_skip (by omega) (hg_skip (by omega) (hg_skip (by omega) (hg_skip (by omega) (hg_skip (by omega) h5o)))))) rfl rfl rfl rfl) rfl ?_ | refine wE_nil (hokX (djB1 (by omega)) (djB1 (by omega)) (djB1 (by omega)) (djB1 (by omega)) (djB1 (by omega)) (djB1 (by omega))) ?_ | (first
    | refine wC_a rfl ?_
    | refine q_s rfl ?_
    | refine q_b rfl ?_
    | refine wG_nil ?_
    | refine wG_g rfl ?_
    | refine wG_pure (o_len_vwm rfl) ?_
    | refine wG_pure (o_not_d rfl) ?_
    | refine wG_p rfl (by first | exact rfl | omega) ?_
    | refine wG_pure (o_str2 rfl rfl rfl) ?_
    | refine wG_pure (e_istr rfl rfl (by omega)) ?_
    | refine wG_pure (e_istr0 rfl rfl (by omega)) ?_
    | refine wG_pure (o_not rfl) ?_
    | refine wG_pure (e_ia_vw0 rfl rfl (by omega) rfl) ?_
    | refine wG_pure (e_ia_vwp rfl rfl (by omega) rfl) ?_
    | refine wG_pure (e_ia_vwm rfl rfl (by omega) (by omega) rfl) ?_
    | refine wG_pure (e_ia_vwi rfl rfl (by omega) rfl) ?_
    | refine wG_pure (e_ia_vwn rfl rfl (by omega) (by omega) rfl) ?_
    | refine wG_n rfl rfl ?_
    | refine wG_u rfl rfl ?_
    | refine wG_new (o_mks rfl rfl (by omega) (by decide)) ?_) | (first
    | refine wE_nil (by kernel_rfl) ?_
    | refine wE_gy rfl ?_
    | refine wE_gn rfl rfl rfl ?_
    | refine wE_gu rfl rfl ?_
    | refine wE_gnn rfl rfl rfl ?_
    | refine wE_v (o_len_vwm rfl) rfl ?_
    | refine wE_v (o_not_d rfl) rfl ?_
    | refine wE_p rfl (by first | exact rfl | omega) rfl ?_
    | refine wE_v (o_str2 rfl rfl rfl) rfl ?_
    | refine wE_v (e_istr rfl rfl (by omega)) rfl ?_
    | refine wE_v (e_istr0 rfl rfl (by omega)) rfl ?_
    | refine wE_v (o_not rfl) rfl ?_
    | refine wE_v (e_ia_vw0 rfl rfl (by omega) rfl) rfl ?_
    | refine wE_v (e_ia_vwp rfl rfl (by omega) rfl) rfl ?_
    | refine wE_v (e_ia_vwm rfl rfl (by omega) (by omega) rfl) rfl ?_
    | refine wE_v (e_ia_vwi rfl rfl (by omega) rfl) rfl ?_
    | refine wE_v (e_ia_vwn rfl rfl (by omega) (by omega) rfl) rfl ?_
    | refine wE_n rfl rfl rfl ?_
    | refine wE_u rfl rfl rfl ?_
    | refine wE_new (o_mks rfl rfl (by omega) (by decide)) rfl ?_))
        obtain ⟨π, p1, p2, p3⟩ : ∃ π : Nat → Nat, π 6 = i + 7 + 1 + 1 + 1 ∧ π (i + 7) = i + 7 + 1 ∧ ∀ y, y ≠ 6 → y ≠ i + 7 → π y = y := pi_X i
        refine ⟨i + 1, by omega, by omega, .inr ⟨π, LeR_of ⟨⟨rfl, rfl⟩, ⟨?_, rfl⟩, ⟨?_, rfl⟩, ⟨?_, rfl⟩, ⟨?_, by simp only [AV.ltr, decide_eq_true_eq]; show 5 < i + 1 + 7; omega⟩, ⟨rfl, rfl⟩, trivial⟩ (fun y rows hy => ?_) (hX_wf hBw (by show 7 + ((sx xs k d).take (i + 1)).length ≤ i + 1 + 7; rw [htk]; simp; omega)) (fun y y' a1 a2 a3 => ?_)⟩⟩
        · show AV.pt 0 0 0 = AV.pt (π 0) 0 0
          rw [p3 0 (by omega) (by omega)]
        · show AV.pt 1 0 0 = AV.pt (π 1) 0 0
          rw [p3 1 (by omega) (by omega)]
        · show AV.pt 2 0 0 = AV.pt (π 2) 0 0
          rw [p3 2 (by omega) (by omega)]
        · show AV.pt 5 0 0 = AV.pt (π 5) 0 0
          rw [p3 5 (by omega) (by omega)]
        · simp only at hy
          rw [htk] at hy
          refine hX_up (N := i + 7) (by omega) (hBr π) p1 p2 p3 ?_ ?_ ?_ (fun y rows' g1 g2 g3 g4 => ?_) y rows hy
          · exact hg_here.trans (by rw [show L.length + 1 = L.length + 1 from by omega]; rfl)
          · exact hg_skip (by omega) (hg_skip (by omega) hg_here)
          · exact (hg_skip (by omega) (hg_skip (by omega) (hg_skip (by omega) (hg_skip (by omega) hg_here))))
          · exact (hg_skip (by omega) (hg_skip (by omega) (hg_skip (by omega) (hg_skip (by omega) (hg_skip (by omega) (hg_skip (by omega) (hg_skip (by omega) g4)))))))
        · exact inj_X p1 p2 p3 (by have : y < i + 1 + 7 := a1; omega) (by have : y' < i + 1 + 7 := a2; omega) a3
  · have hi3 : i = xs.length := by omega
    subst hi3
    have hta : (sx xs k d).take xs.length = sx xs k d := List.take_of_length_le (by rw [hxl]; exact Nat.le_refl _)
    rw [hta] at hpl ⊢
    have hne : (sx xs k d).length ≠ 0 := by omega
    have h5o : hg (hX r.cs.length r.xs.length (sx xs k d) B) 5 = some [[.sl 3 2 0 r.cs.length, .sl 4 2 0 r.xs.length, .sl 6 2 0 (sx xs k d).length]] := by
      have := hX_5 (a := r.cs.length) (b := r.xs.length) (L := sx xs k d) (B := B)
      rwa [show oV (sx xs k d).length = AV.sl 6 2 0 (sx xs k d).length from if_neg hne] at this
    repeat (first | refine wG_pure (o_ldt_pt rfl h5o rfl rfl rfl) ?_ | refine wG_upd (o_st_agg rfl (hX_B (by decide) hB2) rfl rfl rfl rfl rfl) ?_ | (first
    | refine wC_a rfl ?_
    | refine q_s rfl ?_
    | refine q_b rfl ?_
    | refine wG_nil ?_
    | refine wG_g rfl ?_
    | refine wG_pure (o_len_vwm rfl) ?_
    | refine wG_pure (o_not_d rfl) ?_
    | refine wG_p rfl (by first | exact rfl | omega) ?_
    | refine wG_pure (o_str2 rfl rfl rfl) ?_
    | refine wG_pure (e_istr rfl rfl (by omega)) ?_
    | refine wG_pure (e_istr0 rfl rfl (by omega)) ?_
    | refine wG_pure (o_not rfl) ?_
    | refine wG_pure (e_ia_vw0 rfl rfl (by omega) rfl) ?_
    | refine wG_pure (e_ia_vwp rfl rfl (by omega) rfl) ?_
    | refine wG_pure (e_ia_vwm rfl rfl (by omega) (by omega) rfl) ?_
    | refine wG_pure (e_ia_vwi rfl rfl (by omega) rfl) ?_
    | refine wG_pure (e_ia_vwn rfl rfl (by omega) (by omega) rfl) ?_
    | refine wG_n rfl rfl ?_
    | refine wG_u rfl rfl ?_
    | refine wG_new (o_mks rfl rfl (by omega) (by decide)) ?_))
    have hπ : ∀ i, i < (sx xs k d).length + 3 → πof ((List.range ((sx xs k d).length + 3)).map (fun i => if i < 2 then i + 3 else i + 4)) i = if i < 2 then i + 3 else i + 4 := fun i hi => by simp [πof, hi]
    refine retG_gen (.inr rfl) (retVs_1 (retV_ldt rfl hg_here rfl rfl rfl)) ?_ trivial ?_ (by simp [dtO_len]) ?_ (fun i rows hi => ?_)
    · show [AV.agg [.sl 3 2 0 _, .sl 4 2 0 _, .sl 6 2 0 _]] = [AV.agg [.sl (πof _ 0) 2 0 _, .sl (πof _ 1) 2 0 _, .sl (πof _ 2) 2 0 _]]
      rw [hπ 0 (by omega), hπ 1 (by omega), hπ 2 (by omega)]; rfl
    · simp [dtV, AV.ltr, ltrL, dtO_len]
    · unfold List.Nodup
      rw [List.pairwise_map]
      exact List.nodup_range.imp (fun h e => h (by split at e <;> split at e <;> omega))
    · have hi2 := dtO_lt hi
      rw [hπ i hi2]
      match i, hi with
      | 0, hi =>
        cases hi
        rw [← rn_rows (cRowsP _)]
        exact hg_skip (by decide) (hX_B (by decide) hB3)
      | 1, hi =>
        cases hi
        rw [← rn_rows (xRowsP _)]
        exact hg_skip (by decide) (hX_B (by decide) hB4)
      | 2, hi =>
        cases hi
        refine (hg_skip (by decide) (hX_6 hne)).trans (congrArg some ?_)
        exact (nD_rn (fun j hj => by rw [hπ _ (by omega), if_neg (by omega)]; omega)).symm
      | i + 3, hi =>
        have h6 : (nO hD (sx xs k d) (sx xs k d).length)[i]? = some rows := hi
        rw [nO_get (by omega) (Nat.le_refl _)] at h6
        cases h6
        rw [← rn_rows (rowsP _), if_neg (by omega), show i + 3 + 4 = 7 + i by omega]
        exact hg_skip (by omega) (hX_j (by omega))
end Go.Proofs.Ytkeobnaehgcloaa.Dst
