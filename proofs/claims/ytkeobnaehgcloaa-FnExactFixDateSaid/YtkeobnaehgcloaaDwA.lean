/- A record with another distribution for one context: the implementation. -/
import Derived.Test.YtkeobnaehgcloaaDnW
import Derived.Test.YtkeobnaehgcloaaDnX
namespace Go.Proofs.Ytkeobnaehgcloaa.Dst
open Go Go.Proofs.Ytkeobnaehgcloaa.Ab Go.Proofs.Ytkeobnaehgcloaa.Il Go.Proofs.Ytkeobnaehgcloaa.Rec
attribute [local irreducible] wpO wpC wpDr wpQ wpG wpE stepA seqQ blkQ Ret RetG ev
set_option maxRecDepth 10000
set_option maxHeartbeats 8000000
set_option linter.unusedSimpArgs false
set_option linter.unusedVariables false

def ac55 : AC := (.seq (.reg [⟨(some 3), none, (.box 3 true (.t 0))⟩, ⟨(some 5), none, (.box 2 true (.t 2))⟩, ⟨(some 6), none, (.alloc [.nilS, .nilS, .nilS])⟩, ⟨(some 7), none, (.mv (.c (.bool false)))⟩]) (.seq (.dreg [⟨(some 9), none, (.fa 0 (.t 3))⟩, ⟨(some 10), none, (.ld true 2 (.t 9))⟩, ⟨(some 11), none, (.call 98 [(.t 10)])⟩, ⟨(some 12), none, (.fa 2 (.t 3))⟩, ⟨(some 13), none, (.ld false 1 (.t 12))⟩, ⟨(some 14), none, (.call 99 [(.t 13)])⟩, ⟨(some 15), none, (.build [.nilS, .nilS, .nilS] [(0, (2, (.t 11))), (2, (1, (.t 14)))])⟩, ⟨(some 8), none, (.alloc [.nilS, .nilS, .nilS])⟩, ⟨none, none, (.st 3 (.t 8) (.t 15))⟩] [[], [0], [0, 1], [], [3], [0, 1, 2, 3, 4], [0, 1, 2, 3, 4, 5], [], [0, 1, 2, 3, 4, 5, 6, 7]]) (.seq (.reg [⟨(some 16), none, (.fa 2 (.t 8))⟩, ⟨(some 17), none, (.ld false 1 (.t 16))⟩, ⟨(some 18), none, (.mv (.t 1))⟩, ⟨(some 19), none, (.ld true 2 (.t 5))⟩, ⟨(some 20), none, (.ia 2 (.t 17) (.t 18))⟩, ⟨none, none, (.st 2 (.t 20) (.t 19))⟩]) (.seq (.seq (.reg [⟨(some 21), none, (.ld true 3 (.t 8))⟩, ⟨(some 22), none, (.call 24 [(.t 21)])⟩, ⟨(some 23), none, (.un .not (.t 22))⟩]) (.cond (.t 23) (.seq (.reg [⟨(some 24), none, (.build [.nilS, .nilS, .nilS] [])⟩, ⟨none, none, (.st 3 (.t 6) (.t 24))⟩, ⟨(some 7), none, (.mv (.c (.bool false)))⟩]) .ret) .skip)) (.seq (.reg [⟨(some 25), none, (.ld true 3 (.t 8))⟩, ⟨none, none, (.st 3 (.t 6) (.t 25))⟩, ⟨(some 7), none, (.mv (.c (.bool true)))⟩]) .ret)))))
def ro55 : List AOp := [(.ld true 3 (.t 6)), (.mv (.t 7))]
theorem fun55 : Fun Try.prog 55 26 ac55 ro55 := ⟨Try.f55, _, Try.func55, by kernel_rfl, rfl, rfl, by kernel_rfl, by kernel_rfl, by decide⟩

/-- Another distribution for one context. -/
def sx (xs : List Dn) (i : Nat) (d : Ds) : List Dn := xs.set i ⟨true, d⟩
theorem sx_len (xs : List Dn) (i : Nat) (d : Ds) : (sx xs i d).length = xs.length := by simp [sx]
theorem sx_get {xs : List Dn} {i j : Nat} {d : Ds} (h : j < xs.length) : (sx xs i d).getD j default = if j = i then ⟨true, d⟩ else xs.getD j default := by
  unfold sx
  rw [List.getD_eq_getElem?_getD]
  by_cases e : j = i
  · subst e
    rw [List.getElem?_set_self h, if_pos rfl]; rfl
  · rw [List.getElem?_set_ne (Ne.symm e), if_neg e, ← List.getD_eq_getElem?_getD]
/-- The copied list, one element of which has been replaced. -/
def rW (b q i : Nat) (d : Ds) (xs : List Dn) : Ab.Rows := (nR hD b xs xs.length z0).set i [.int .i64 d.f, .sl q 1 0 d.ws.length]
def nmW (b q i j : Nat) : Nat := if j = i then q else b + j
theorem rW_get {b q i j : Nat} {d : Ds} {xs : List Dn} (h : j < xs.length) : (rW b q i d xs)[j]? = some [.int .i64 ((sx xs i d).getD j default).d.f, .sl (nmW b q i j) 1 0 ((sx xs i d).getD j default).d.ws.length] := by
  unfold rW nmW
  rw [sx_get h]
  by_cases e : j = i
  · subst e
    rw [List.getElem?_set_self (by rw [nR_len]; exact h), if_pos rfl, if_pos rfl]
  · rw [List.getElem?_set_ne (Ne.symm e), if_neg e, if_neg e, nR_row h]
theorem rW_len (b q i : Nat) (d : Ds) (xs : List Dn) : (rW b q i d xs).length = xs.length := by rw [rW, List.length_set, nR_len]
/-- By content. -/
theorem dr_rW {H : Nat → Option Ab.Rows} {p b q i : Nat} {d : Ds} {xs : List Dn} (h1 : H p = some (rW b q i d xs)) (h2 : ∀ j, j < xs.length → j ≠ i → H (b + j) = some ((xs.getD j default).d.ws.map iRow)) (h3 : H q = some (d.ws.map iRow)) : Ab.dr H 5 (.sl p 2 0 xs.length) = .vw true ((tD (sx xs i d)).map nD) := by
  have hl : ((rW b q i d xs).drop 0).take xs.length = rW b q i d xs := by rw [List.drop_zero, List.take_of_length_le (by rw [rW_len]; exact Nat.le_refl _)]
  rw [show (5 : Nat) = 4 + 1 from rfl, Ab.dr, h1]
  dsimp only
  rw [hl]
  congr 1
  refine List.ext_getElem? fun j => ?_
  by_cases hj : j < xs.length
  · rw [List.getElem?_map, rW_get hj, nD_get (by rw [tD_len, sx_len]; exact hj)]
    have e2 := tD_d (sx xs i d) j
    have eb : ((tD (sx xs i d)).getD j default).b = true := by simp [tD, List.getD_eq_getElem?_getD, List.getElem?_map, List.getElem?_eq_getElem (show j < (sx xs i d).length by rw [sx_len]; exact hj)]
    rw [nD, dRow, e2, eb]
    simp only [Option.map_some, List.map_cons, List.map_nil]
    have e3 : Ab.dr H 4 (.sl (nmW b q i j) 1 0 ((sx xs i d).getD j default).d.ws.length) = .vw true (((sx xs i d).getD j default).d.ws.map iRow) := by
      refine dr_rows (m := 2) ?_ rfl iRow_plain
      rw [sx_get hj]
      unfold nmW
      by_cases e : j = i
      · rw [if_pos e, if_pos e]; exact h3
      · rw [if_neg e, if_neg e]; exact h2 j hj e
    rw [e3]
    rfl
  · rw [List.getElem?_eq_none (by rw [List.length_map, rW_len]; omega), List.getElem?_eq_none (by rw [List.length_map, tD_len, sx_len]; omega)]
def hW (nr q i : Nat) (d : Ds) (r : Rc) (xs : List Dn) (h : List (Nat × Option Ab.Rows)) : List (Nat × Option Ab.Rows) := (nr + 5, some (rW (nr + 6) q i d xs)) :: (mkh (nr + 6) (nO hD xs xs.length) ++ ((nr + 4, some (r.xs.map xRow)) :: (nr + 3, some (r.cs.map cRow)) :: h))
theorem hTd_eq {p : Nat} {xs : List Dn} {h : List (Nat × Option Ab.Rows)} : mkh p ((tdO xs).map (shR p)) ++ h = (p, some (nR hD (p + 1) xs xs.length z0)) :: (mkh (p + 1) (nO hD xs xs.length) ++ h) := by
  have e : (nO hD xs xs.length).map (shR p) = nO hD xs xs.length := by
    refine (List.map_congr_left fun rows hr => ?_).trans (List.map_id' _)
    exact shR_plain (fun row h1 x h2 => nO_plain rows hr row h1 x h2)
  rw [tdO, List.map_cons, nR_sh, e]
  rfl
theorem mkh_keys (objs : List Ab.Rows) : ∀ (m x : Nat), x ∈ (mkh m objs).map (·.1) → m ≤ x ∧ x < m + objs.length := fun m x h => mkh_fst objs m x h
theorem hokW {W W2 : List Nat} {a a' N : Nat} (h1 : ∀ x ∈ W, a < x ∧ x < N) (h2 : ∀ x ∈ W2, a < x ∧ x < N) (h3 : a < N) (h4 : a' < N) : hokB [[], [0], [0, 1], [], [3], [0, 1, 2, 3, 4], [0, 1, 2, 3, 4, 5], [], [0, 1, 2, 3, 4, 5, 6, 7]] [([], [a]), ([], [a]), (W2, []), ([], [a]), ([], [a]), (W, []), ([], [a']), ([N], []), ([N], [N])] = true := by
  have e : ∀ l : List Nat, djB [] l = true := fun l => rfl
  have e2 : ∀ l : List Nat, djB l [] = true := fun l => by simp [djB]
  have e3 : djB W2 [a] = true := by
    unfold djB
    rw [List.all_eq_true]
    intro x hx
    have := h2 x hx
    simp; omega
  have e4 : djB W2 [N] = true := by
    unfold djB
    rw [List.all_eq_true]
    intro x hx
    have := h2 x hx
    simp; omega
  have e5 : djB W [N] = true := by
    unfold djB
    rw [List.all_eq_true]
    intro x hx
    have := h1 x hx
    simp; omega
  have e6 : djB [N] [a] = true := by simp [djB]; omega
  have e7 : djB [N] [a'] = true := by simp [djB]; omega
  simp [hokB, List.range, List.range.loop, e, e2, e3, e4, e5, e6, e7]
theorem dr_W {H : Nat → Option Ab.Rows} {a1 a2 p b q i : Nat} {d : Ds} {r : Rc} {xs : List Dn} (g1 : H a1 = some (r.cs.map cRow)) (g2 : H a2 = some (r.xs.map xRow)) (h1 : H p = some (rW b q i d xs)) (h2 : ∀ j, j < xs.length → j ≠ i → H (b + j) = some ((xs.getD j default).d.ws.map iRow)) (h3 : H q = some (d.ws.map iRow)) : Ab.dr H 6 (.agg [.sl a1 2 0 r.cs.length, .sl a2 2 0 r.xs.length, .sl p 2 0 xs.length]) = .agg (dtR true true true r (tD (sx xs i d))) := by
  show AV.agg [Ab.dr H 5 (.sl a1 2 0 r.cs.length), Ab.dr H 5 (.sl a2 2 0 r.xs.length), Ab.dr H 5 (.sl p 2 0 xs.length)] = _
  rw [dr_rows (m := 3) g1 rfl cRow_plain, dr_rows (m := 3) g2 rfl xRow_plain, dr_rW h1 h2 h3]; rfl
theorem hW_cs {nr q i : Nat} {d : Ds} {r : Rc} {xs : List Dn} {h : List (Nat × Option Ab.Rows)} {y : Nat} {rows : Ab.Rows} (hw : wfH h nr) (hy : hg (hW nr q i d r xs h) y = some rows) : (y = nr + 5 ∧ rows = rW (nr + 6) q i d xs) ∨ (∃ j, j < xs.length ∧ y = nr + 6 + j ∧ rows = (xs.getD j default).d.ws.map iRow) ∨ (y = nr + 4 ∧ rows = r.xs.map xRow) ∨ (y = nr + 3 ∧ rows = r.cs.map cRow) ∨ (y < nr ∧ hg h y = some rows) := by
  unfold hW at hy
  by_cases e : y = nr + 5
  · subst e
    exact .inl ⟨rfl, (Option.some.inj (hg_here.symm.trans hy)).symm⟩
  · have h2 : hg (mkh (nr + 6) (nO hD xs xs.length) ++ ((nr + 4, some (r.xs.map xRow)) :: (nr + 3, some (r.cs.map cRow)) :: h)) y = some rows := by simpa [Ab.hg, upd, e] using hy
    rw [hg_app, nO_len (Nat.le_refl _)] at h2
    split at h2
    · rename_i hc
      refine .inr (.inl ⟨y - (nr + 6), by omega, by omega, ?_⟩)
      rw [nO_get (by omega) (Nat.le_refl _)] at h2
      exact (Option.some.inj h2).symm
    · by_cases e4 : y = nr + 4
      · subst e4
        exact .inr (.inr (.inl ⟨rfl, (Option.some.inj (hg_here.symm.trans h2)).symm⟩))
      · have h3 : hg ((nr + 3, some (r.cs.map cRow)) :: h) y = some rows := by simpa [Ab.hg, upd, e4] using h2
        by_cases e3 : y = nr + 3
        · subst e3
          exact .inr (.inr (.inr (.inl ⟨rfl, (Option.some.inj (hg_here.symm.trans h3)).symm⟩)))
        · have h4 : hg h y = some rows := by simpa [Ab.hg, upd, e3] using h3
          exact .inr (.inr (.inr (.inr ⟨(hw y rows h4).1, h4⟩)))
theorem hW_wf {nr q i m : Nat} {d : Ds} {r : Rc} {xs : List Dn} {h : List (Nat × Option Ab.Rows)} (hw : wfH h nr) (hq : q < nr) (hm : nr + 7 + xs.length ≤ m) : wfH (hW nr q i d r xs h) m := by
  intro y rows hy
  rcases hW_cs hw hy with ⟨rfl, rfl⟩ | ⟨j, hj, rfl, rfl⟩ | ⟨rfl, rfl⟩ | ⟨rfl, rfl⟩ | ⟨h1, h2⟩
  · refine ⟨by omega, fun row hr x hx => ?_⟩
    obtain ⟨j, hj, rfl⟩ := List.getElem_of_mem hr
    have hj2 : j < xs.length := by rwa [rW_len] at hj
    have h3 := rW_get (b := nr + 6) (q := q) (i := i) (d := d) hj2
    rw [List.getElem?_eq_getElem hj] at h3
    rw [Option.some.inj h3] at hx
    simp only [List.mem_cons, List.not_mem_nil, or_false] at hx
    rcases hx with rfl | rfl
    · rfl
    · simp only [AV.ltr, decide_eq_true_eq]
      unfold nmW
      split <;> omega
  · exact ⟨by omega, ltrI _ _⟩
  · exact ⟨by omega, ltrX _ _⟩
  · exact ⟨by omega, ltrK _ _⟩
  · exact ⟨by omega, (wfH_le hw (show nr ≤ m by omega) y rows h2).2⟩
theorem sh55 (r : Rc) (xs : List Dn) (h1 : r.cs.length ≤ 1048576) (h2 : r.xs.length ≤ 1048576) (h3 : xs.length ≤ 1048576) (hL : LenN xs 1048576) (hb : ∀ i, i < xs.length → (xs.getD i default).b = true) {i : Nat} (hi : i < xs.length) (d : Ds) (hd : d.ws.length ≤ 1048576) {h : List (Nat × Option Ab.Rows)} {nr q : Nat} (hq : hg h q = some (d.ws.map iRow)) (hw : wfH h nr) :
    (GoodN r (tD (sx xs i d)) → Sh Try.prog 55 [.agg (dtR true true true r xs), .int .i64 (i : Int), .agg [.int .i64 d.f, .sl q 1 0 d.ws.length]] h nr (.tup [.agg [.sl (nr + 3) 2 0 r.cs.length, .sl (nr + 4) 2 0 r.xs.length, .sl (nr + 5) 2 0 xs.length], .bool true]) (hW nr q i d r xs h) (nr + 7 + xs.length)) ∧
    (¬ GoodN r (tD (sx xs i d)) → Sh Try.prog 55 [.agg (dtR true true true r xs), .int .i64 (i : Int), .agg [.int .i64 d.f, .sl q 1 0 d.ws.length]] h nr (.tup [.agg [.nilS, .nilS, .nilS], .bool false]) h (nr + 7 + xs.length)) := by
  classical
  have e0 : ∀ n : Nat, 0 + ((n : Int)).toNat = n := fun n => by simp
  have c1 := con98 r h1 h2
  have c2 := con99 xs (by omega) h3 hL hb
  have hlen := tdO_len xs
  have hqn := (hw q _ hq).1
  have c3 := con24 true true true r (tD (sx xs i d)) h1 h2 (by rw [tD_len, sx_len]; exact h3) (fun j hj => by
    rw [tD_len, sx_len] at hj
    rw [tD_d, sx_get hj]
    split
    · exact hd
    · exact hL j hj)
  constructor
  · intro hG
    rw [decide_eq_true hG] at c3
    refine sh_of_wp mixed fun55 (by simp) ?_
    unfold ac55 ro55
    simp only [zipT]
    repeat (first | refine wC_dregE ?_ | refine wE_v (o_ldt_pt rfl (hg_skip (by omega) (hg_skip (by omega) hg_here)) rfl rfl rfl) rfl ?_ | refine wE_call2 (v' := .agg [.sl (nr + 3) 2 0 r.cs.length, .sl (nr + 4) 2 0 r.xs.length]) c1 rfl rfl rfl ?_ | refine wE_v (o_ldf_pt rfl (hg_skip (by omega) (hg_skip (by omega) (hg_skip (by omega) (hg_skip (by omega) hg_here)))) rfl rfl) rfl ?_ | refine wE_callG (v' := .sl (nr + 5) 2 0 xs.length) (rd := []) c2 rfl rfl rfl rfl ?_ | (first
    | refine wC_a rfl ?_
    | refine q_s rfl ?_
    | refine q_b rfl ?_
    | refine wG_nil ?_
    | refine wG_g rfl ?_
    | refine wG_pure (o_len_vwm rfl) ?_
    | refine wG_pure (o_not_d rfl) ?_
    | refine wG_p rfl (by first | exact rfl | omega) ?_
    | refine wG_pure (o_str2 rfl rfl rfl) ?_
    | refine wG_pure (e_istr rfl rfl (by omega)) ?_
    | refine wG_pure (e_istr0 rfl rfl (by omega)) ?_
    | refine wG_pure (o_not rfl) ?_
    | refine wG_pure (e_ia_vw0 rfl rfl (by omega) rfl) ?_
    | refine wG_pure (e_ia_vwp rfl rfl (by omega) rfl) ?_
    | refine wG_pure (e_ia_vwm rfl rfl (by omega) (by omega) rfl) ?_
    | refine wG_pure (e_ia_vwi rfl rfl (by omega) rfl) ?_
    | refine wG_pure (e_ia_vwn rfl rfl (by omega) (by omega) rfl) ?_
    | refine wG_n rfl rfl ?_
    | refine wG_u rfl rfl ?_
    | refine wG_new (o_mks rfl rfl (by omega) (by decide)) ?_) | (first
    | refine wE_nil (by kernel_rfl) ?_
    | refine wE_gy rfl ?_
    | refine wE_gn rfl rfl rfl ?_
    | refine wE_gu rfl rfl ?_
    | refine wE_gnn rfl rfl rfl ?_
    | refine wE_v (o_len_vwm rfl) rfl ?_
    | refine wE_v (o_not_d rfl) rfl ?_
    | refine wE_p rfl (by first | exact rfl | omega) rfl ?_
    | refine wE_v (o_str2 rfl rfl rfl) rfl ?_
    | refine wE_v (e_istr rfl rfl (by omega)) rfl ?_
    | refine wE_v (e_istr0 rfl rfl (by omega)) rfl ?_
    | refine wE_v (o_not rfl) rfl ?_
    | refine wE_v (e_ia_vw0 rfl rfl (by omega) rfl) rfl ?_
    | refine wE_v (e_ia_vwp rfl rfl (by omega) rfl) rfl ?_
    | refine wE_v (e_ia_vwm rfl rfl (by omega) (by omega) rfl) rfl ?_
    | refine wE_v (e_ia_vwi rfl rfl (by omega) rfl) rfl ?_
    | refine wE_v (e_ia_vwn rfl rfl (by omega) (by omega) rfl) rfl ?_
    | refine wE_n rfl rfl rfl ?_
    | refine wE_u rfl rfl rfl ?_
    | refine wE_new (o_mks rfl rfl (by omega) (by decide)) rfl ?_))
    rw [hTd_eq]
    obtain ⟨N, hN⟩ : ∃ N, nr + 1 + 1 + 1 + 2 + (tdO xs).length = N := ⟨_, rfl⟩
    rw [hN]
    rw [hlen] at hN
    refine wE_upd (o_st_agg rfl hg_here rfl rfl rfl rfl rfl) rfl ?_
    refine wE_nil (hokW (a := nr) (a' := nr + 5) (N := N) (fun x hx => by have := mkh_keys _ _ _ hx; rw [List.length_map, hlen] at this; omega) (fun x hx => by simp at hx; omega) (by omega) (by omega)) ?_
    have g3 : ∀ X : List (Nat × Option Ab.Rows), hg ((nr + 5, some (rW (nr + 6) q i d xs)) :: (N, some [[AV.sl (nr + 3) 2 0 r.cs.length, AV.sl (nr + 4) 2 0 r.xs.length, AV.sl (nr + 5) 2 0 xs.length]]) :: (N, some [[AV.nilS, AV.nilS, AV.nilS]]) :: (nr + 5, some (nR hD (nr + 6) xs xs.length z0)) :: (mkh (nr + 6) (nO hD xs xs.length) ++ ((nr + 3, some (r.cs.map cRow)) :: (nr + 4, some (r.xs.map xRow)) :: X))) (nr + 3) = some (r.cs.map cRow) := fun X => hg_skip (by omega) (hg_skip (by omega) (hg_skip (by omega) (hg_skip (by omega) (hg_out (fun hc => by have := hc.1; omega) hg_here))))
    have g4 : ∀ X : List (Nat × Option Ab.Rows), hg ((nr + 5, some (rW (nr + 6) q i d xs)) :: (N, some [[AV.sl (nr + 3) 2 0 r.cs.length, AV.sl (nr + 4) 2 0 r.xs.length, AV.sl (nr + 5) 2 0 xs.length]]) :: (N, some [[AV.nilS, AV.nilS, AV.nilS]]) :: (nr + 5, some (nR hD (nr + 6) xs xs.length z0)) :: (mkh (nr + 6) (nO hD xs xs.length) ++ ((nr + 3, some (r.cs.map cRow)) :: (nr + 4, some (r.xs.map xRow)) :: X))) (nr + 4) = some (r.xs.map xRow) := fun X => hg_skip (by omega) (hg_skip (by omega) (hg_skip (by omega) (hg_skip (by omega) (hg_out (fun hc => by have := hc.1; omega) (hg_skip (by omega) hg_here)))))
    have gj : ∀ (X : List (Nat × Option Ab.Rows)) (j : Nat), j < xs.length → hg ((nr + 5, some (rW (nr + 6) q i d xs)) :: (N, some [[AV.sl (nr + 3) 2 0 r.cs.length, AV.sl (nr + 4) 2 0 r.xs.length, AV.sl (nr + 5) 2 0 xs.length]]) :: (N, some [[AV.nilS, AV.nilS, AV.nilS]]) :: (nr + 5, some (nR hD (nr + 6) xs xs.length z0)) :: (mkh (nr + 6) (nO hD xs xs.length) ++ ((nr + 3, some (r.cs.map cRow)) :: (nr + 4, some (r.xs.map xRow)) :: X))) (nr + 6 + j) = some ((xs.getD j default).d.ws.map iRow) := fun X j hj => hg_skip (by omega) (hg_skip (by omega) (hg_skip (by omega) (hg_skip (by omega) (hg_in (by omega) (by rw [Nat.add_sub_cancel_left]; exact nO_get (K := hD) hj (Nat.le_refl _))))))
    have gx : ∀ (X : List (Nat × Option Ab.Rows)) (y : Nat) (rows : Option Ab.Rows), y < nr + 3 → hg X y = rows → hg ((nr + 5, some (rW (nr + 6) q i d xs)) :: (N, some [[AV.sl (nr + 3) 2 0 r.cs.length, AV.sl (nr + 4) 2 0 r.xs.length, AV.sl (nr + 5) 2 0 xs.length]]) :: (N, some [[AV.nilS, AV.nilS, AV.nilS]]) :: (nr + 5, some (nR hD (nr + 6) xs xs.length z0)) :: (mkh (nr + 6) (nO hD xs xs.length) ++ ((nr + 3, some (r.cs.map cRow)) :: (nr + 4, some (r.xs.map xRow)) :: X))) y = rows := fun X y rows hy hr => hg_skip (by omega) (hg_skip (by omega) (hg_skip (by omega) (hg_skip (by omega) (hg_out (fun hc => by have := hc.1; omega) (hg_skip (by omega) (hg_skip (by omega) hr))))))
    have hrow := nR_row (b := nr + 6) hi
    repeat (first | refine wG_pure (o_ldf_pt rfl hg_here rfl rfl) ?_ | refine wG_pure (o_ldt_pt rfl (hg_skip (by omega) (hg_skip (by omega) (hg_skip (by omega) (hg_out (fun hc => by have := hc.1; omega) (hg_skip (by omega) (hg_skip (by omega) (hg_skip (by omega) hg_here))))))) rfl rfl rfl) ?_ | (refine wG_pure (e_ia_sl rfl rfl (by omega) (by omega)) ?_; simp only [e0]) | refine wG_upd (o_st_agg rfl (hg_skip (by omega) (hg_skip (by omega) hg_here)) hrow rfl rfl rfl rfl) ?_ | refine wG_pure (o_ldt_pt rfl (hg_skip (by omega) hg_here) rfl rfl rfl) ?_ | refine wG_call c3 (ag_any (dr_W (g3 _) (g4 _) hg_here (fun j hj _ => gj _ j hj) (gx _ q _ (by omega) (hg_skip (by omega) (hg_skip (by omega) (hg_skip (by omega) hq))))) ag_nil) rfl ?_ | refine wG_upd (o_st_agg rfl (gx _ (nr + 2) _ (by omega) hg_here) rfl rfl rfl rfl rfl) ?_ | (first
    | refine wC_a rfl ?_
    | refine q_s rfl ?_
    | refine q_b rfl ?_
    | refine wG_nil ?_
    | refine wG_g rfl ?_
    | refine wG_pure (o_len_vwm rfl) ?_
    | refine wG_pure (o_not_d rfl) ?_
    | refine wG_p rfl (by first | exact rfl | omega) ?_
    | refine wG_pure (o_str2 rfl rfl rfl) ?_
    | refine wG_pure (e_istr rfl rfl (by omega)) ?_
    | refine wG_pure (e_istr0 rfl rfl (by omega)) ?_
    | refine wG_pure (o_not rfl) ?_
    | refine wG_pure (e_ia_vw0 rfl rfl (by omega) rfl) ?_
    | refine wG_pure (e_ia_vwp rfl rfl (by omega) rfl) ?_
    | refine wG_pure (e_ia_vwm rfl rfl (by omega) (by omega) rfl) ?_
    | refine wG_pure (e_ia_vwi rfl rfl (by omega) rfl) ?_
    | refine wG_pure (e_ia_vwn rfl rfl (by omega) (by omega) rfl) ?_
    | refine wG_n rfl rfl ?_
    | refine wG_u rfl rfl ?_
    | refine wG_new (o_mks rfl rfl (by omega) (by decide)) ?_))
    refine ⟨trivial, _, retVs_2 (retV_ldt rfl hg_here rfl rfl rfl) (retV_mv rfl), ?_, by omega⟩
    refine Le_of ⟨⟨rfl, by simp [AV.ltr, ltrL]; omega⟩, trivial⟩ (fun y rows hy => ?_) (hW_wf hw hqn (Nat.le_refl _))
    rcases hW_cs hw hy with ⟨rfl, rfl⟩ | ⟨j, hj, rfl, rfl⟩ | ⟨rfl, rfl⟩ | ⟨rfl, rfl⟩ | ⟨k1, k2⟩
    · exact hg_skip (by omega) hg_here
    · exact hg_skip (by omega) (gj _ j hj)
    · exact hg_skip (by omega) (g4 _)
    · exact hg_skip (by omega) (g3 _)
    · exact hg_skip (by omega) (gx _ y _ (by omega) (hg_skip (by omega) (hg_skip (by omega) (hg_skip (by omega) k2))))
  · intro hG
    rw [decide_eq_false hG] at c3
    refine sh_of_wp mixed fun55 (by simp) ?_
    unfold ac55 ro55
    simp only [zipT]
    repeat (first | refine wC_dregE ?_ | refine wE_v (o_ldt_pt rfl (hg_skip (by omega) (hg_skip (by omega) hg_here)) rfl rfl rfl) rfl ?_ | refine wE_call2 (v' := .agg [.sl (nr + 3) 2 0 r.cs.length, .sl (nr + 4) 2 0 r.xs.length]) c1 rfl rfl rfl ?_ | refine wE_v (o_ldf_pt rfl (hg_skip (by omega) (hg_skip (by omega) (hg_skip (by omega) (hg_skip (by omega) hg_here)))) rfl rfl) rfl ?_ | refine wE_callG (v' := .sl (nr + 5) 2 0 xs.length) (rd := []) c2 rfl rfl rfl rfl ?_ | (first
    | refine wC_a rfl ?_
    | refine q_s rfl ?_
    | refine q_b rfl ?_
    | refine wG_nil ?_
    | refine wG_g rfl ?_
    | refine wG_pure (o_len_vwm rfl) ?_
    | refine wG_pure (o_not_d rfl) ?_
    | refine wG_p rfl (by first | exact rfl | omega) ?_
    | refine wG_pure (o_str2 rfl rfl rfl) ?_
    | refine wG_pure (e_istr rfl rfl (by omega)) ?_
    | refine wG_pure (e_istr0 rfl rfl (by omega)) ?_
    | refine wG_pure (o_not rfl) ?_
    | refine wG_pure (e_ia_vw0 rfl rfl (by omega) rfl) ?_
    | refine wG_pure (e_ia_vwp rfl rfl (by omega) rfl) ?_
    | refine wG_pure (e_ia_vwm rfl rfl (by omega) (by omega) rfl) ?_
    | refine wG_pure (e_ia_vwi rfl rfl (by omega) rfl) ?_
    | refine wG_pure (e_ia_vwn rfl rfl (by omega) (by omega) rfl) ?_
    | refine wG_n rfl rfl ?_
    | refine wG_u rfl rfl ?_
    | refine wG_new (o_mks rfl rfl (by omega) (by decide)) ?_) | (first
    | refine wE_nil (by kernel_rfl) ?_
    | refine wE_gy rfl ?_
    | refine wE_gn rfl rfl rfl ?_
    | refine wE_gu rfl rfl ?_
    | refine wE_gnn rfl rfl rfl ?_
    | refine wE_v (o_len_vwm rfl) rfl ?_
    | refine wE_v (o_not_d rfl) rfl ?_
    | refine wE_p rfl (by first | exact rfl | omega) rfl ?_
    | refine wE_v (o_str2 rfl rfl rfl) rfl ?_
    | refine wE_v (e_istr rfl rfl (by omega)) rfl ?_
    | refine wE_v (e_istr0 rfl rfl (by omega)) rfl ?_
    | refine wE_v (o_not rfl) rfl ?_
    | refine wE_v (e_ia_vw0 rfl rfl (by omega) rfl) rfl ?_
    | refine wE_v (e_ia_vwp rfl rfl (by omega) rfl) rfl ?_
    | refine wE_v (e_ia_vwm rfl rfl (by omega) (by omega) rfl) rfl ?_
    | refine wE_v (e_ia_vwi rfl rfl (by omega) rfl) rfl ?_
    | refine wE_v (e_ia_vwn rfl rfl (by omega) (by omega) rfl) rfl ?_
    | refine wE_n rfl rfl rfl ?_
    | refine wE_u rfl rfl rfl ?_
    | refine wE_new (o_mks rfl rfl (by omega) (by decide)) rfl ?_))
    rw [hTd_eq]
    obtain ⟨N, hN⟩ : ∃ N, nr + 1 + 1 + 1 + 2 + (tdO xs).length = N := ⟨_, rfl⟩
    rw [hN]
    rw [hlen] at hN
    refine wE_upd (o_st_agg rfl hg_here rfl rfl rfl rfl rfl) rfl ?_
    refine wE_nil (hokW (a := nr) (a' := nr + 5) (N := N) (fun x hx => by have := mkh_keys _ _ _ hx; rw [List.length_map, hlen] at this; omega) (fun x hx => by simp at hx; omega) (by omega) (by omega)) ?_
    have g3 : ∀ X : List (Nat × Option Ab.Rows), hg ((nr + 5, some (rW (nr + 6) q i d xs)) :: (N, some [[AV.sl (nr + 3) 2 0 r.cs.length, AV.sl (nr + 4) 2 0 r.xs.length, AV.sl (nr + 5) 2 0 xs.length]]) :: (N, some [[AV.nilS, AV.nilS, AV.nilS]]) :: (nr + 5, some (nR hD (nr + 6) xs xs.length z0)) :: (mkh (nr + 6) (nO hD xs xs.length) ++ ((nr + 3, some (r.cs.map cRow)) :: (nr + 4, some (r.xs.map xRow)) :: X))) (nr + 3) = some (r.cs.map cRow) := fun X => hg_skip (by omega) (hg_skip (by omega) (hg_skip (by omega) (hg_skip (by omega) (hg_out (fun hc => by have := hc.1; omega) hg_here))))
    have g4 : ∀ X : List (Nat × Option Ab.Rows), hg ((nr + 5, some (rW (nr + 6) q i d xs)) :: (N, some [[AV.sl (nr + 3) 2 0 r.cs.length, AV.sl (nr + 4) 2 0 r.xs.length, AV.sl (nr + 5) 2 0 xs.length]]) :: (N, some [[AV.nilS, AV.nilS, AV.nilS]]) :: (nr + 5, some (nR hD (nr + 6) xs xs.length z0)) :: (mkh (nr + 6) (nO hD xs xs.length) ++ ((nr + 3, some (r.cs.map cRow)) :: (nr + 4, some (r.xs.map xRow)) :: X))) (nr + 4) = some (r.xs.map xRow) := fun X => hg_skip (by omega) (hg_skip (by omega) (hg_skip (by omega) (hg_skip (by omega) (hg_out (fun hc => by have := hc.1; omega) (hg_skip (by omega) hg_here)))))
    have gj : ∀ (X : List (Nat × Option Ab.Rows)) (j : Nat), j < xs.length → hg ((nr + 5, some (rW (nr + 6) q i d xs)) :: (N, some [[AV.sl (nr + 3) 2 0 r.cs.length, AV.sl (nr + 4) 2 0 r.xs.length, AV.sl (nr + 5) 2 0 xs.length]]) :: (N, some [[AV.nilS, AV.nilS, AV.nilS]]) :: (nr + 5, some (nR hD (nr + 6) xs xs.length z0)) :: (mkh (nr + 6) (nO hD xs xs.length) ++ ((nr + 3, some (r.cs.map cRow)) :: (nr + 4, some (r.xs.map xRow)) :: X))) (nr + 6 + j) = some ((xs.getD j default).d.ws.map iRow) := fun X j hj => hg_skip (by omega) (hg_skip (by omega) (hg_skip (by omega) (hg_skip (by omega) (hg_in (by omega) (by rw [Nat.add_sub_cancel_left]; exact nO_get (K := hD) hj (Nat.le_refl _))))))
    have gx : ∀ (X : List (Nat × Option Ab.Rows)) (y : Nat) (rows : Option Ab.Rows), y < nr + 3 → hg X y = rows → hg ((nr + 5, some (rW (nr + 6) q i d xs)) :: (N, some [[AV.sl (nr + 3) 2 0 r.cs.length, AV.sl (nr + 4) 2 0 r.xs.length, AV.sl (nr + 5) 2 0 xs.length]]) :: (N, some [[AV.nilS, AV.nilS, AV.nilS]]) :: (nr + 5, some (nR hD (nr + 6) xs xs.length z0)) :: (mkh (nr + 6) (nO hD xs xs.length) ++ ((nr + 3, some (r.cs.map cRow)) :: (nr + 4, some (r.xs.map xRow)) :: X))) y = rows := fun X y rows hy hr => hg_skip (by omega) (hg_skip (by omega) (hg_skip (by omega) (hg_skip (by omega) (hg_out (fun hc => by have := hc.1; omega) (hg_skip (by omega) (hg_skip (by omega) hr))))))
    have hrow := nR_row (b := nr + 6) hi
    repeat (first | refine wG_pure (o_ldf_pt rfl hg_here rfl rfl) ?_ | refine wG_pure (o_ldt_pt rfl (hg_skip (by omega) (hg_skip (by omega) (hg_skip (by omega) (hg_out (fun hc => by have := hc.1; omega) (hg_skip (by omega) (hg_skip (by omega) (hg_skip (by omega) hg_here))))))) rfl rfl rfl) ?_ | (refine wG_pure (e_ia_sl rfl rfl (by omega) (by omega)) ?_; simp only [e0]) | refine wG_upd (o_st_agg rfl (hg_skip (by omega) (hg_skip (by omega) hg_here)) hrow rfl rfl rfl rfl) ?_ | refine wG_pure (o_ldt_pt rfl (hg_skip (by omega) hg_here) rfl rfl rfl) ?_ | refine wG_call c3 (ag_any (dr_W (g3 _) (g4 _) hg_here (fun j hj _ => gj _ j hj) (gx _ q _ (by omega) (hg_skip (by omega) (hg_skip (by omega) (hg_skip (by omega) hq))))) ag_nil) rfl ?_ | refine wG_upd (o_st_agg rfl (gx _ (nr + 2) _ (by omega) hg_here) rfl rfl rfl rfl rfl) ?_ | (first
    | refine wC_a rfl ?_
    | refine q_s rfl ?_
    | refine q_b rfl ?_
    | refine wG_nil ?_
    | refine wG_g rfl ?_
    | refine wG_pure (o_len_vwm rfl) ?_
    | refine wG_pure (o_not_d rfl) ?_
    | refine wG_p rfl (by first | exact rfl | omega) ?_
    | refine wG_pure (o_str2 rfl rfl rfl) ?_
    | refine wG_pure (e_istr rfl rfl (by omega)) ?_
    | refine wG_pure (e_istr0 rfl rfl (by omega)) ?_
    | refine wG_pure (o_not rfl) ?_
    | refine wG_pure (e_ia_vw0 rfl rfl (by omega) rfl) ?_
    | refine wG_pure (e_ia_vwp rfl rfl (by omega) rfl) ?_
    | refine wG_pure (e_ia_vwm rfl rfl (by omega) (by omega) rfl) ?_
    | refine wG_pure (e_ia_vwi rfl rfl (by omega) rfl) ?_
    | refine wG_pure (e_ia_vwn rfl rfl (by omega) (by omega) rfl) ?_
    | refine wG_n rfl rfl ?_
    | refine wG_u rfl rfl ?_
    | refine wG_new (o_mks rfl rfl (by omega) (by decide)) ?_))
    refine ⟨trivial, _, retVs_2 (retV_ldt rfl hg_here rfl rfl rfl) (retV_mv rfl), ?_, by omega⟩
    refine Le_of ⟨⟨rfl, rfl⟩, trivial⟩ (fun y rows hy => ?_) (wfH_le hw (by show nr ≤ nr + 7 + xs.length; omega))
    have k1 := (hw y rows hy).1
    exact hg_skip (by omega) (gx _ y _ (by omega) (hg_skip (by omega) (hg_skip (by omega) (hg_skip (by omega) hy))))
end Go.Proofs.Ytkeobnaehgcloaa.Dst
