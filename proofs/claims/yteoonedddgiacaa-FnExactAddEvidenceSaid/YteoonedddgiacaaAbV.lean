/- Steps of a walk through drawn regions that write own objects: one law for each kind of step. -/
import Derived.Test.YteoonedddgiacaaAbU
namespace Go.Proofs.Yteoonedddgiacaa.Ab
open Go Go.RowKit
set_option linter.unusedSimpArgs false
set_option linter.unusedVariables false

def wpE (P : Program) (A : List (List Nat)) (os : List AO) (s : St) (acc : List (List Nat × List Nat)) (Q : St → Prop) : Prop := wpDr P os s acc fun s' ef => hok A ef ∧ Q s'

section
variable {P : Program} {m0 : Nat} {t : List (Nat × AV)} {h : List (Nat × Option Rows)} {nr : Nat} {os : List AO} {Q : EX → St → Prop} {K : St → Prop} {A : List (List Nat)} {acc : List (List Nat × List Nat)}

theorem wC_dregE {s : St} (hw : wpE P A os s [] (Q .n)) : wpC P m0 (.dreg os A) Q s := .inl hw
/-- A drawn region with one call on the caller's own objects, which waits for all ahead of it, and for which all behind it waits. -/
theorem wC_dregS (k : Nat) {d f : Nat} {args : List AX} {s : St} (hb : barB A k os.length = true) (ho : os[k]? = some ⟨some d, none, .call f args⟩)
    (hw : wpE P A (os.take k) s [] fun s1 => ∃ v h' nr', Sh P f (args.map (gT (lk s1.t))) s1.h s1.nr v h' nr' ∧ wpE P (shA (k + 1) A) (os.drop (k + 1)) ⟨(d, v) :: s1.t, h', nr'⟩ [] (Q .n)) : wpC P m0 (.dreg os A) Q s := by
  refine .inr (.inl ⟨k, hb, _, ho, rfl, ?_⟩)
  have mono : ∀ (os : List AO) (s : St) (acc : List (List Nat × List Nat)) (K K' : St → List (List Nat × List Nat) → Prop), (∀ s ef, K s ef → K' s ef) → wpDr P os s acc K → wpDr P os s acc K' := by
    intro os
    induction os with
    | nil => intro s acc K K' hk h; exact hk _ _ h
    | cons o os ih =>
      intro s acc K K' hk h
      simp only [wpDr] at h ⊢
      split at h
      · exact stepR_mono (fun v u k h => ih _ _ _ _ hk h) h
      · split at h
        · split at h
          · rename_i e; rw [if_pos e]; exact stepR_mono (fun v u k h => ih _ _ _ _ hk h) h
          · rename_i e; rw [if_neg e]; exact ih _ _ _ _ hk h
        · exact h.elim
  refine mono _ _ _ _ _ ?_ hw
  rintro s1 ef ⟨h1, v, h', nr', h2, h3⟩
  refine ⟨h1, .inr ⟨v, h', nr', ?_, h3⟩⟩
  rw [get_gT]; exact h2
theorem wpDr_mono : ∀ (os : List AO) (s : St) (acc : List (List Nat × List Nat)) (K K' : St → List (List Nat × List Nat) → Prop), (∀ s ef, K s ef → K' s ef) → wpDr P os s acc K → wpDr P os s acc K' := by
  intro os
  induction os with
  | nil => intro s acc K K' hk h; exact hk _ _ h
  | cons o os ih =>
    intro s acc K K' hk h
    simp only [wpDr] at h ⊢
    split at h
    · exact stepR_mono (fun v u k h => ih _ _ _ _ hk h) h
    · split at h
      · split at h
        · rename_i e; rw [if_pos e]; exact stepR_mono (fun v u k h => ih _ _ _ _ hk h) h
        · rename_i e; rw [if_neg e]; exact ih _ _ _ _ hk h
      · exact h.elim
/-- The same, where the first operation need not be awaited: it only looks at what the call leaves as it is. -/
theorem wC_dregF (k : Nat) {d f d0 : Nat} {args : List AX} {op0 : AOp} {v0 : AV} {s : St} (hb : barF A k os.length = true) (ho0 : os[0]? = some ⟨some d0, none, op0⟩) (ho : os[k]? = some ⟨some d, none, .call f args⟩) (he0 : ev (gT (lk s.t)) (hg s.h) s.nr op0 = some (v0, [], 0))
    (hw : wpE P A (os.take k) s [] fun s1 => lk s1.t d0 = v0 ∧ ∃ v h' nr', Sh P f (args.map (gT (lk s1.t))) s1.h s1.nr v h' nr' ∧ args.map (gT (lk ((d0, lk s.t d0) :: s1.t))) = args.map (gT (lk s1.t)) ∧
      ev (gT (lk ((d, v) :: (d0, lk s.t d0) :: s1.t))) (hg h') nr' op0 = some (v0, [], 0) ∧ wpE P (shA (k + 1) A) (os.drop (k + 1)) ⟨(d, v) :: s1.t, h', nr'⟩ [] (Q .n)) : wpC P m0 (.dreg os A) Q s := by
  refine .inr (.inr ⟨k, hb, _, _, d0, v0, ho0, ho, rfl, rfl, rfl, he0, ?_⟩)
  refine wpDr_mono _ _ _ _ _ ?_ hw
  rintro s1 ef ⟨h1, h0, v, h', nr', h2, h3, h4, h5⟩
  refine ⟨h1, h0, .inr ⟨v, h', nr', ?_, h5⟩, .inr ⟨v, h', nr', ?_, h4, h5⟩⟩
  · rw [get_gT]; exact h2
  · show Sh P f (args.map (St.get { t := (d0, lk s.t d0) :: s1.t, h := s1.h, nr := s1.nr })) s1.h s1.nr v h' nr'
    rw [get_gT]
    show Sh P f (args.map (gT (lk ((d0, lk s.t d0) :: s1.t)))) s1.h s1.nr v h' nr'
    rw [h3]; exact h2
theorem wE_nil (hh : hokB A acc.reverse = true) (hw : K ⟨t, h, nr⟩) : wpE P A [] ⟨t, h, nr⟩ acc K := ⟨hok_of hh, hw⟩
theorem wE_some {d : Nat} {op : AOp} {v : AV} {u : List (Nat × Option Rows)} {k : Nat} {rd : List Nat} (he : ev (gT (lk t)) (hg h) nr op = some (v, u, k)) (hr : rds op (gT (lk t)) (hg h) = rd) (hw : wpE P A os ⟨(d, v) :: t, u ++ h, nr + k⟩ ((u.map (·.1), rd) :: acc) K) :
    wpE P A (⟨some d, none, op⟩ :: os) ⟨t, h, nr⟩ acc K := by
  subst hr
  simp only [wpE, wpDr] at hw ⊢
  exact step_evR (s := ⟨t, h, nr⟩) he (by rw [get_gT]; exact hw)
theorem wE_none {op : AOp} {v : AV} {u : List (Nat × Option Rows)} {k : Nat} {rd : List Nat} (he : ev (gT (lk t)) (hg h) nr op = some (v, u, k)) (hr : rds op (gT (lk t)) (hg h) = rd) (hw : wpE P A os ⟨t, u ++ h, nr + k⟩ ((u.map (·.1), rd) :: acc) K) :
    wpE P A (⟨none, none, op⟩ :: os) ⟨t, h, nr⟩ acc K := by
  subst hr
  simp only [wpE, wpDr] at hw ⊢
  exact step_evR (s := ⟨t, h, nr⟩) he (by rw [get_gT]; exact hw)
theorem wE_pure0 {d : Nat} {op : AOp} {v : AV} (he : ev (gT (lk t)) (hg h) nr op = some (v, [], 0)) (hr : rds op (gT (lk t)) (hg h) = []) (hw : wpE P A os ⟨(d, v) :: t, h, nr⟩ (([], []) :: acc) K) :
    wpE P A (⟨some d, none, op⟩ :: os) ⟨t, h, nr⟩ acc K := wE_some he hr hw
theorem wE_pure1 {d r : Nat} {op : AOp} {v : AV} (he : ev (gT (lk t)) (hg h) nr op = some (v, [], 0)) (hr : rds op (gT (lk t)) (hg h) = [r]) (hw : wpE P A os ⟨(d, v) :: t, h, nr⟩ (([], [r]) :: acc) K) :
    wpE P A (⟨some d, none, op⟩ :: os) ⟨t, h, nr⟩ acc K := wE_some he hr hw
theorem wE_pure {d : Nat} {op : AOp} {v : AV} {rd : List Nat} (he : ev (gT (lk t)) (hg h) nr op = some (v, [], 0)) (hr : rds op (gT (lk t)) (hg h) = rd) (hw : wpE P A os ⟨(d, v) :: t, h, nr⟩ (([], rd) :: acc) K) :
    wpE P A (⟨some d, none, op⟩ :: os) ⟨t, h, nr⟩ acc K := wE_some he hr hw
theorem wE_new {d : Nat} {op : AOp} {v : AV} {rows : Rows} {rd : List Nat} (he : ev (gT (lk t)) (hg h) nr op = some (v, [(nr, some rows)], 1)) (hr : rds op (gT (lk t)) (hg h) = rd) (hw : wpE P A os ⟨(d, v) :: t, (nr, some rows) :: h, nr + 1⟩ (([nr], rd) :: acc) K) :
    wpE P A (⟨some d, none, op⟩ :: os) ⟨t, h, nr⟩ acc K := wE_some he hr hw
theorem wE_upd {op : AOp} {v : AV} {r : Nat} {x : Option Rows} {rd : List Nat} (he : ev (gT (lk t)) (hg h) nr op = some (v, [(r, x)], 0)) (hr : rds op (gT (lk t)) (hg h) = rd) (hw : wpE P A os ⟨t, (r, x) :: h, nr⟩ (([r], rd) :: acc) K) :
    wpE P A (⟨none, none, op⟩ :: os) ⟨t, h, nr⟩ acc K := wE_none he hr hw
theorem wE_gy {d : Option Nat} {op : AOp} {g : Nat} {b : Bool} (hc : lk t g = .bool b) (h1 : wpE P A (⟨d, none, op⟩ :: os) ⟨t, h, nr⟩ acc K) : wpE P A (⟨d, some (g, b), op⟩ :: os) ⟨t, h, nr⟩ acc K := by
  simp only [wpE, wpDr, wnt, hc, beq_self_eq_true, if_true] at h1 ⊢; exact h1
theorem wE_gn {d : Nat} {op : AOp} {g : Nat} {b c : Bool} {rd : List Nat} (hc : lk t g = .bool c) (hb : (c == b) = false) (hr : rds op (gT (lk t)) (hg h) = rd) (h1 : wpE P A os ⟨(d, .tup []) :: t, h, nr⟩ (([], rd) :: acc) K) : wpE P A (⟨some d, some (g, b), op⟩ :: os) ⟨t, h, nr⟩ acc K := by
  subst hr
  simp only [wpE, wpDr, wnt, hc, hb, Bool.false_eq_true, if_false, get_gT] at h1 ⊢; exact h1
theorem wE_gu {d : Nat} {op : AOp} {g : Nat} {b : Bool} {vs : List AV} {rd : List Nat} (hc : lk t g = .tup vs) (hr : rds op (gT (lk t)) (hg h) = rd) (h1 : wpE P A os ⟨(d, .tup []) :: t, h, nr⟩ (([], rd) :: acc) K) : wpE P A (⟨some d, some (g, b), op⟩ :: os) ⟨t, h, nr⟩ acc K := by
  subst hr
  simp only [wpE, wpDr, wnt, hc, Bool.false_eq_true, if_false, get_gT] at h1 ⊢; exact h1
theorem wE_gnn {op : AOp} {g : Nat} {b c : Bool} {rd : List Nat} (hc : lk t g = .bool c) (hb : (c == b) = false) (hr : rds op (gT (lk t)) (hg h) = rd) (h1 : wpE P A os ⟨t, h, nr⟩ (([], rd) :: acc) K) : wpE P A (⟨none, some (g, b), op⟩ :: os) ⟨t, h, nr⟩ acc K := by
  subst hr
  simp only [wpE, wpDr, wnt, hc, hb, Bool.false_eq_true, if_false, get_gT] at h1 ⊢; exact h1
theorem wE_gd {d : Option Nat} {op : AOp} {g : Nat} {b : Bool} {p : Prop} {ip : Decidable p} (hc : lk t g = .bool (decide p)) (h1 : p → wpE P A (⟨d, some (g, b), op⟩ :: os) ⟨t, h, nr⟩ acc K) (h2 : ¬ p → wpE P A (⟨d, some (g, b), op⟩ :: os) ⟨t, h, nr⟩ acc K) :
    wpE P A (⟨d, some (g, b), op⟩ :: os) ⟨t, h, nr⟩ acc K := by
  by_cases hp : p
  · exact h1 hp
  · exact h2 hp
/-- A call whose result holds no own objects. -/
theorem wE_call {d f : Nat} {args : List AX} {as : List AV} {v : AV} {rd : List Nat} (hc : Con P f true as v []) (ha : (args.map (gT (lk t))).map (dr (hg h) 6) = as) (hv : sh nr v = v) (hr : rds (.call f args) (gT (lk t)) (hg h) = rd) (hw : wpE P A os ⟨(d, v) :: t, h, nr⟩ (([], rd) :: acc) K) :
    wpE P A (⟨some d, none, .call f args⟩ :: os) ⟨t, h, nr⟩ acc K := by
  subst hr
  simp only [wpE, wpDr, stepR] at hw ⊢
  refine ⟨true, v, [], ?_, .inl rfl, ?_⟩
  · rw [get_gT]; rw [← ha] at hc; exact hc.g
  · rw [hv, get_gT]; exact hw
/-- A call that makes new rows. -/
theorem wE_callN {d f : Nat} {args : List AX} {as : List AV} {v v' : AV} {objs : List Rows} {rd : List Nat} (hc : Con P f true as v objs) (ha : (args.map (gT (lk t))).map (dr (hg h) 6) = as) (hv : sh nr v = v') (hr : rds (.call f args) (gT (lk t)) (hg h) = rd) (hw : wpE P A os ⟨(d, v') :: t, mkh nr objs ++ h, nr + objs.length⟩ (((mkh nr objs).map (·.1), rd) :: acc) K) :
    wpE P A (⟨some d, none, .call f args⟩ :: os) ⟨t, h, nr⟩ acc K := by
  subst hr
  simp only [wpE, wpDr, stepR] at hw ⊢
  have hp := shO_plain (n := nr) hc.2.1
  refine ⟨true, v, objs, ?_, .inl rfl, ?_⟩
  · rw [get_gT]; rw [← ha] at hc; exact hc.g
  · rw [hv, get_gT, hp]; exact hw
/-- The same for objects which may hold one another. -/
theorem wE_callG {d f : Nat} {args : List AX} {as : List AV} {v v' : AV} {objs objs' : List Rows} {rd : List Nat} (hc : ConG P f true as v objs) (ha : (args.map (gT (lk t))).map (dr (hg h) 6) = as) (hv : sh nr v = v') (ho : objs.map (shR nr) = objs') (hr : rds (.call f args) (gT (lk t)) (hg h) = rd) (hw : wpE P A os ⟨(d, v') :: t, mkh nr objs' ++ h, nr + objs.length⟩ (((mkh nr objs').map (·.1), rd) :: acc) K) :
    wpE P A (⟨some d, none, .call f args⟩ :: os) ⟨t, h, nr⟩ acc K := by
  subst hr
  simp only [wpE, wpDr, stepR] at hw ⊢
  refine ⟨true, v, objs, ?_, .inl rfl, ?_⟩
  · rw [get_gT]; rw [← ha] at hc; exact hc
  · rw [hv, get_gT, ho]; exact hw
/-- A call of a function value. -/
theorem wE_callv {d f : Nat} {x : AX} {args : List AX} {caps as : List AV} {v : AV} {rd : List Nat} (hx : gT (lk t) x = .fn f caps) (hc : Con P f true as v []) (ha : (args.map (gT (lk t)) ++ caps).map (dr (hg h) 6) = as) (hv : sh nr v = v) (hr : rds (.callv x args) (gT (lk t)) (hg h) = rd) (hw : wpE P A os ⟨(d, v) :: t, h, nr⟩ (([], rd) :: acc) K) :
    wpE P A (⟨some d, none, .callv x args⟩ :: os) ⟨t, h, nr⟩ acc K := by
  subst hr
  simp only [wpE, wpDr, stepR, get_gT, hx] at hw ⊢
  refine ⟨true, v, [], ?_, .inl rfl, ?_⟩
  · rw [← ha] at hc; exact hc.g
  · rw [hv]; exact hw
/-- The results as they stand, the new objects numbered anew. -/
theorem ret_gen {ros : List AOp} {rs : List Nat} {v : AV} {objs : List Rows} {s : St} {e : EX} {ws : List AV} (he : e = .n ∨ e = .r) (hv : retVs s ros = some ws) (h1 : ws = retL (πof rs) v) (h2 : notOne v) (h3 : v.ltr objs.length = true) (h4 : rs.length = objs.length) (h5 : rs.Nodup)
    (h6 : ∀ (i : Nat) rows, objs[i]? = some rows → hg s.h (πof rs i) = some rows) : Ret ros rs v objs e s := by
  have : Ret ros rs v objs .r s := ⟨by rw [hv, h1], h2, h3, h4, h5, h6⟩
  rcases he with rfl | rfl
  · exact this
  · exact this
theorem retVs_1 {s : St} {r1 : AOp} {v1 : AV} (h1 : retV s r1 = some v1) : retVs s [r1] = some [v1] := by simp only [retVs, h1]
theorem retVs_2 {s : St} {r1 r2 : AOp} {v1 v2 : AV} (h1 : retV s r1 = some v1) (h2 : retV s r2 = some v2) : retVs s [r1, r2] = some [v1, v2] := by simp only [retVs, h1, h2]
theorem retVs_3 {s : St} {r1 r2 r3 : AOp} {v1 v2 v3 : AV} (h1 : retV s r1 = some v1) (h2 : retV s r2 = some v2) (h3 : retV s r3 = some v3) : retVs s [r1, r2, r3] = some [v1, v2, v3] := by simp only [retVs, h1, h2, h3]
/-- Two plain results. -/
theorem ret_2 {r1 r2 : AOp} {v1 v2 : AV} {s : St} {e : EX} (he : e = .n ∨ e = .r) (p1 : v1.plain = true) (p2 : v2.plain = true) (h : ∃ w1 w2, retV s r1 = some w1 ∧ retV s r2 = some w2 ∧ w1 = v1 ∧ w2 = v2) : Ret [r1, r2] [] (.tup [v1, v2]) [] e s := by
  obtain ⟨w1, w2, h1, h2, rfl, rfl⟩ := h
  have q : ∀ v : AV, v.plain = true → rn (πof []) v = v ∧ v.ltr 0 = true := by intro v hv; cases v <;> first | exact ⟨rfl, rfl⟩ | simp [AV.plain] at hv
  refine ret_gen he (retVs_2 h1 h2) ?_ (by simp [notOne]) ?_ rfl List.nodup_nil (fun i rows h => by simp at h)
  · simp only [retL, rnL, (q _ p1).1, (q _ p2).1]
  · simp only [List.length_nil, AV.ltr, ltrL, (q _ p1).2, (q _ p2).2, Bool.and_self]
/-- One new list and a plain result. -/
theorem ret_sb {r1 r2 : AOp} {sz off len r : Nat} {rows : Rows} {v2 : AV} {s : St} {e : EX} (he : e = .n ∨ e = .r) (p2 : v2.plain = true) (h : ∃ w2, retV s r1 = some (.sl r sz off len) ∧ retV s r2 = some w2 ∧ w2 = v2) (h1 : hg s.h r = some rows) :
    Ret [r1, r2] [r] (.tup [.sl 0 sz off len, v2]) [rows] e s := by
  obtain ⟨w2, g1, g2, rfl⟩ := h
  have q : ∀ v : AV, v.plain = true → rn (πof [r]) v = v ∧ v.ltr 1 = true := by intro v hv; cases v <;> first | exact ⟨rfl, rfl⟩ | simp [AV.plain] at hv
  refine ret_gen he (retVs_2 g1 g2) ?_ (by simp [notOne]) ?_ rfl (by simp) (fun i rows' h => ?_)
  · simp only [retL, rnL, rn, (q _ p2).1]; rfl
  · simp only [List.length_cons, List.length_nil, AV.ltr, ltrL, (q _ p2).2, Bool.and_self]; rfl
  · cases i with
    | zero => simp at h; subst h; exact h1
    | succ i => simp at h
/-- A call that makes new rows, in the order of the text. -/
theorem wG_callN {d f : Nat} {args : List AX} {as : List AV} {v v' : AV} {objs : List Rows} (hc : Con P f true as v objs) (ha : (args.map (gT (lk t))).map (dr (hg h) 6) = as) (hv : sh nr v = v') (hw : wpG P false os ⟨(d, v') :: t, mkh nr objs ++ h, nr + objs.length⟩ K) :
    wpG P false (⟨some d, none, .call f args⟩ :: os) ⟨t, h, nr⟩ K := by
  simp only [wpG, wpO, stepA, callA] at hw ⊢
  have hp := shO_plain (n := nr) hc.2.1
  refine .inl ⟨true, v, objs, ?_, .inl rfl, ?_⟩
  · rw [get_gT]; rw [← ha] at hc; exact hc.g
  · rw [hv, hp]; exact hw
end
end Go.Proofs.Yteoonedddgiacaa.Ab
