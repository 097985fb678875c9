/- Code on abstract states: what it asks of a state, and that the machine keeps it. -/
import Derived.Deep.LoopGhost
import Derived.Test.YteoonedddgiacaaAbL
namespace Go.Proofs.Yteoonedddgiacaa.Ab
open Go Go.RowKit
set_option linter.unusedSimpArgs false
set_option linter.unusedVariables false

/-! ### Operations in text order -/
/-- A call, by a contract. -/
def callA (P : Program) (f : Nat) (args : List AV) (s : St) (K : AV → List (Nat × Option Rows) → Nat → Prop) : Prop :=
  (∃ nv v objs, ConG P f nv (args.map (dr (hg s.h) 6)) v objs ∧ (nv = true ∨ nrfL args = true) ∧ K (sh s.nr v) (mkh s.nr (objs.map (shR s.nr)) ++ s.h) (s.nr + objs.length)) ∨
  (∃ v h' nr', Sh P f args s.h s.nr v h' nr' ∧ K v h' nr')

def stepA (P : Program) (op : AOp) (s : St) (K : AV → List (Nat × Option Rows) → Nat → Prop) : Prop :=
  match op with
  | .call f args => callA P f (args.map s.get) s K
  | .callv x args => match s.get x with
    | .fn f caps => callA P f (args.map s.get ++ caps) s K
    | _ => False
  | op => match ev s.get (hg s.h) s.nr op with
    | some (v, u, k) => K v (u ++ s.h) (s.nr + k)
    | none => False

/-- Whether a guarded operation runs: the guard's value is a bool, or nothing at all where the guard itself was passed over. -/
def wnt (b : Bool) : AV → Option Bool
  | .bool c => some (c == b)
  | .tup _ => some false
  | _ => none

def wpO (P : Program) : List AO → St → (St → Prop) → Prop
  | [], s, Q => Q s
  | o :: os, s, Q =>
    match o.g with
    | none => stepA P o.op s (fun v h nr => wpO P os { t := (St.put s o.d v).t, h := h, nr := nr } Q)
    | some (t, b) => match wnt b (lk s.t t) with
      | some c => if c = true then stepA P o.op s (fun v h nr => wpO P os { t := (St.put s o.d v).t, h := h, nr := nr } Q) else wpO P os (St.put s o.d (.tup [])) Q
      | none => False

theorem get_gT (s : St) : s.get = gT (lk s.t) := by funext x; cases x <;> rfl
theorem lk_put (s : St) (d : Option Nat) (v : AV) : lk (St.put s d v).t = putF (lk s.t) d v := by
  funext t
  cases d with
  | none => simp [St.put, putF]
  | some d =>
    simp only [St.put, lk, putF]
    by_cases h : t = d
    · subst h; simp
    · rw [if_neg h, if_neg]; intro e; cases e; exact h rfl
theorem hg_upd (u h : List (Nat × Option Rows)) : hg (u ++ h) = upd (hg h) u := by
  funext r; exact upd_append _ u h r

section
variable {P : Program} {B : Nat} {c0 : Cx} {n : Nat}

def wantA (T : Nat → AV) : Option (Nat × Bool) → Bool → Prop
  | none, x => x = true
  | some (t, b), x => ∀ c, wnt b (T t) = some c → x = c

theorem wanted_of {T : Nat → AV} {H : Nat → Option Rows} {N : Nat → Prop} {a : Act} {w : World} (h : RT B c0 n T H N a w) {ops : Array Oper} {o : Oper} {g : Option (Nat × Bool)} (hg : compGuard ops o.guard = some g) :
    wantA T g (Region.wanted o (yielded ops a.tmps)) := by
  unfold Region.wanted
  cases hog : o.guard with
  | none => rw [hog] at hg; simp [compGuard] at hg; subst hg; rfl
  | some jb =>
    obtain ⟨j, b⟩ := jb
    rw [hog] at hg
    simp only [compGuard] at hg
    split at hg
    · rename_i t ht
      cases hg
      intro c hc
      obtain ⟨⟨cx, _, _, _, htm⟩, _, _⟩ := h
      have h1 := htm t
      cases hT : T t with
      | bool d =>
        rw [hT] at hc h1
        simp only [wnt, Option.some.injEq] at hc
        subst hc
        have h2 : a.tmps.getD t undef = .bool d := h1
        have h3 : a.tmps[t]? = some (.bool d) := by
          rw [Array.getD_eq_getD_getElem?] at h2
          cases hx : a.tmps[t]? with
          | none => rw [hx] at h2; cases h2
          | some y => rw [hx] at h2; simp at h2; rw [h2]
        simp only [yielded, ht, Option.bind_some, h3]
        cases d <;> cases b <;> rfl
      | tup vs =>
        rw [hT] at hc h1
        simp only [wnt, Option.some.injEq] at hc
        subst hc
        obtain ⟨cs, h2, _⟩ := h1
        have h3 : ∀ d, a.tmps[t]? ≠ some (.bool d) := by
          intro d hx
          rw [Array.getD_eq_getD_getElem?, hx] at h2
          cases h2
        simp only [yielded, ht, Option.bind_some]
        cases hx : a.tmps[t]? with
        | none => rfl
        | some y =>
          cases y with
          | bool d => exact absurd hx (h3 d)
          | _ => rfl
      | _ => rw [hT] at hc; simp [wnt] at hc
    · simp at hg

theorem step_wp {s : St} {a : Act} {w : World} (h : RS B c0 n s a w) {o : Oper} {ao : AOp} (hc : compOp P o.op = some ao) (hd : (o.dst.all fun d => decide (d < n)) = true)
    {K : AV → List (Nat × Option Rows) → Nat → Prop} (hs : stepA P ao s K) {next : Act → World → Prop} {Q : Exit → Act → World → Prop}
    (hn : ∀ v h nr a' w', K v h nr → RS B c0 n { t := (St.put s o.dst v).t, h := h, nr := nr } a' w' → next a' w') : o.wp P a w next Q := by
  have byRes : ∀ v u k, Res P ao (lk s.t) (hg s.h) s.nr v u k → K v (u ++ s.h) (s.nr + k) → o.wp P a w next Q := by
    intro v u k hr hK
    refine op_wp h hc hd hr (fun r h1 _ => h1) (fun a' w' h' => hn v _ _ a' w' hK ?_)
    show RT B c0 n (lk (St.put s o.dst v).t) (hg (u ++ s.h)) (frm (s.nr + k)) a' w'
    rw [lk_put, hg_upd]
    exact h'.weak (fun r hr => ⟨Nat.le_trans (Nat.le_add_right _ _) hr, fun hh => absurd hh.2 (Nat.not_lt.2 hr)⟩)
  have bySh : ∀ (f : Nat) (args : List AV) (v : AV) h' nr', Sh P f args s.h s.nr v h' nr' → K v h' nr' →
      (∀ (c : Cx) (cargs : Array Value), True) → (∀ (hE : Enters P f) (c : Cx), c.w = w → (∀ t, V c (lk s.t t) (a.tmps.getD t undef)) → ∃ cargs : Array Value, (execOp a.eval o).run P w = .ok (.enter f cargs) w ∧ VL c args cargs.toList) → o.wp P a w next Q := by
    intro f args v h' nr' hsh hK _ hrun
    obtain ⟨⟨c, hcw, hlat, hrel, htm⟩, hsz, hdf⟩ := h
    obtain ⟨cargs, hr, hVL⟩ := hrun hsh.1 c hcw htm
    subst hcw
    unfold Oper.wp
    rw [hr]
    refine upon_call o a ((hsh.2 B c cargs hrel hVL).mono ?_)
    rintro e w' ⟨c', cv, rfl, rfl, hl', hrel', hv'⟩
    refine ⟨cv, rfl, hn v h' nr' _ _ hK ?_⟩
    show RT B c0 n (lk (St.put s o.dst v).t) (hg h') (frm nr') _ _
    rw [lk_put]
    exact RT.put hsz hdf hd (hlat.trans hl') hrel' (fun t => V_mono hl'.ext _ _ (htm t)) hv'
  unfold stepA at hs
  split at hs
  · rename_i f args
    rw [get_gT] at hs
    rcases hs with ⟨nv, v, objs, h1, h2, h3⟩ | ⟨v, h', nr', h1, h2⟩
    · exact byRes _ _ _ ⟨nv, v, objs, h1, h2, rfl, rfl, rfl⟩ h3
    · obtain ⟨cl, ho, hcal, hys⟩ := comp_call_inv hc
      refine bySh f _ v h' nr' h1 h2 (fun _ _ => trivial) (fun hE c hcw htm => ⟨cl.args.map a.eval ++ #[], run_call hE ho hcal (caps := #[]) rfl w, ?_⟩)
      simpa using gT_VL htm _ _ hys
  · rename_i x args
    rw [get_gT] at hs
    split at hs
    · rename_i f caps hx
      rcases hs with ⟨nv, v, objs, h1, h2, h3⟩ | ⟨v, h', nr', h1, h2⟩
      · refine byRes _ _ _ ?_ h3
        simp only [Res, hx]
        exact ⟨nv, v, objs, h1, h2, rfl, rfl, rfl⟩
      · obtain ⟨cl, y, ho, hcal, hp, hys⟩ := comp_callv_inv hc
        obtain ⟨⟨cc, hccw, _, _, htm0⟩, _, _⟩ := id h
        have hfv0 := gT_V htm0 _ _ hp
        rw [hx] at hfv0
        obtain ⟨cs, e1, _⟩ := hfv0
        refine bySh f _ v h' nr' h1 h2 (fun _ _ => trivial) (fun hE c hcw htm => ⟨cl.args.map a.eval ++ cs, run_call hE ho hcal e1 w, ?_⟩)
        have hfv := gT_V htm _ _ hp
        rw [hx] at hfv
        obtain ⟨cs', e1', e2⟩ := hfv
        rw [e1] at e1'
        cases e1'
        rw [Array.toList_append]
        exact VL_append (by simpa using gT_VL htm _ _ hys) e2
    · exact hs.elim
  · rename_i hn1 hn2
    rw [get_gT] at hs
    split at hs
    · rename_i v u k he
      refine byRes v u k ?_ hs
      unfold Res
      split
      · exact absurd rfl (hn1 _ _)
      · exact absurd rfl (hn2 _ _)
      · exact he
    · exact hs.elim

theorem RT.skip {T : Nat → AV} {H : Nat → Option Rows} {N : Nat → Prop} {a : Act} {w : World} (h : RT B c0 n T H N a w) {d : Option Nat} (hd : (d.all fun d => decide (d < n)) = true) : RT B c0 n (putF T d (.tup [])) H N (a.put d undef) w := by
  obtain ⟨⟨c, rfl, hlat, hrel, htm⟩, hsz, hdf⟩ := h
  exact RT.put hsz hdf hd hlat hrel htm ⟨#[], rfl, rfl⟩

theorem compOpers_get {ops : Array Oper} : ∀ (l : List Oper) (os : List AO), compOpers P n ops l = some os → os.length = l.length ∧ ∀ (i : Nat) (o : Oper), l[i]? = some o → ∃ ao, os[i]? = some ao ∧ compOper P n ops o = some ao
  | [], os, h => by simp [compOpers] at h; subst h; simp
  | o :: l, os, h => by
    unfold compOpers at h
    cases h1 : compOper P n ops o with
    | none => simp [h1] at h
    | some x =>
      cases h2 : compOpers P n ops l with
      | none => simp [h1, h2] at h
      | some xs =>
        simp [h1, h2] at h; subst h
        obtain ⟨i1, i2⟩ := compOpers_get l xs h2
        refine ⟨by simp [i1], fun i o' ho => ?_⟩
        cases i with
        | zero => simp at ho; subst ho; exact ⟨x, rfl, h1⟩
        | succ i => simp at ho; simpa using i2 i o' ho

theorem compOper_inv {ops : Array Oper} {o : Oper} {ao : AO} (h : compOper P n ops o = some ao) : ao.d = o.dst ∧ compGuard ops o.guard = some ao.g ∧ compOp P o.op = some ao.op ∧ (o.dst.all fun d => decide (d < n)) = true := by
  unfold compOper at h
  simp only [Option.bind_eq_bind, Option.bind_eq_some_iff] at h
  obtain ⟨g, h1, op, h2, h3⟩ := h
  split at h3
  · rename_i hd
    cases h3
    exact ⟨rfl, h1, h2, hd⟩
  · simp at h3

theorem wpO_sound {ops : Array Oper} {Q : Exit → Act → World → Prop} : ∀ (k : Nat) (l : List Nat) (os : List AO), l = List.range' k (ops.size - k) → (∀ i o, k ≤ i → ops[i]? = some o → ∃ ao, os[i - k]? = some ao ∧ compOper P n ops o = some ao) → os.length = ops.size - k →
    ∀ (s : St) (Q' : St → Prop) (a : Act) (w : World), wpO P os s Q' → RS B c0 n s a w → (∀ s a w, Q' s → RS B c0 n s a w → Q .normal a w) → wpOps P ops Q l a w := by
  intro k l
  induction l generalizing k with
  | nil =>
    intro os hl _ hlen s Q' a w hw hs hQ
    have : os = [] := by
      apply List.eq_nil_of_length_eq_zero
      rw [hlen]
      have := congrArg List.length hl
      simp at this; omega
    subst this
    exact hQ s a w hw hs
  | cons i l ih =>
    intro os hl hos hlen s Q' a w hw hs hQ
    have hk : k < ops.size := by
      have := congrArg List.length hl
      simp at this; omega
    have hr : List.range' k (ops.size - k) = k :: List.range' (k + 1) (ops.size - (k + 1)) := by
      rw [show ops.size - k = (ops.size - (k + 1)) + 1 by omega, List.range'_succ]
    rw [hr] at hl
    cases hl
    obtain ⟨o, ho⟩ : ∃ o, ops[i]? = some o := ⟨ops[i], by simp [hk]⟩
    obtain ⟨ao, h1, h2⟩ := hos i o (Nat.le_refl _) ho
    cases os with
    | nil => simp at h1
    | cons ao' os =>
      simp at h1; subst h1
      obtain ⟨e1, e2, e3, e4⟩ := compOper_inv h2
      have ih' := ih (i + 1) os rfl (fun q o hi ho => by
        obtain ⟨ao, g1, g2⟩ := hos q o (by omega) ho
        rw [show q - i = (q - (i + 1)) + 1 by omega] at g1
        exact ⟨ao, by simpa using g1, g2⟩) (by simp at hlen; omega)
      simp only [wpOps, ho]
      have hwant := wanted_of hs e2
      have go : stepA P ao'.op s (fun v h nr => wpO P os { t := (St.put s ao'.d v).t, h := h, nr := nr } Q') → o.wp P a w (wpOps P ops Q (List.range' (i + 1) (ops.size - (i + 1)))) Q := by
        intro hst
        refine step_wp hs e3 e4 hst (fun v h nr a' w' hK hRS => ih' _ Q' a' w' hK ?_ hQ)
        rw [e1]; exact hRS
      simp only [wpO] at hw
      cases hg0 : ao'.g with
      | none =>
        rw [hg0] at hw hwant
        rw [show Region.wanted o (yielded ops a.tmps) = true from hwant]
        simp only [if_true]
        exact .inl (go hw)
      | some tb =>
        obtain ⟨t, b⟩ := tb
        rw [hg0] at hw hwant
        simp only at hw
        cases hlk : wnt b (lk s.t t) with
        | some c =>
          rw [hlk] at hw
          simp only at hw
          rw [show Region.wanted o (yielded ops a.tmps) = c from hwant c hlk]
          by_cases hcb : c = true
          · subst hcb
            rw [if_pos rfl] at hw
            simp only [if_true]
            exact .inl (go hw)
          · rw [if_neg hcb] at hw
            have : c = false := by simpa using hcb
            simp only [this, Bool.false_eq_true, if_false]
            refine ih' _ Q' _ _ hw ?_ hQ
            show RT B c0 n (lk (St.put s ao'.d (.tup [])).t) (hg (St.put s ao'.d (.tup [])).h) (frm (St.put s ao'.d (.tup [])).nr) _ _
            rw [lk_put, e1]
            have hh : (St.put s o.dst (.tup [])).h = s.h := by cases o.dst <;> rfl
            have hn : (St.put s o.dst (.tup [])).nr = s.nr := by cases o.dst <;> rfl
            rw [hh, hn]
            exact hs.skip e4
        | none => rw [hlk] at hw; exact hw.elim
end
end Go.Proofs.Yteoonedddgiacaa.Ab
