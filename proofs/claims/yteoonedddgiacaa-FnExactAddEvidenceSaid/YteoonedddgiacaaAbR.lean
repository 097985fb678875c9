/- Functions: a walk of the body gives the contract. -/
import Derived.Test.YteoonedddgiacaaAbQ
namespace Go.Proofs.Yteoonedddgiacaa.Ab
open Go Go.RowKit
set_option linter.unusedSimpArgs false
set_option linter.unusedVariables false

/-! ### Results -/
def resOp (P : Program) : ResultVar → Option AOp
  | .tmp t => some (.mv (.t t))
  | .cell a ty => do some (.ld (← isAg P ty) (← size? P ty) (.t a))
def resOps (P : Program) : List ResultVar → Option (List AOp)
  | [] => some []
  | r :: rs => match resOp P r, resOps P rs with
    | some x, some xs => some (x :: xs)
    | _, _ => none
def retV (s : St) (ro : AOp) : Option AV := (ev s.get (hg s.h) 0 ro).map (·.1)
def retVs (s : St) : List AOp → Option (List AV)
  | [] => some []
  | r :: rs => match retV s r, retVs s rs with
    | some x, some xs => some (x :: xs)
    | _, _ => none
def single : List AV → AV
  | [v] => v
  | vs => .tup vs

def resSem (tmps : Array Value) : ResultVar → Sem Value
  | .tmp t => pure (tmps.getD t undef)
  | .cell a t => do loadVar t (← asAddr (tmps.getD a undef))

theorem asAddr_sure {v : Value} {P : Program} {w : World} {t : TypeId} {u : Value} (h : (Instr.loadAt t v).run P w = .ok u w) : (do loadVar t (← asAddr v) : Sem Value).run P w = .ok u w := by
  cases v with
  | pointer a =>
    cases a with
    | none => simp [Instr.loadAt, Instr.sureAddr, runtimePanic] at h
    | some a => simpa [Instr.loadAt, Instr.sureAddr, asAddr] using h
  | _ => simp [Instr.loadAt, Instr.sureAddr] at h

theorem ret_one {P : Program} {B : Nat} {c : Cx} {s : St} {N : Nat → Prop} {a : Act} (hrel : Rel B c (hg s.h) N) (htm : ∀ t, V c (lk s.t t) (a.tmps.getD t undef)) {r : ResultVar} {ro : AOp} (hr : resOp P r = some ro) {v : AV} (hv : retV s ro = some v) :
    ∃ cv, (resSem a.tmps r).run P c.w = .ok cv c.w ∧ V c v cv := by
  cases r with
  | tmp t =>
    simp only [resOp, Option.some.injEq] at hr
    subst hr
    simp only [retV, ev, pureR, Option.map_some, Option.some.injEq] at hv
    subst hv
    exact ⟨_, rfl, htm t⟩
  | cell t ty =>
    simp only [resOp, Option.bind_eq_bind, Option.bind_eq_some_iff, Option.some.injEq] at hr
    obtain ⟨ag, hag, sz, hsz, rfl⟩ := hr
    simp only [retV, Option.map_eq_some_iff] at hv
    obtain ⟨⟨v', u, k⟩, he, rfl⟩ := hv
    have hx : V c (s.get (.t t)) (a.eval (.tmp t)) := htm t
    obtain ⟨_, _, cv, hrun, hV⟩ := s_ld_p (P := P) (a := a) (x := .tmp t) hrel hag hsz hx he
    refine ⟨cv, ?_, hV⟩
    have := hrun { dst := none, op := .load ty (.tmp t), type := 0, pos := "", after := #[], guard := none } rfl
    simp only [execOp, Sem.run_bind] at this
    have h2 : (Instr.loadAt ty (a.eval (.tmp t))).run P c.w = .ok cv c.w := by
      cases hl : (Instr.loadAt ty (a.eval (.tmp t))).run P c.w with
      | ok x w => rw [hl] at this; simp at this; obtain ⟨rfl, rfl⟩ := this; rfl
      | halt x w => rw [hl] at this; simp at this
    exact asAddr_sure h2

theorem res_list {P : Program} {B : Nat} {c : Cx} {s : St} {N : Nat → Prop} {a : Act} (hrel : Rel B c (hg s.h) N) (htm : ∀ t, V c (lk s.t t) (a.tmps.getD t undef)) : ∀ (rs : List ResultVar) (ros : List AOp) (vs : List AV), resOps P rs = some ros → retVs s ros = some vs →
    ∃ cvs : List Value, (rs.mapM (resSem a.tmps)).run P c.w = .ok cvs c.w ∧ VL c vs cvs ∧ cvs.length = rs.length
  | [], ros, vs, hr, hv => by
    simp [resOps] at hr; subst hr
    simp [retVs] at hv; subst hv
    exact ⟨[], rfl, rfl, rfl⟩
  | r1 :: rs, ros, vs, hr, hv => by
    unfold resOps at hr
    cases h1 : resOp P r1 with
    | none => simp [h1] at hr
    | some o1 =>
      cases h1s : resOps P rs with
      | none => simp [h1, h1s] at hr
      | some os1 =>
        simp [h1, h1s] at hr; subst hr
        unfold retVs at hv
        cases v1 : retV s o1 with
        | none => simp [v1] at hv
        | some x1 =>
          cases v1s : retVs s os1 with
          | none => simp [v1, v1s] at hv
          | some xs1 =>
            simp [v1, v1s] at hv; subst hv
            obtain ⟨c1, hr1, hV1⟩ := ret_one hrel htm h1 v1
            obtain ⟨cs, hr2, hV2, hl⟩ := res_list hrel htm rs os1 xs1 h1s v1s
            refine ⟨c1 :: cs, ?_, ⟨c1, cs, rfl, hV1, hV2⟩, by simp [hl]⟩
            simp [List.mapM_cons, hr1, hr2]
theorem results_run {P : Program} {B : Nat} {c : Cx} {s : St} {N : Nat → Prop} {a : Act} (hrel : Rel B c (hg s.h) N) (htm : ∀ t, V c (lk s.t t) (a.tmps.getD t undef)) {fn : Func} {ros : List AOp} (hr : resOps P fn.results.toList = some ros) (hl : fn.results.size ≤ 6) {vs : List AV} (hv : retVs s ros = some vs) :
    ∃ cv, (results fn a.tmps).run P c.w = .ok cv c.w ∧ V c (single vs) cv := by
  have he : results fn a.tmps = (do let vs ← fn.results.mapM (resSem a.tmps); pure (if h : vs.size = 1 then vs[0] else .tuple vs)) := by
    unfold results
    rfl
  obtain ⟨cvs, h1, h2, h3⟩ := res_list hrel htm _ _ _ hr hv
  have hm : (fn.results.mapM (resSem a.tmps)).run P c.w = .ok cvs.toArray c.w := by
    rw [Array.mapM_eq_mapM_toList]
    simp [h1]
  have hvl := VL_length h2
  rw [he]
  cases vs with
  | nil =>
    have : cvs = [] := h2
    subst this
    exact ⟨.tuple #[], by simp [hm], #[], rfl, rfl⟩
  | cons x xs =>
    cases xs with
    | nil =>
      obtain ⟨u, us, rfl, e1, e2⟩ := h2
      have : us = [] := e2
      subst this
      exact ⟨u, by simp [hm], e1⟩
    | cons y ys =>
      have hne : ¬ cvs.toArray.size = 1 := by simp at hvl ⊢; omega
      refine ⟨.tuple cvs.toArray, ?_, cvs.toArray, rfl, by simpa using h2⟩
      simp only [Sem.run_bind, hm, Result.andThen_ok, dif_neg hne]
      rfl

def zipT : Nat → List AV → List (Nat × AV)
  | _, [] => []
  | k, x :: xs => (k, x) :: zipT (k + 1) xs

theorem zipT_lk : ∀ (xs : List AV) (k t : Nat), lk (zipT k xs) t = if k ≤ t then (xs[t - k]?).getD .undef else .undef
  | [], k, t => by simp [zipT, lk]
  | x :: xs, k, t => by
    simp only [zipT, lk]
    by_cases h : t = k
    · subst h; simp
    · rw [if_neg h, zipT_lk xs (k + 1) t]
      by_cases h2 : k + 1 ≤ t
      · rw [if_pos h2, if_pos (by omega), show t - k = (t - (k + 1)) + 1 by omega]; simp
      · rw [if_neg h2, if_neg (by omega)]

def retL (π : Nat → Nat) : AV → List AV
  | .tup vs => rnL π vs
  | v => [rn π v]
def notOne : AV → Prop
  | .tup vs => vs.length ≠ 1
  | _ => True

/-- What a body must come to: the results, with the new objects in an order of its own. -/
def Ret (ros : List AOp) (rs : List Nat) (v : AV) (objs : List Rows) : EX → St → Prop
  | .x _, _ => False
  | _, s => retVs s ros = some (retL (πof rs) v) ∧ notOne v ∧ v.ltr objs.length = true ∧ rs.length = objs.length ∧ rs.Nodup ∧ (∀ (i : Nat) rows, objs[i]? = some rows → hg s.h (πof rs i) = some rows)

structure Fun (P : Program) (f : Nat) (n : Nat) (ac : AC) (ros : List AOp) : Prop where
  ex : ∃ fn code, P.funcs[f]? = some fn ∧ (fn.name == "runtime.NumGoroutine") = false ∧ fn.body = some code ∧ fn.ntmps = n ∧ compC P n code = some ac ∧ resOps P fn.results.toList = some ros ∧ fn.results.size ≤ 6

theorem Fun.enters {P : Program} {f n : Nat} {ac : AC} {ros : List AOp} (h : Fun P f n ac ros) : Enters P f := by
  obtain ⟨fn, code, h1, h2, h3, _⟩ := h.ex
  intro args w
  have hp : (program.run P w : Result Program) = .ok P w := rfl
  simp only [callFunc, Sem.run_bind, hp, Result.andThen_ok, h1, h2, h3]
  simp

theorem single_rn (v : AV) (π : Nat → Nat) (h : notOne v) : single (retL π v) = rn π v := by
  cases v with
  | tup vs =>
    simp only [rn]
    cases vs with
    | nil => rfl
    | cons x xs =>
      cases xs with
      | nil => simp [notOne] at h
      | cons y ys => rfl
  | _ => rfl

/-- The start of a body. -/
theorem start_RS {P : Program} {B : Nat} {c0 : Cx} {h : List (Nat × Option Rows)} {nr n : Nat} {args : List AV} {cargs : Array Value} (hrel : Rel B c0 (hg h) (frm nr)) (ha : VL c0 args cargs.toList) (hlen : args.length ≤ n) :
    RS B c0 n { t := zipT 0 args, h := h, nr := nr } { tmps := cargs ++ Array.replicate (n - cargs.size) undef, defers := [] } c0.w := by
  have hsz : cargs.size = args.length := by have := VL_length ha; simpa using this
  refine ⟨⟨c0, rfl, Later.refl _ _, hrel, fun t => ?_⟩, by simp; omega, rfl⟩
  simp only [zipT_lk, Nat.zero_le, if_true, Nat.sub_zero]
  cases hx : args[t]? with
  | none => trivial
  | some x =>
    obtain ⟨u, h1, h2⟩ := VL_get ha hx
    have ht : t < cargs.size := by rw [hsz]; exact (List.getElem?_eq_some_iff.1 hx).1
    simp only [Option.getD_some]
    rw [Array.getD_eq_getD_getElem?, Array.getElem?_append_left ht]
    have : cargs[t]? = some u := by simpa using h1
    rw [this]
    exact h2

/-- The state at the end holds the result's objects under the numbers rs, and these hold one another. -/
def RetG (ros : List AOp) (rs : List Nat) (v : AV) (objs : List Rows) : EX → St → Prop
  | .x _, _ => False
  | _, s => retVs s ros = some (retL (πof rs) v) ∧ notOne v ∧ v.ltr objs.length = true ∧ rs.length = objs.length ∧ rs.Nodup ∧ (∀ (i : Nat) rows, objs[i]? = some rows → hg s.h (πof rs i) = some (rows.map fun row => rnL (πof rs) row))
def NestObjs (objs : List Rows) : Prop := ∀ rows ∈ objs, ∀ row ∈ rows, ∀ x ∈ row, AV.ltr objs.length x = true ∧ AV.nvf x = true
theorem rnL_get {π : Nat → Nat} : ∀ {row : List AV} {j : Nat} {x : AV}, row[j]? = some x → (rnL π row)[j]? = some (rn π x)
  | [], j, x, h => by simp at h
  | y :: ys, j, x, h => by
    cases j with
    | zero => simp at h; subst h; rfl
    | succ j => simp at h; simpa [rnL] using rnL_get h
theorem rnL_len {π : Nat → Nat} : ∀ {row : List AV}, (rnL π row).length = row.length
  | [] => rfl
  | y :: ys => by simp [rnL, rnL_len (row := ys)]
theorem con_of_wp {P : Program} (hm : P.follows .mixedOrders = true) {f n : Nat} {ac : AC} {ros : List AOp} (hf : Fun P f n ac ros) {args : List AV} (hlen : args.length ≤ n) {v : AV} {objs : List Rows} (rs : List Nat) (hpl : PlainObjs objs)
    (hw : wpC P 0 ac (Ret ros rs v objs) { t := zipT 0 args, h := [], nr := 0 }) : Con P f v.nvf args v objs := by
  have hE := hf.enters
  obtain ⟨fn, code, h1, h2, h3, rfl, h5, h6, h7⟩ := hf.ex
  have hrelOf : ∀ (F : Nat → Prop) (w : World), (∀ k, F k → k < w.heap.size) → Rel w.heap.size (cx0 F w) (hg []) (frm 0) := fun F w hF =>
    ⟨⟨fun r rows h => by simp [hg, upd] at h, fun r rows h => by simp [hg, upd] at h, fun r rows h => by simp [hg, upd] at h, fun r rows h => by simp [hg, upd] at h, fun r rows h => by simp [hg, upd] at h, fun r rows h => by simp [hg, upd] at h, fun r r' rows rows' h => by simp [hg, upd] at h⟩, fun r hr => hr.elim, hF, Nat.le_refl _⟩
  -- the run
  have run : ∀ (F : Nat → Prop) (w : World) (cargs : Array Value), (∀ k, F k → k < w.heap.size) → VL (cx0 F w) args cargs.toList →
      Calls P f cargs w fun e w' => ∃ c s, c.w = w' ∧ Later w.heap.size (cx0 F w) c ∧ Rel w.heap.size c (hg s.h) (frm s.nr) ∧ (∃ e', Ret ros rs v objs e' s) ∧ ∃ cv, e = .returned cv ∧ V c (rn (πof rs) v) cv := by
    intro F w cargs hF ha
    refine calls_of_wp h1 h3 ?_
    have hst := start_RS (P := P) (n := fn.ntmps) (hrelOf F w hF) ha hlen
    refine wpC_sound hm (c0 := cx0 F w) (B := w.heap.size) (m0 := 0) (fun r hr => hr.elim) code ac h5 (Ret ros rs v objs) _ _ w _ hw hst ?_
    intro e s a w' hq hRS
    have fin : Ret ros rs v objs .r s → a.defers = [] ∧ ∃ cv, (results fn a.tmps).run P w' = .ok cv w' ∧ ∃ c s, c.w = w' ∧ Later w.heap.size (cx0 F w) c ∧ Rel w.heap.size c (hg s.h) (frm s.nr) ∧ (∃ e', Ret ros rs v objs e' s) ∧ ∃ cv', Ending.returned cv = .returned cv' ∧ V c (rn (πof rs) v) cv' := by
      intro hq
      obtain ⟨⟨c, rfl, hlat, hrel, htm⟩, _, hdf⟩ := hRS
      obtain ⟨cv, g1, g2⟩ := results_run hrel htm h6 h7 hq.1
      rw [single_rn v _ hq.2.1] at g2
      exact ⟨hdf, cv, g1, c, s, rfl, hlat, hrel, ⟨.r, hq⟩, cv, rfl, g2⟩
    cases e with
    | n => exact fin hq
    | r => exact fin hq
    | x id => exact hq.elim
  refine ⟨hE, hpl, ?_⟩
  intro F w cargs hF ha
  refine (run F w cargs hF ha).mono ?_
  rintro e w' ⟨c, s, rfl, hlat, hrel, ⟨e', hret⟩, cv, rfl, hV⟩
  have hret' : v.ltr objs.length = true ∧ rs.length = objs.length ∧ rs.Nodup ∧ (∀ (i : Nat) rows, objs[i]? = some rows → hg s.h (πof rs i) = some rows) := by
    cases e' with
    | x id => exact hret.elim
    | n => exact hret.2.2
    | r => exact hret.2.2
  obtain ⟨hltr, hrl, hnd, hob⟩ := hret'
  have hlt : ∀ i rows, hl objs i = some rows → i < objs.length := fun i rows h => (List.getElem?_eq_some_iff.1 h).1
  refine ⟨(c.pull (πof rs)).below objs.length, cv, rfl, rfl, ⟨⟨hlat.ext.F, fun r hr => hr.elim, hlat.ext.L⟩, hlat.below, hlat.fresh⟩, ⟨⟨?_, ?_, ?_, ?_, ?_, ?_, ?_⟩, ?_, hrel.fb, hrel.bb⟩, ?_⟩
  · intro i rows h; exact ⟨hrel.hr.known _ rows (hob i rows h), hlt i rows h⟩
  · intro i rows h; exact hrel.hr.len _ rows (hob i rows h)
  · intro i rows h; exact hrel.hr.rowlen _ rows (hob i rows h)
  · intro r rows h i row hi j x hj
    obtain ⟨u, g1, g2, g3⟩ := hrel.hr.cells _ rows (hob r rows h) i row hi j x hj
    exact ⟨u, g1, g2, V_plain (hpl rows (List.mem_of_getElem? h) row (List.mem_of_getElem? hi) x (List.mem_of_getElem? hj)) g3⟩
  · intro i rows h; exact hrel.hr.live _ rows (hob i rows h)
  · intro i rows h; exact hrel.hr.base _ rows (hob i rows h)
  · intro i i' rows rows' h h' hne
    refine hrel.hr.inj _ _ rows rows' (hob i rows h) (hob i' rows' h') (fun e => hne ?_)
    have l1 := hlt i rows h
    have l2 := hlt i' rows' h'
    simp only [πof] at e
    rw [List.getD_eq_getElem?_getD, List.getD_eq_getElem?_getD, List.getElem?_eq_getElem (by omega), List.getElem?_eq_getElem (by omega)] at e
    exact (List.getElem_inj hnd).1 e
  · intro r hr hf; exact absurd hr.2 (Nat.not_lt.2 hf)
  · have hV2 := V_below (m := objs.length) v _ cv hltr (V_pull v c cv hV)
    cases hnv : v.nvf with
    | false => exact hV2
    | true => exact V_nvf v _ cv hnv hV2

theorem con_of_wpG {P : Program} (hm : P.follows .mixedOrders = true) {f n : Nat} {ac : AC} {ros : List AOp} (hf : Fun P f n ac ros) {args : List AV} (hlen : args.length ≤ n) {v : AV} {objs : List Rows} (rs : List Nat) (hpl : NestObjs objs)
    (hw : wpC P 0 ac (RetG ros rs v objs) { t := zipT 0 args, h := [], nr := 0 }) : ConG P f v.nvf args v objs := by
  have hE := hf.enters
  obtain ⟨fn, code, h1, h2, h3, rfl, h5, h6, h7⟩ := hf.ex
  have hrelOf : ∀ (F : Nat → Prop) (w : World), (∀ k, F k → k < w.heap.size) → Rel w.heap.size (cx0 F w) (hg []) (frm 0) := fun F w hF =>
    ⟨⟨fun r rows h => by simp [hg, upd] at h, fun r rows h => by simp [hg, upd] at h, fun r rows h => by simp [hg, upd] at h, fun r rows h => by simp [hg, upd] at h, fun r rows h => by simp [hg, upd] at h, fun r rows h => by simp [hg, upd] at h, fun r r' rows rows' h => by simp [hg, upd] at h⟩, fun r hr => hr.elim, hF, Nat.le_refl _⟩
  -- the run
  have run : ∀ (F : Nat → Prop) (w : World) (cargs : Array Value), (∀ k, F k → k < w.heap.size) → VL (cx0 F w) args cargs.toList →
      Calls P f cargs w fun e w' => ∃ c s, c.w = w' ∧ Later w.heap.size (cx0 F w) c ∧ Rel w.heap.size c (hg s.h) (frm s.nr) ∧ (∃ e', RetG ros rs v objs e' s) ∧ ∃ cv, e = .returned cv ∧ V c (rn (πof rs) v) cv := by
    intro F w cargs hF ha
    refine calls_of_wp h1 h3 ?_
    have hst := start_RS (P := P) (n := fn.ntmps) (hrelOf F w hF) ha hlen
    refine wpC_sound hm (c0 := cx0 F w) (B := w.heap.size) (m0 := 0) (fun r hr => hr.elim) code ac h5 (RetG ros rs v objs) _ _ w _ hw hst ?_
    intro e s a w' hq hRS
    have fin : RetG ros rs v objs .r s → a.defers = [] ∧ ∃ cv, (results fn a.tmps).run P w' = .ok cv w' ∧ ∃ c s, c.w = w' ∧ Later w.heap.size (cx0 F w) c ∧ Rel w.heap.size c (hg s.h) (frm s.nr) ∧ (∃ e', RetG ros rs v objs e' s) ∧ ∃ cv', Ending.returned cv = .returned cv' ∧ V c (rn (πof rs) v) cv' := by
      intro hq
      obtain ⟨⟨c, rfl, hlat, hrel, htm⟩, _, hdf⟩ := hRS
      obtain ⟨cv, g1, g2⟩ := results_run hrel htm h6 h7 hq.1
      rw [single_rn v _ hq.2.1] at g2
      exact ⟨hdf, cv, g1, c, s, rfl, hlat, hrel, ⟨.r, hq⟩, cv, rfl, g2⟩
    cases e with
    | n => exact fin hq
    | r => exact fin hq
    | x id => exact hq.elim
  refine ⟨hE, fun rows hr row hw x hx => (hpl rows hr row hw x hx).2, ?_⟩
  intro F w cargs hF ha
  refine (run F w cargs hF ha).mono ?_
  rintro e w' ⟨c, s, rfl, hlat, hrel, ⟨e', hret⟩, cv, rfl, hV⟩
  have hret' : v.ltr objs.length = true ∧ rs.length = objs.length ∧ rs.Nodup ∧ (∀ (i : Nat) rows, objs[i]? = some rows → hg s.h (πof rs i) = some (rows.map fun row => rnL (πof rs) row)) := by
    cases e' with
    | x id => exact hret.elim
    | n => exact hret.2.2
    | r => exact hret.2.2
  obtain ⟨hltr, hrl, hnd, hob⟩ := hret'
  have hlt : ∀ i rows, hl objs i = some rows → i < objs.length := fun i rows h => (List.getElem?_eq_some_iff.1 h).1
  refine ⟨(c.pull (πof rs)).below objs.length, cv, rfl, rfl, ⟨⟨hlat.ext.F, fun r hr => hr.elim, hlat.ext.L⟩, hlat.below, hlat.fresh⟩, ⟨⟨?_, ?_, ?_, ?_, ?_, ?_, ?_⟩, ?_, hrel.fb, hrel.bb⟩, ?_⟩
  · intro i rows h; exact ⟨hrel.hr.known _ _ (hob i rows h), hlt i rows h⟩
  · intro i rows h; have := hrel.hr.len _ _ (hob i rows h); rw [List.length_map] at this; exact this
  · intro i rows h row hrow; have := hrel.hr.rowlen _ _ (hob i rows h) _ (List.mem_map.2 ⟨row, hrow, rfl⟩); rwa [rnL_len] at this
  · intro r rows h i row hi j x hj
    obtain ⟨u, g1, g2, g3⟩ := hrel.hr.cells _ _ (hob r rows h) i (rnL (πof rs) row) (by rw [List.getElem?_map, hi]; rfl) j _ (rnL_get hj)
    exact ⟨u, g1, g2, V_below (m := objs.length) x _ u (hpl rows (List.mem_of_getElem? h) row (List.mem_of_getElem? hi) x (List.mem_of_getElem? hj)).1 (V_pull x c u g3)⟩
  · intro i rows h; exact hrel.hr.live _ _ (hob i rows h)
  · intro i rows h; exact hrel.hr.base _ _ (hob i rows h)
  · intro i i' rows rows' h h' hne
    refine hrel.hr.inj _ _ _ _ (hob i rows h) (hob i' rows' h') (fun e => hne ?_)
    have l1 := hlt i rows h
    have l2 := hlt i' rows' h'
    simp only [πof] at e
    rw [List.getD_eq_getElem?_getD, List.getD_eq_getElem?_getD, List.getElem?_eq_getElem (by omega), List.getElem?_eq_getElem (by omega)] at e
    exact (List.getElem_inj hnd).1 e
  · intro r hr hf; exact absurd hr.2 (Nat.not_lt.2 hf)
  · have hV2 := V_below (m := objs.length) v _ cv hltr (V_pull v c cv hV)
    cases hnv : v.nvf with
    | false => exact hV2
    | true => exact V_nvf v _ cv hnv hV2

theorem sh_of_wp {P : Program} (hm : P.follows .mixedOrders = true) {f n : Nat} {ac : AC} {ros : List AOp} (hf : Fun P f n ac ros) {args : List AV} (hlen : args.length ≤ n) {h h' : List (Nat × Option Rows)} {nr nr' : Nat} {v : AV}
    (hw : wpC P nr ac (fun e s => (match e with
      | .x _ => False
      | _ => True) ∧ ∃ vs, retVs s ros = some vs ∧ Le { t := [(0, single vs)], h := s.h, nr := s.nr } { t := [(0, v)], h := h', nr := nr' } ∧ nr ≤ nr') { t := zipT 0 args, h := h, nr := nr }) : Sh P f args h nr v h' nr' := by
  have hE := hf.enters
  obtain ⟨fn, code, h1, h2, h3, rfl, h5, h6, h7⟩ := hf.ex
  refine ⟨hE, ?_⟩
  intro B c0 cargs hrel0 ha
  refine calls_of_wp h1 h3 ?_
  have hst := start_RS (P := P) (n := fn.ntmps) hrel0 ha hlen
  have hk0 : ∀ r, c0.K r → r < nr := fun r hr => Nat.lt_of_not_le (hrel0.kn r hr)
  refine wpC_sound hm (c0 := c0) (B := B) (m0 := nr) hk0 code ac h5 _ _ _ c0.w _ hw hst ?_
  intro e s a w' hq hRS
  have fin : (∃ vs, retVs s ros = some vs ∧ Le { t := [(0, single vs)], h := s.h, nr := s.nr } { t := [(0, v)], h := h', nr := nr' } ∧ nr ≤ nr') → a.defers = [] ∧ ∃ cv, (results fn a.tmps).run P w' = .ok cv w' ∧ ∃ c cv', Ending.returned cv = .returned cv' ∧ c.w = w' ∧ Later B c0 c ∧ Rel B c (hg h') (frm nr') ∧ V c v cv' := by
    rintro ⟨vs, r1, r2, r3⟩
    obtain ⟨⟨c, rfl, hlat, hrel, htm⟩, _, hdf⟩ := hRS
    obtain ⟨cv, g1, g2⟩ := results_run hrel htm h6 h7 r1
    have hRS1 : RS B c0 1 { t := [(0, single vs)], h := s.h, nr := s.nr } { tmps := #[cv], defers := [] } c.w := by
      refine ⟨⟨c, rfl, hlat, hrel, fun t => ?_⟩, rfl, rfl⟩
      simp only [lk]
      split
      · rename_i e; subst e; exact g2
      · trivial
    obtain ⟨⟨c', e1, hlat', hrel', htm'⟩, _, _⟩ := hRS1.le hk0 r2 r3
    exact ⟨hdf, cv, g1, c', cv, rfl, e1, hlat', hrel', htm' 0⟩
  cases e with
  | n => exact fin hq.2
  | r => exact fin hq.2
  | x id => exact hq.1.elim
end Go.Proofs.Yteoonedddgiacaa.Ab
