/- Code on abstract states: what it asks, and that the machine keeps it: operations in their text order. -/
import Derived.Test.YteoonedddgiacaaAbK
namespace Go.Proofs.Yteoonedddgiacaa.Ab
open Go Go.RowKit
set_option linter.unusedSimpArgs false
set_option linter.unusedVariables false

/-! ### Translation -/
def compGuard (ops : Array Oper) : Option (Nat × Bool) → Option (Option (Nat × Bool))
  | none => some none
  | some (j, b) => match (ops[j]?).bind (·.dst) with
    | some t => some (some (t, b))
    | none => none
def compOper (P : Program) (n : Nat) (ops : Array Oper) (o : Oper) : Option AO := do
  let g ← compGuard ops o.guard
  let op ← compOp P o.op
  if (o.dst.all fun d => decide (d < n)) = true then some ⟨o.dst, g, op⟩ else none
def compOpers (P : Program) (n : Nat) (ops : Array Oper) : List Oper → Option (List AO)
  | [] => some []
  | o :: os => match compOper P n ops o, compOpers P n ops os with
    | some x, some xs => some (x :: xs)
    | _, _ => none

/-- The operations that a drawn region's operation waits for. -/
def waits (o : Oper) : List Nat := (o.after.toList.filter fun e => Region.binds .any e).map (·.on)

/-- The table of all that an operation waits for, by way of others too. -/
def closeW (ws : List (List Nat)) : List (List Nat) :=
  ws.foldl (fun acc w => acc ++ [(List.range acc.length).filter fun i => w.contains i || w.any fun k => (acc.getD k []).contains i]) []
def chkW (ws A : List (List Nat)) : Bool :=
  (List.range ws.length).all fun j => (ws.getD j []).all (fun i => decide (i < j)) && (A.getD j []).all fun i => (ws.getD j []).contains i || (ws.getD j []).any fun k => (A.getD k []).contains i

def axT : AX → List Nat
  | .t n => [n]
  | .c _ => []
def opAX : AOp → List AX
  | .mv x => [x]
  | .pick c a b => [c, a, b]
  | .alloc _ => []
  | .box _ _ x => [x]
  | .build _ parts => parts.map (·.2.2)
  | .bsl _ _ _ parts => parts.map (·.2)
  | .ld _ _ x => [x]
  | .st _ p x => [p, x]
  | .nck x => [x]
  | .bin _ x y => [x, y]
  | .bool2 _ x y => [x, y]
  | .str2 _ x y => [x, y]
  | .nil2 _ _ x y => [x, y]
  | .eqg _ _ x y => [x, y]
  | .un _ x => [x]
  | .cv _ x => [x]
  | .mkf _ caps => caps
  | .mks _ _ _ l c => [l, c]
  | .slc _ x lo hi => x :: (lo.toList ++ hi.toList)
  | .slc3 _ x lo hi mx => x :: hi :: mx :: lo.toList
  | .fa _ x => [x]
  | .fld _ _ _ x => [x]
  | .ia _ x i => [x, i]
  | .istr x i => [x, i]
  | .ext x _ => [x]
  | .call _ args => args
  | .callv x args => x :: args
  | .len x => [x]
  | .slen x => [x]
  | .app _ _ _ x y => [x, y]
  | .cpy _ x y => [x, y]
  | .clr _ _ x => [x]
  | .mx x y => [x, y]
  | .mn x y => [x, y]
def looks (o : AO) : List Nat := (opAX o.op).flatMap axT ++ (match o.g with
  | some (t, _) => [t]
  | none => [])
def djB (l m : List Nat) : Bool := l.all fun x => !m.contains x
def statB (os : List AO) (A : List (List Nat)) : Bool :=
  (List.range os.length).all fun j => (List.range j).all fun i => (A.getD j []).contains i || (match os[i]?, os[j]? with
    | some o, some o' => djB o.d.toList o'.d.toList && djB o.d.toList (looks o') && djB o'.d.toList (looks o)
    | _, _ => true)

/-- Code of which nothing is known: no walk passes here. -/
def badC : AC := .cond (.c .undef) .skip .skip
def compC (P : Program) (n : Nat) : Code → Option AC
  | .skip => some .skip
  | .region _ ops draw => match compOpers P n ops ops.toList with
    | some os => if draw then (if (chkW (ops.toList.map waits) (closeW (ops.toList.map waits)) && statB os (closeW (ops.toList.map waits))) = true then some (.dreg os (closeW (ops.toList.map waits))) else some badC) else some (.reg os)
    | none => some badC
  | .seq a b => match compC P n a, compC P n b with
    | some x, some y => some (.seq x y)
    | _, _ => none
  | .cond c a b => match cx c, compC P n a, compC P n b with
    | some z, some x, some y => some (.cond z x y)
    | _, _, _ => none
  | .block id b => match compC P n b with
    | some x => some (.blk id x)
    | none => none
  | .loop b => match compC P n b with
    | some x => some (.loop x)
    | none => none
  | .exit id => some (.exit id)
  | .ret => some .ret
  | _ => some badC

/-! ### States -/
structure RT (B : Nat) (c0 : Cx) (n : Nat) (T : Nat → AV) (H : Nat → Option Rows) (N : Nat → Prop) (a : Act) (w : World) : Prop where
  ex : ∃ c : Cx, c.w = w ∧ Later B c0 c ∧ Rel B c H N ∧ (∀ t, V c (T t) (a.tmps.getD t undef))
  size : a.tmps.size = n
  defers : a.defers = []

abbrev RS (B : Nat) (c0 : Cx) (n : Nat) (s : St) (a : Act) (w : World) : Prop := RT B c0 n (lk s.t) (hg s.h) (frm s.nr) a w

mutual
/-- Own objects below m. -/
def AV.ltr (m : Nat) : AV → Bool
  | .sl r _ _ _ => decide (r < m)
  | .pt r _ _ => decide (r < m)
  | .agg cs => ltrL m cs
  | .tup cs => ltrL m cs
  | .fn _ cs => ltrL m cs
  | _ => true
def ltrL (m : Nat) : List AV → Bool
  | [] => true
  | x :: xs => x.ltr m && ltrL m xs
end

/-- s' says no more than s. -/
structure Le (s s' : St) : Prop where
  t : ∀ t, lk s'.t t = .undef ∨ (lk s'.t t = lk s.t t ∧ (lk s'.t t).ltr s'.nr = true)
  h : ∀ r rows, hg s'.h r = some rows → hg s.h r = some rows ∧ r < s'.nr ∧ ∀ row ∈ rows, ∀ x ∈ row, AV.ltr s'.nr x = true

def Cx.below (c : Cx) (m : Nat) : Cx := { c with K := fun r => c.K r ∧ r < m }
mutual
theorem V_below {m : Nat} : ∀ (x : AV) (c : Cx) (v : Value), x.ltr m = true → V c x v → V (c.below m) x v
  | .undef, _, _, _, _ => trivial
  | .bool _, _, _, _, h => h
  | .int _ _, _, _, _, h => h
  | .str _, _, _, _, h => h
  | .nilS, _, _, _, h => h
  | .nilP, _, _, _, h => h
  | .nilF, _, _, _, h => h
  | .fn f cs, c, v, hx, h => by obtain ⟨ds, h1, h2⟩ := h; exact ⟨ds, h1, VL_below cs c _ hx h2⟩
  | .agg cs, c, v, hx, h => by obtain ⟨ds, h1, h2, h3⟩ := h; exact ⟨ds, h1, VL_below cs c _ hx h2, h3⟩
  | .tup cs, c, v, hx, h => by obtain ⟨ds, h1, h2⟩ := h; exact ⟨ds, h1, VL_below cs c _ hx h2⟩
  | .vw nn es, c, v, _, h => by
    obtain ⟨A, cap, sz, h1, h2, h3, h4⟩ := h
    exact ⟨A, cap, sz, h1, h2, h3, VM_mono (c := c.cl) (c' := c.below m) ⟨fun k hk => ⟨hk, rfl⟩, fun _ hk => hk.elim, fun _ _ hl => hl⟩ A sz 0 es (VM_cl h4)⟩
  | .vp cs, c, v, _, h => by
    obtain ⟨a, h1, h2⟩ := h
    exact ⟨a, h1, VC_mono (c := c.cl) (c' := c.below m) ⟨fun k hk => ⟨hk, rfl⟩, fun _ hk => hk.elim, fun _ _ hl => hl⟩ a 0 cs (VC_cl h2)⟩
  | .sl r s o l, c, v, hx, h => by
    obtain ⟨h1, h2⟩ := h
    exact ⟨⟨h1, by simpa [AV.ltr] using hx⟩, h2⟩
  | .pt r i j, c, v, hx, h => by
    obtain ⟨h1, h2⟩ := h
    exact ⟨⟨h1, by simpa [AV.ltr] using hx⟩, h2⟩
theorem VL_below {m : Nat} : ∀ (xs : List AV) (c : Cx) (vs : List Value), ltrL m xs = true → VL c xs vs → VL (c.below m) xs vs
  | [], _, _, _, h => h
  | x :: xs, c, vs, hx, h => by
    simp only [ltrL, Bool.and_eq_true] at hx
    obtain ⟨u, us, h1, h2, h3⟩ := h
    exact ⟨u, us, h1, V_below x c u hx.1 h2, VL_below xs c us hx.2 h3⟩
end

/-- The caller's own objects stay known. -/
theorem RS.le {B : Nat} {c0 : Cx} {n m0 : Nat} (h0 : ∀ r, c0.K r → r < m0) {s s' : St} {a : Act} {w : World} (hs : RS B c0 n s a w) (hle : Le s s') (hm : m0 ≤ s'.nr) : RS B c0 n s' a w := by
  obtain ⟨⟨c, rfl, hlat, hrel, htm⟩, hsz, hdf⟩ := hs
  have hK : ∀ r, c0.K r → (c.below s'.nr).K r := fun r hr => ⟨(hlat.ext.K r hr).1, by have := h0 r hr; omega⟩
  refine ⟨⟨c.below s'.nr, rfl, ⟨⟨hlat.ext.F, fun r hr => ⟨hK r hr, (hlat.ext.K r hr).2⟩, hlat.ext.L⟩, hlat.below, hlat.fresh⟩, ⟨⟨?_, ?_, ?_, ?_, ?_, ?_, ?_⟩, ?_, hrel.fb, hrel.bb⟩, ?_⟩, hsz, hdf⟩
  · intro r rows hr; exact ⟨hrel.hr.known r rows (hle.h r rows hr).1, (hle.h r rows hr).2.1⟩
  · intro r rows hr; exact hrel.hr.len r rows (hle.h r rows hr).1
  · intro r rows hr; exact hrel.hr.rowlen r rows (hle.h r rows hr).1
  · intro r rows hr i row hi j x hx
    obtain ⟨u, g1, g2, g3⟩ := hrel.hr.cells r rows (hle.h r rows hr).1 i row hi j x hx
    exact ⟨u, g1, g2, V_below x c u ((hle.h r rows hr).2.2 row (List.mem_of_getElem? hi) x (List.mem_of_getElem? hx)) g3⟩
  · intro r rows hr; exact hrel.hr.live r rows (hle.h r rows hr).1
  · intro r rows hr; exact hrel.hr.base r rows (hle.h r rows hr).1
  · intro r r' rows rows' hr hr' hne; exact hrel.hr.inj r r' rows rows' (hle.h r rows hr).1 (hle.h r' rows' hr').1 hne
  · intro r hr hf; exact absurd hr.2 (Nat.not_lt.2 hf)
  · intro t
    rcases hle.t t with h1 | ⟨h1, h2⟩
    · rw [h1]; trivial
    · have := htm t
      rw [← h1] at this
      exact V_below _ c _ h2 this

/-! ### One operation -/
def putF (T : Nat → AV) (d : Option Nat) (v : AV) : Nat → AV := fun t => if d = some t then v else T t
def gT (T : Nat → AV) : AX → AV
  | .t n => T n
  | .c v => v

/-- What an operation gives: by its own rule, or by a callee's contract. -/
def Res (P : Program) (op : AOp) (T : Nat → AV) (H : Nat → Option Rows) (nr : Nat) (v : AV) (u : List (Nat × Option Rows)) (k : Nat) : Prop :=
  match op with
  | .call f args => ∃ nv v0 objs, ConG P f nv ((args.map (gT T)).map (dr H 6)) v0 objs ∧ (nv = true ∨ nrfL (args.map (gT T)) = true) ∧ v = sh nr v0 ∧ u = mkh nr (objs.map (shR nr)) ∧ k = objs.length
  | .callv x args => match gT T x with
    | .fn f caps => ∃ nv v0 objs, ConG P f nv ((args.map (gT T) ++ caps).map (dr H 6)) v0 objs ∧ (nv = true ∨ nrfL (args.map (gT T) ++ caps) = true) ∧ v = sh nr v0 ∧ u = mkh nr (objs.map (shR nr)) ∧ k = objs.length
    | _ => False
  | op => ev (gT T) H nr op = some (v, u, k)

theorem getD_put {a : Act} {n : Nat} (hs : a.tmps.size = n) {d : Option Nat} (hd : (d.all fun d => decide (d < n)) = true) (v : Value) (t : Nat) : (a.put d v).tmps.getD t undef = if d = some t then v else a.tmps.getD t undef := by
  cases d with
  | none => simp [Act.put]
  | some d =>
    have hd' : d < a.tmps.size := by simpa [hs] using hd
    by_cases h : d = t
    · subst h; simp [Act.put, Array.getD_eq_getD_getElem?, Array.getElem?_setIfInBounds, hd']
    · have : ¬ (some d = some t) := fun e => h (by cases e; rfl)
      simp [Act.put, Array.getD_eq_getD_getElem?, Array.getElem?_setIfInBounds, h, this]

section
variable {P : Program} {B : Nat} {c0 : Cx} {n : Nat} {T : Nat → AV} {H : Nat → Option Rows} {N : Nat → Prop}

theorem RT.put {c : Cx} {a : Act} (hsz : a.tmps.size = n) (hdf : a.defers = []) {d : Option Nat} (hd : (d.all fun d => decide (d < n)) = true) {v : AV} {v' : Value}
    (hlat : Later B c0 c) (hrel : Rel B c H N) (htm : ∀ t, V c (T t) (a.tmps.getD t undef)) (hv : V c v v') : RT B c0 n (putF T d v) H N (a.put d v') c.w := by
  refine ⟨⟨c, rfl, hlat, hrel, fun t => ?_⟩, ?_, ?_⟩
  · rw [getD_put hsz hd]
    unfold putF
    split
    · exact hv
    · exact htm t
  · cases d <;> simp [Act.put, hsz]
  · cases d <;> simp [Act.put, hdf]

theorem RT.weak {a : Act} {w : World} {N' : Nat → Prop} (h : RT B c0 n T H N a w) (hN : ∀ r, N' r → N r) : RT B c0 n T H N' a w := by
  obtain ⟨⟨c, h1, h2, h3, h4⟩, h5, h6⟩ := h
  exact ⟨⟨c, h1, h2, h3.weak hN, h4⟩, h5, h6⟩

theorem gT_V {c : Cx} {a : Act} (htm : ∀ t, V c (T t) (a.tmps.getD t undef)) (x : Operand) (y : AX) (hx : cx x = some y) : V c (gT T y) (a.eval x) := by
  cases x with
  | tmp t => simp [cx] at hx; subst hx; exact htm t
  | const v =>
    unfold cx at hx
    split at hx
    · simp at *
    · rename_i cs he
      cases he
      split at hx
      · rename_i hl
        simp only [Option.map_eq_some_iff] at hx
        obtain ⟨xs, h1, rfl⟩ := hx
        have := leafs_V c _ hl xs h1
        exact ⟨cs, rfl, this.1, this.2.1⟩
      · simp at hx
    · rename_i u _ he
      cases he
      split at hx
      · rename_i hl
        simp only [Option.map_eq_some_iff] at hx
        obtain ⟨z, h1, rfl⟩ := hx
        obtain ⟨x, g1, g2, _⟩ := leaf_V c _ hl
        rw [h1] at g1; cases g1
        exact g2
      · simp at hx
    · simp at *
    · simp at *
  | func f => simp [cx] at hx; subst hx; exact ⟨#[], rfl, rfl⟩
  | global g => simp [cx] at hx

theorem gT_VL {c : Cx} {a : Act} (htm : ∀ t, V c (T t) (a.tmps.getD t undef)) : ∀ (xs : List Operand) (ys : List AX), cxs xs = some ys → VL c (ys.map (gT T)) (xs.map a.eval)
  | [], ys, h => by simp [cxs] at h; subst h; rfl
  | x :: xs, ys, h => by
    unfold cxs at h
    cases h1 : cx x with
    | none => simp [h1] at h
    | some y =>
      cases h2 : cxs xs with
      | none => simp [h1, h2] at h
      | some zs =>
        simp [h1, h2] at h; subst h
        exact ⟨_, _, rfl, gT_V htm x y h1, gT_VL htm xs zs h2⟩

theorem run_call {f : Nat} (hE : Enters P f) {o : Oper} {cl : Call} (ho : o.op = .call cl) {x : Operand} (hcal : cl.callee = .value x) {a : Act} {caps : Array Value} (hx : a.eval x = .func (.func f) #[] caps) (w : World) :
    (execOp a.eval o).run P w = .ok (.enter f (cl.args.map a.eval ++ caps)) w := by
  simp only [execOp, ho, resolve, hcal, hx, Deferred.ofValue, Sem.run_bind, Sem.run_pure, Result.andThen_ok, invoke]
  rw [hE]
  simp

theorem upon_call (o : Oper) (a : Act) {f : Nat} {cargs : Array Value} {w : World} {next : Act → World → Prop} {Q : Exit → Act → World → Prop}
    (h : Calls P f cargs w fun e w' => ∃ cv, e = .returned cv ∧ next (a.put o.dst cv) w') : o.upon P a next Q (.ok (.enter f cargs) w) := by
  simp only [Oper.upon]
  refine h.mono ?_
  rintro e w' ⟨cv, rfl, hn⟩
  exact hn

theorem comp_call_inv {op : Op} {f : Nat} {args : List AX} (hc : compOp P op = some (.call f args)) : ∃ cl, op = .call cl ∧ cl.callee = .value (.func f) ∧ cxs cl.args.toList = some args := by
  cases op with
  | call cl =>
    refine ⟨cl, rfl, ?_⟩
    simp only [compOp] at hc
    split at hc
    · rename_i f' hcal
      simp only [Option.bind_eq_bind, Option.bind_eq_some_iff, Option.some.injEq, AOp.call.injEq] at hc
      obtain ⟨ys, hys, rfl, rfl⟩ := hc
      exact ⟨hcal, hys⟩
    all_goals (repeat' split at hc)
    all_goals (simp [Option.bind_eq_some_iff] at hc)
  | _ =>
    exfalso
    simp only [compOp] at hc
    (repeat' split at hc)
    all_goals (first | (simp [Option.bind_eq_some_iff] at hc; done) | contradiction)

theorem comp_callv_inv {op : Op} {x : AX} {args : List AX} (hc : compOp P op = some (.callv x args)) : ∃ cl y, op = .call cl ∧ cl.callee = .value y ∧ cx y = some x ∧ cxs cl.args.toList = some args := by
  cases op with
  | call cl =>
    refine ⟨cl, ?_⟩
    simp only [compOp] at hc
    split at hc
    · simp [Option.bind_eq_some_iff] at hc
    · rename_i y _ hcal
      simp only [Option.bind_eq_bind, Option.bind_eq_some_iff, Option.some.injEq, AOp.callv.injEq] at hc
      obtain ⟨p, hp, ys, hys, rfl, rfl⟩ := hc
      exact ⟨y, rfl, hcal, hp, hys⟩
    all_goals (repeat' split at hc)
    all_goals (simp [Option.bind_eq_some_iff] at hc)
  | _ =>
    exfalso
    simp only [compOp] at hc
    (repeat' split at hc)
    all_goals (first | (simp [Option.bind_eq_some_iff] at hc; done) | contradiction)

theorem op_wp {a : Act} {w : World} (h : RT B c0 n T H N a w) {o : Oper} {ao : AOp} (hc : compOp P o.op = some ao) (hd : (o.dst.all fun d => decide (d < n)) = true) {nr : Nat} {v : AV} {u : List (Nat × Option Rows)} {k : Nat}
    (hr : Res P ao T H nr v u k) (hN : ∀ r, nr ≤ r → r < nr + k → N r) {next : Act → World → Prop} {Q : Exit → Act → World → Prop}
    (hn : ∀ a' w', RT B c0 n (putF T o.dst v) (upd H u) (less N nr k) a' w' → next a' w') : o.wp P a w next Q := by
  obtain ⟨⟨c, rfl, hlat, hrel, htm⟩, hsz, hdf⟩ := h
  have hgT : ∀ x y, cx x = some y → V c (gT T y) (a.eval x) := fun x y hx => gT_V htm x y hx
  unfold Oper.wp
  have evcase : ev (gT T) H nr ao = some (v, u, k) → o.upon P a next Q ((execOp a.eval o).run P c.w) := by
    intro he
    obtain ⟨nx, v', w', hrun, hnx, c', hw', hl', hrel', hv'⟩ := op_sound hrel hgT hc he hN o rfl
    subst hw'
    have hput := RT.put hsz hdf hd (hlat.trans hl') hrel' (fun t => V_mono hl'.ext _ _ (htm t)) hv'
    rw [hrun]
    rcases hnx with rfl | ⟨rfl, rfl⟩
    · exact hn _ _ hput
    · exact hn _ _ hput
  have concase : ∀ (f : Nat) (args : List AV) (cargs : Array Value), (∀ (hE : Enters P f), (execOp a.eval o).run P c.w = .ok (.enter f cargs) c.w) → VL c args cargs.toList →
      (∃ nv v0 objs, ConG P f nv (args.map (dr H 6)) v0 objs ∧ (nv = true ∨ nrfL args = true) ∧ v = sh nr v0 ∧ u = mkh nr (objs.map (shR nr)) ∧ k = objs.length) → o.upon P a next Q ((execOp a.eval o).run P c.w) := by
    rintro f args cargs hrun hVL ⟨nv, v0, objs, hcon, hnv, rfl, rfl, rfl⟩
    rw [hrun hcon.1]
    refine upon_call o a ((con_call hrel hcon hnv hVL hN).mono ?_)
    rintro e w' ⟨c', cv, rfl, rfl, hl', hrel', hv'⟩
    exact ⟨cv, rfl, hn _ _ (RT.put hsz hdf hd (hlat.trans hl') hrel' (fun t => V_mono hl'.ext _ _ (htm t)) hv')⟩
  unfold Res at hr
  split at hr
  · rename_i f args
    obtain ⟨cl, ho, hcal, hys⟩ := comp_call_inv hc
    refine concase f _ (cl.args.map a.eval ++ #[]) (fun hE => run_call hE ho hcal (caps := #[]) rfl c.w) ?_ hr
    simpa using gT_VL htm _ _ hys
  · rename_i x args
    split at hr
    · rename_i f caps hx
      obtain ⟨cl, y, ho, hcal, hp, hys⟩ := comp_callv_inv hc
      have hfv := hgT _ _ hp
      rw [hx] at hfv
      obtain ⟨cs, e1, e2⟩ := hfv
      refine concase f _ (cl.args.map a.eval ++ cs) (fun hE => run_call hE ho hcal e1 c.w) ?_ hr
      rw [Array.toList_append]
      exact VL_append (by simpa using gT_VL htm _ _ hys) e2
    · exact hr.elim
  · exact evcase hr
end
end Go.Proofs.Yteoonedddgiacaa.Ab
