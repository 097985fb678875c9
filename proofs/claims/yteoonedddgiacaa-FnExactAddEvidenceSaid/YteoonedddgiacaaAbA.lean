/- An abstract view of the model's values and memory: values by content, own objects by number; what a value or an object of this view says of the machine's world, and that it lasts while the world grows. -/
import Derived.WalkKit
import Derived.Below
import Derived.Laws.Cells
namespace Go.Proofs.Yteoonedddgiacaa.Ab
set_option linter.unusedVariables false
set_option linter.unusedSimpArgs false
open Go Go.RowKit

inductive AV where
  | undef
  | bool (b : Bool)
  | int (k : IntKind) (n : Int)
  | str (s : ByteArray)
  | nilS
  | nilP
  | nilF
  | fn (f : Nat) (caps : List AV)
  | agg (cs : List AV)
  | tup (vs : List AV)
  | vw (nn : Bool) (es : List (List AV))
  | vp (cs : List AV)
  | sl (r sz off len : Nat)
  | pt (r i j : Nat)

abbrev Rows := List (List AV)

structure Info where
  blk : Nat
  st : Nat
  sz : Nat
  n : Nat

structure Cx where
  F : Nat → Prop
  K : Nat → Prop
  ρ : Nat → Info
  w : World

/-- Block g is a row of cells, none of them frozen, of at least m cells. -/
def Live (w : World) (g m : Nat) : Prop := ∃ cs T, w.heap[g]? = some (.cells cs T (0, 0)) ∧ m ≤ cs.size

/-- The same, without own objects. -/
def Cx.cl (c : Cx) : Cx := { c with K := fun _ => False }

mutual
def VV : AV → Cx → Value → Prop
  | .undef, _, _ => True
  | .bool b, _, v => v = .bool b
  | .int k n, _, v => v = .int k n
  | .str s, _, v => v = .string s
  | .nilS, _, v => v = .slice none 0 0
  | .nilP, _, v => v = .pointer none
  | .nilF, _, v => v = .nilFunc
  | .fn f caps, c, v => ∃ cs : Array Value, v = .func (.func f) #[] cs ∧ VVL caps c cs.toList
  | .agg xs, c, v => ∃ cs : Array Value, v = .agg cs ∧ VVL xs c cs.toList ∧ ∀ u ∈ cs.toList, u.oneCell' = true
  | .tup xs, c, v => ∃ cs : Array Value, v = .tuple cs ∧ VVL xs c cs.toList
  | .vw nn es, c, v => ∃ A cap sz, v = .slice A es.length cap ∧ es.length ≤ cap ∧ (nn = true → A ≠ none) ∧ VVM es c A sz 0
  | .vp xs, c, v => ∃ a, v = .pointer (some a) ∧ VVC xs c a 0
  | .sl r sz off len, c, v => c.K r ∧ (c.ρ r).sz = sz ∧ ∃ A cap, v = .slice (some A) len cap ∧ (0 < cap → A = ⟨(c.ρ r).blk, (c.ρ r).st + off * sz, none⟩) ∧ off + len ≤ (c.ρ r).n ∧ (c.ρ r).n ≤ off + cap ∧
      Live c.w (c.ρ r).blk ((c.ρ r).st + (off + cap) * sz)
  | .pt r i j, c, v => c.K r ∧ v = .pointer (some ⟨(c.ρ r).blk, (c.ρ r).st + i * (c.ρ r).sz + j, none⟩)
def VVL : List AV → Cx → List Value → Prop
  | [], _, vs => vs = []
  | x :: xs, c, vs => ∃ u us, vs = u :: us ∧ VV x c u ∧ VVL xs c us
def VVC : List AV → Cx → Addr → Nat → Prop
  | [], _, _, _ => True
  | x :: xs, c, a, k => (c.F a.block ∧ ∃ u, c.w.cell? (a.add k) = some u ∧ u.oneCell' = true ∧ VV x c.cl u) ∧ VVC xs c a (k + 1)
def VVM : List (List AV) → Cx → Option Addr → Nat → Nat → Prop
  | [], _, _, _, _ => True
  | row :: rows, c, A, sz, i => (∃ a, A = some a ∧ row.length = sz ∧ VVC row c a (i * sz)) ∧ VVM rows c A sz (i + 1)
end

abbrev V (c : Cx) (x : AV) (v : Value) : Prop := VV x c v
abbrev VL (c : Cx) (xs : List AV) (vs : List Value) : Prop := VVL xs c vs
abbrev VC (c : Cx) (a : Addr) (k : Nat) (xs : List AV) : Prop := VVC xs c a k
abbrev VM (c : Cx) (A : Option Addr) (sz i : Nat) (es : List (List AV)) : Prop := VVM es c A sz i

/-- c' is a later state of c. -/
structure Ext (c c' : Cx) : Prop where
  F : ∀ k, c.F k → c'.F k ∧ c'.w.heap[k]? = c.w.heap[k]?
  K : ∀ r, c.K r → c'.K r ∧ c'.ρ r = c.ρ r
  L : ∀ g m, Live c.w g m → Live c'.w g m

theorem Ext.refl (c : Cx) : Ext c c := ⟨fun _ h => ⟨h, rfl⟩, fun _ h => ⟨h, rfl⟩, fun _ _ h => h⟩
theorem Ext.trans {a b c : Cx} (h : Ext a b) (k : Ext b c) : Ext a c :=
  ⟨fun i hi => ⟨(k.F i (h.F i hi).1).1, (k.F i (h.F i hi).1).2.trans (h.F i hi).2⟩, fun r hr => ⟨(k.K r (h.K r hr).1).1, (k.K r (h.K r hr).1).2.trans (h.K r hr).2⟩, fun g m hl => k.L g m (h.L g m hl)⟩

theorem add_block (a : Addr) (k : Nat) : (a.add k).block = a.block := by unfold Addr.add; split <;> rfl

theorem Ext.cl {c c' : Cx} (e : Ext c c') : Ext c.cl c'.cl := ⟨e.F, fun _ h => h.elim, e.L⟩
theorem Ext.of_cl (c : Cx) : Ext c.cl c := ⟨fun _ h => ⟨h, rfl⟩, fun _ h => h.elim, fun _ _ h => h⟩

mutual
theorem VV_mono : ∀ (x : AV) (c c' : Cx) (_ : Ext c c') (v : Value), V c x v → V c' x v
  | .undef, _, _, _, _, _ => trivial
  | .bool _, _, _, _, _, h => h
  | .int _ _, _, _, _, _, h => h
  | .str _, _, _, _, _, h => h
  | .nilS, _, _, _, _, h => h
  | .nilP, _, _, _, _, h => h
  | .nilF, _, _, _, _, h => h
  | .fn f caps, c, c', e, v, h => by obtain ⟨cs, h1, h2⟩ := h; exact ⟨cs, h1, VVL_mono caps c c' e _ h2⟩
  | .agg xs, c, c', e, v, h => by obtain ⟨cs, h1, h2, h3⟩ := h; exact ⟨cs, h1, VVL_mono xs c c' e _ h2, h3⟩
  | .tup xs, c, c', e, v, h => by obtain ⟨cs, h1, h2⟩ := h; exact ⟨cs, h1, VVL_mono xs c c' e _ h2⟩
  | .vw nn es, c, c', e, v, h => by obtain ⟨A, cap, sz, h1, h2, h3, h4⟩ := h; exact ⟨A, cap, sz, h1, h2, h3, VVM_mono es c c' e A sz 0 h4⟩
  | .vp xs, c, c', e, v, h => by obtain ⟨a, h1, h2⟩ := h; exact ⟨a, h1, VVC_mono xs c c' e a 0 h2⟩
  | .sl r sz off len, c, c', e, v, h => by
    obtain ⟨h1, h1', A, cap, h2, h2', h3, h4, h5⟩ := h
    have := e.K r h1
    exact ⟨this.1, by rw [this.2]; exact h1', A, cap, h2, by rw [this.2]; exact h2', by rw [this.2]; exact h3, by rw [this.2]; exact h4, by rw [this.2]; exact e.L _ _ h5⟩
  | .pt r i j, c, c', e, v, h => by
    obtain ⟨h1, h2⟩ := h
    have := e.K r h1
    exact ⟨this.1, by rw [this.2]; exact h2⟩
theorem VVL_mono : ∀ (xs : List AV) (c c' : Cx) (_ : Ext c c') (vs : List Value), VL c xs vs → VL c' xs vs
  | [], _, _, _, _, h => h
  | x :: xs, c, c', e, vs, h => by obtain ⟨u, us, h1, h2, h3⟩ := h; exact ⟨u, us, h1, VV_mono x c c' e u h2, VVL_mono xs c c' e us h3⟩
theorem VVC_mono : ∀ (xs : List AV) (c c' : Cx) (_ : Ext c c') (a : Addr) (k : Nat), VC c a k xs → VC c' a k xs
  | [], _, _, _, _, _, _ => trivial
  | x :: xs, c, c', e, a, k, h => by
    obtain ⟨⟨h1, u, h2, h3, h4⟩, h5⟩ := h
    refine ⟨⟨(e.F _ h1).1, u, ?_, h3, VV_mono x c.cl c'.cl e.cl u h4⟩, VVC_mono xs c c' e a (k + 1) h5⟩
    rw [← h2]
    exact World.cell?_of_block (by rw [add_block]; exact (e.F _ h1).2)
theorem VVM_mono : ∀ (rows : List (List AV)) (c c' : Cx) (_ : Ext c c') (A : Option Addr) (sz i : Nat), VM c A sz i rows → VM c' A sz i rows
  | [], _, _, _, _, _, _, _ => trivial
  | row :: rows, c, c', e, A, sz, i, h => by
    obtain ⟨⟨a, h1, h2, h3⟩, h4⟩ := h
    exact ⟨⟨a, h1, h2, VVC_mono row c c' e a _ h3⟩, VVM_mono rows c c' e A sz (i + 1) h4⟩
end
theorem V_mono {c c' : Cx} (e : Ext c c') (x : AV) (v : Value) (h : V c x v) : V c' x v := VV_mono x c c' e v h
theorem VL_mono {c c' : Cx} (e : Ext c c') (xs : List AV) (vs : List Value) (h : VL c xs vs) : VL c' xs vs := VVL_mono xs c c' e vs h
theorem VC_mono {c c' : Cx} (e : Ext c c') (a : Addr) (k : Nat) (xs : List AV) (h : VC c a k xs) : VC c' a k xs := VVC_mono xs c c' e a k h
theorem VM_mono {c c' : Cx} (e : Ext c c') (A : Option Addr) (sz i : Nat) (rows : List (List AV)) (h : VM c A sz i rows) : VM c' A sz i rows := VVM_mono rows c c' e A sz i h

/-! ### Lists -/
theorem VL_length {c : Cx} : ∀ {xs : List AV} {vs : List Value}, VL c xs vs → vs.length = xs.length
  | [], _, h => by rw [show _ = [] from h]; rfl
  | x :: xs, vs, h => by obtain ⟨u, us, rfl, _, h3⟩ := h; simp [VL_length h3]
theorem VL_get {c : Cx} : ∀ {xs : List AV} {vs : List Value}, VL c xs vs → ∀ {i : Nat} {x : AV}, xs[i]? = some x → ∃ u, vs[i]? = some u ∧ V c x u
  | [], _, _, i, x, hx => by simp at hx
  | y :: ys, vs, h, i, x, hx => by
    obtain ⟨u, us, rfl, h2, h3⟩ := h
    cases i with
    | zero => simp at hx; subst hx; exact ⟨u, rfl, h2⟩
    | succ i => simp at hx; exact VL_get h3 hx
theorem VL_append {c : Cx} : ∀ {xs ys : List AV} {vs us : List Value}, VL c xs vs → VL c ys us → VL c (xs ++ ys) (vs ++ us)
  | [], ys, vs, us, h, k => by rw [show vs = [] from h]; exact k
  | x :: xs, ys, vs, us, h, k => by obtain ⟨u, us', rfl, h2, h3⟩ := h; exact ⟨u, us' ++ us, rfl, h2, VL_append h3 k⟩
theorem VL_take {c : Cx} : ∀ {xs : List AV} {vs : List Value} (n : Nat), VL c xs vs → VL c (xs.take n) (vs.take n)
  | _, _, 0, _ => by simp [VL, VVL]
  | [], vs, n + 1, h => by rw [show vs = [] from h]; simp [VL, VVL]
  | x :: xs, vs, n + 1, h => by obtain ⟨u, us, rfl, h2, h3⟩ := h; exact ⟨u, us.take n, rfl, h2, VL_take n h3⟩
theorem VL_drop {c : Cx} : ∀ {xs : List AV} {vs : List Value} (n : Nat), VL c xs vs → VL c (xs.drop n) (vs.drop n)
  | xs, vs, 0, h => by simpa using h
  | [], vs, n + 1, h => by rw [show vs = [] from h]; simp [VL, VVL]
  | x :: xs, vs, n + 1, h => by obtain ⟨u, us, rfl, h2, h3⟩ := h; simpa using VL_drop n h3
theorem VC_get {c : Cx} {a : Addr} : ∀ {xs : List AV} {k : Nat}, VC c a k xs → ∀ {i : Nat} {x : AV}, xs[i]? = some x → c.F a.block ∧ ∃ u, c.w.cell? (a.add (k + i)) = some u ∧ u.oneCell' = true ∧ V c x u
  | [], _, _, i, x, hx => by simp at hx
  | y :: ys, k, h, i, x, hx => by
    obtain ⟨h1, h2⟩ := h
    cases i with
    | zero => simp at hx; subst hx; obtain ⟨f, u, g1, g2, g3⟩ := h1; exact ⟨f, u, g1, g2, V_mono (Ext.of_cl c) _ _ g3⟩
    | succ i =>
      simp at hx
      have := VC_get h2 hx
      rwa [show k + 1 + i = k + (i + 1) by omega] at this
theorem VC_drop {c : Cx} {a : Addr} : ∀ {xs : List AV} {k : Nat} (n : Nat), VC c a k xs → VC c a (k + n) (xs.drop n)
  | xs, k, 0, h => by simpa using h
  | [], _, n + 1, _ => by simp [VC, VVC]
  | x :: xs, k, n + 1, h => by have := VC_drop n h.2; rwa [show k + 1 + n = k + (n + 1) by omega] at this
theorem VM_get {c : Cx} {A : Option Addr} {sz : Nat} : ∀ {es : List (List AV)} {k : Nat}, VM c A sz k es → ∀ {i : Nat} {row : List AV}, es[i]? = some row → ∃ a, A = some a ∧ row.length = sz ∧ VC c a ((k + i) * sz) row
  | [], _, _, i, x, hx => by simp at hx
  | y :: ys, k, h, i, x, hx => by
    obtain ⟨h1, h2⟩ := h
    cases i with
    | zero => simp at hx; subst hx; exact h1
    | succ i =>
      simp at hx
      have := VM_get h2 hx
      rwa [show k + 1 + i = k + (i + 1) by omega] at this
/-- Cells that are read: the values there, as a list. -/
theorem VC_list {c : Cx} {a : Addr} : ∀ {xs : List AV} {k : Nat}, VC c a k xs → ∃ us : List Value, us.length = xs.length ∧ VL c xs us ∧ (∀ u ∈ us, u.oneCell' = true) ∧ ∀ j u, us[j]? = some u → c.w.cell? (a.add (k + j)) = some u
  | [], k, _ => ⟨[], rfl, rfl, by simp, by simp⟩
  | x :: xs, k, h => by
    obtain ⟨⟨_, u, h2, h3, h4⟩, h5⟩ := h
    obtain ⟨us, e1, e2, e3, e4⟩ := VC_list h5
    refine ⟨u :: us, by simp [e1], ⟨u, us, rfl, V_mono (Ext.of_cl c) _ _ h4, e2⟩, ?_, ?_⟩
    · intro y hy; rcases List.mem_cons.1 hy with rfl | hy; exact h3; exact e3 y hy
    · intro j y hy
      cases j with
      | zero => simp at hy; subst hy; simpa using h2
      | succ j => simp at hy; have := e4 j y hy; rwa [show k + 1 + j = k + (j + 1) by omega] at this

/-! ### The own objects -/
structure HR (B : Nat) (c : Cx) (H : Nat → Option Rows) : Prop where
  known : ∀ r rows, H r = some rows → c.K r
  len : ∀ r rows, H r = some rows → rows.length = (c.ρ r).n
  rowlen : ∀ r rows, H r = some rows → ∀ row ∈ rows, row.length = (c.ρ r).sz
  cells : ∀ r rows, H r = some rows → ∀ (i : Nat) (row : List AV), rows[i]? = some row → ∀ (j : Nat) (x : AV), row[j]? = some x →
    ∃ u, c.w.cell? ⟨(c.ρ r).blk, (c.ρ r).st + i * (c.ρ r).sz + j, none⟩ = some u ∧ u.oneCell' = true ∧ V c x u
  live : ∀ r rows, H r = some rows → Live c.w (c.ρ r).blk ((c.ρ r).st + (c.ρ r).n * (c.ρ r).sz)
  base : ∀ r rows, H r = some rows → B ≤ (c.ρ r).blk ∧ ¬ c.F (c.ρ r).blk
  inj : ∀ r r' rows rows', H r = some rows → H r' = some rows' → r ≠ r' → (c.ρ r).blk ≠ (c.ρ r').blk

theorem Live.lt {w : World} {g m : Nat} (h : Live w g m) : g < w.heap.size := by
  obtain ⟨cs, T, h1, _⟩ := h
  exact (Array.getElem?_eq_some_iff.1 h1).1
theorem Live.cell {w : World} {g m o : Nat} (h : Live w g m) (ho : o < m) : ∃ u, w.cell? ⟨g, o, none⟩ = some u := by
  obtain ⟨cs, T, h1, h2⟩ := h
  exact ⟨cs[o]'(by omega), by simp [World.cell?, h1, Array.getElem?_eq_getElem (show o < cs.size by omega)]⟩
theorem Live.frozen {w : World} {g m : Nat} (h : Live w g m) (o : Nat) : w.frozen? ⟨g, o, none⟩ = false := by
  obtain ⟨cs, T, h1, h2⟩ := h
  simp [World.frozen?, h1]
theorem Live.mono {w : World} {g m m' : Nat} (h : Live w g m) (hm : m' ≤ m) : Live w g m' := by
  obtain ⟨cs, T, h1, h2⟩ := h
  exact ⟨cs, T, h1, by omega⟩
theorem Live.of_block {w w' : World} {g m : Nat} (h : Live w g m) (e : w'.heap[g]? = w.heap[g]?) : Live w' g m := by
  obtain ⟨cs, T, h1, h2⟩ := h
  exact ⟨cs, T, e.trans h1, h2⟩
theorem Live.alloc {w : World} {g m : Nat} (h : Live w g m) (o : Obj) : Live (w.alloc o) g m := h.of_block (Below.heap_alloc w o g h.lt)
theorem Live.setCell {w : World} {g m : Nat} (h : Live w g m) (p : Addr) (u : Value) : Live (w.setCell p u) g m := by
  obtain ⟨cs, T, h1, h2⟩ := h
  by_cases hg : g = p.block
  · subst hg
    refine ⟨if p.spot.isSome then cs else cs.setIfInBounds p.off u, T, ?_, by split <;> simpa using h2⟩
    simp only [World.setCell, Array.getElem?_modify, if_true, h1, Option.map_some]
  · exact ⟨cs, T, by rw [Below.heap_setCell w p u g hg]; exact h1, h2⟩

/-- What an op or a call does to the state, seen from c. -/
structure Later (B : Nat) (c c' : Cx) : Prop where
  ext : Ext c c'
  below : Below B c.w c'.w
  fresh : ∀ k, c'.F k → c.F k ∨ (B ≤ k ∧ k < c'.w.heap.size)

theorem Later.refl (B : Nat) (c : Cx) : Later B c c := ⟨Ext.refl c, Below.refl _ _, fun _ h => .inl h⟩
theorem Later.trans {B : Nat} {a b c : Cx} (h : Later B a b) (k : Later B b c) : Later B a c :=
  ⟨h.ext.trans k.ext, h.below.trans k.below, fun i hi => by
    rcases k.fresh i hi with h' | h'
    · rcases h.fresh i h' with h'' | h''
      · exact .inl h''
      · exact .inr ⟨h''.1, Nat.lt_of_lt_of_le h''.2 k.below.size⟩
    · exact .inr h'⟩

theorem HR.mono_same {B : Nat} {c c' : Cx} {H : Nat → Option Rows} (h : HR B c H) (e : Ext c c') (hF : ∀ k, c'.F k → c.F k ∨ ∀ r rows, H r = some rows → (c.ρ r).blk ≠ k)
    (hw : ∀ r rows, H r = some rows → c'.w.heap[(c.ρ r).blk]? = c.w.heap[(c.ρ r).blk]?) : HR B c' H where
  known r rows hr := (e.K r (h.known r rows hr)).1
  len r rows hr := by rw [(e.K r (h.known r rows hr)).2]; exact h.len r rows hr
  rowlen r rows hr row hrow := by rw [(e.K r (h.known r rows hr)).2]; exact h.rowlen r rows hr row hrow
  cells r rows hr i row hi j x hj := by
    obtain ⟨u, h1, h2, h3⟩ := h.cells r rows hr i row hi j x hj
    rw [(e.K r (h.known r rows hr)).2]
    exact ⟨u, by rw [← h1]; exact World.cell?_of_block (hw r rows hr), h2, V_mono e x u h3⟩
  live r rows hr := by rw [(e.K r (h.known r rows hr)).2]; exact e.L _ _ (h.live r rows hr)
  base r rows hr := by
    rw [(e.K r (h.known r rows hr)).2]
    refine ⟨(h.base r rows hr).1, fun hf => ?_⟩
    rcases hF _ hf with h' | h'
    · exact (h.base r rows hr).2 h'
    · exact h' r rows hr rfl
  inj r r' rows rows' hr hr' hne := by rw [(e.K r (h.known r rows hr)).2, (e.K r' (h.known r' rows' hr')).2]; exact h.inj r r' rows rows' hr hr' hne

end Go.Proofs.Yteoonedddgiacaa.Ab
