/- What the machine does at an operation agrees with the abstract operation: new blocks, stores, and the state's relation. -/
import Derived.Test.YteoonedddgiacaaAbB
namespace Go.Proofs.Yteoonedddgiacaa.Ab
open Go Go.RowKit
set_option linter.unusedSimpArgs false
set_option linter.unusedVariables false

structure Rel (B : Nat) (c : Cx) (H : Nat → Option Rows) (N : Nat → Prop) : Prop where
  hr : HR B c H
  kn : ∀ r, c.K r → ¬ N r
  fb : ∀ k, c.F k → k < c.w.heap.size
  bb : B ≤ c.w.heap.size

/-- Free numbers but for k from nr on. -/
def less (N : Nat → Prop) (nr k : Nat) : Nat → Prop := fun r => N r ∧ ¬ (nr ≤ r ∧ r < nr + k)

theorem Rel.weak {B : Nat} {c : Cx} {H : Nat → Option Rows} {N N' : Nat → Prop} (h : Rel B c H N) (hN : ∀ r, N' r → N r) : Rel B c H N' :=
  ⟨h.hr, fun r hr hn => h.kn r hr (hN r hn), h.fb, h.bb⟩

def Out (B : Nat) (c : Cx) (H : Nat → Option Rows) (N : Nat → Prop) (nr : Nat) (v : AV) (u : List (Nat × Option Rows)) (k : Nat) (v' : Value) (w' : World) : Prop :=
  ∃ c', c'.w = w' ∧ Later B c c' ∧ Rel B c' (upd H u) (less N nr k) ∧ V c' v v'

theorem out_pure {B : Nat} {c : Cx} {H : Nat → Option Rows} {N : Nat → Prop} {nr : Nat} (h : Rel B c H N) {v : AV} {v' : Value} (hv : V c v v') : Out B c H N nr v [] 0 v' c.w :=
  ⟨c, rfl, Later.refl B c, h.weak fun _ q => q.1, hv⟩

theorem Rel.ne {B : Nat} {c : Cx} {H : Nat → Option Rows} {N : Nat → Prop} {nr : Nat} (h : Rel B c H N) (hN : N nr) {r : Nat} (hr : c.K r) : r ≠ nr :=
  fun e => h.kn r hr (e ▸ hN)

theorem V_undef (c : Cx) (v : Value) : V c .undef v := trivial

/-! ### Types -/
theorem info_of_size {P : Program} {t : TypeId} {s : Nat} (h : size? P t = some s) : ∃ i, P.info? t = some i ∧ i.size = s := by
  unfold size? at h
  cases hi : P.info? t with
  | none => simp [hi] at h
  | some i => simp [hi] at h; exact ⟨i, rfl, h⟩
theorem run_typeInfo' {P : Program} {t : TypeId} {i : TypeInfo} (h : P.info? t = some i) (w : World) : (typeInfo t).run P w = .ok i w := by
  simp [typeInfo, h]
theorem run_sizeOf' {P : Program} {t : TypeId} {s : Nat} (h : size? P t = some s) (w : World) : (sizeOf t).run P w = .ok s w := by
  obtain ⟨i, hi, rfl⟩ := info_of_size h
  simp [sizeOf, run_typeInfo' hi]
theorem run_underlying' {P : Program} {t : TypeId} {d : TypeDesc} (h : P.underlying t = some d) (w : World) : (underlying t).run P w = .ok d w := by
  simp [underlying, h]
theorem run_isAgg' {P : Program} {t : TypeId} {b : Bool} (h : isAg P t = some b) (w : World) : (isAgg t).run P w = .ok b w := by
  unfold isAg at h
  cases hd : P.underlying t with
  | none => simp [hd] at h
  | some d => rw [hd] at h; cases d <;> simp at h <;> subst h <;> simp [isAgg, run_underlying' hd]
theorem elem_of {P : Program} {t e : TypeId} (h : elem? P t = some e) : P.underlying t = some (.slice e) := by
  unfold elem? at h
  cases hd : P.underlying t with
  | none => simp [hd] at h
  | some d => rw [hd] at h; cases d <;> simp at h; subst h; rfl

theorem leaf_V (c : Cx) : ∀ (v : Value), leaf v = true → ∃ x, ofVal v = some x ∧ V c x v ∧ v.oneCell' = true := by
  intro v h
  cases v with
  | bool b => exact ⟨.bool b, by simp [ofVal], rfl, rfl⟩
  | int k n => exact ⟨.int k n, by simp [ofVal], rfl, rfl⟩
  | string s => exact ⟨.str s, by simp [ofVal], rfl, rfl⟩
  | pointer a => cases a with
    | none => exact ⟨.nilP, by simp [ofVal], rfl, rfl⟩
    | some a => simp [leaf] at h
  | slice a n m =>
    cases a with
    | some a => simp [leaf] at h
    | none => cases n with
      | succ n => simp [leaf] at h
      | zero => cases m with
        | succ m => simp [leaf] at h
        | zero => exact ⟨.nilS, by simp [ofVal], rfl, rfl⟩
  | nilFunc => exact ⟨.nilF, by simp [ofVal], rfl, rfl⟩
  | _ => simp [leaf] at h
theorem leafs_V (c : Cx) : ∀ (vs : List Value), vs.all leaf = true → ∀ xs, ofVals vs = some xs → VL c xs vs ∧ (∀ u ∈ vs, u.oneCell' = true) ∧ xs.length = vs.length
  | [], _, xs, h => by simp [ofVals] at h; subst h; exact ⟨rfl, by simp, rfl⟩
  | v :: vs, hl, xs, h => by
    simp only [List.all_cons, Bool.and_eq_true] at hl
    obtain ⟨x, hx, hV, h1⟩ := leaf_V c v hl.1
    unfold ofVals at h
    rw [hx] at h
    cases hs : ofVals vs with
    | none => simp [hs] at h
    | some ys =>
      simp [hs] at h; subst h
      obtain ⟨h2, h3, h4⟩ := leafs_V c vs hl.2 ys hs
      refine ⟨⟨v, vs, rfl, hV, h2⟩, ?_, by simp [h4]⟩
      intro u hu; rcases List.mem_cons.1 hu with rfl | hu; exact h1; exact h3 u hu
theorem zcells_of {P : Program} {t : TypeId} {z : List AV} (h : zcells P t = some z) : ∃ i zv, P.info? t = some i ∧ i.zero = some zv ∧ z.length = i.size ∧ zv.cells.toList.length = i.size ∧
    ∀ c, VL c z zv.cells.toList ∧ ∀ u ∈ zv.cells.toList, u.oneCell' = true := by
  unfold zcells at h
  cases hi : P.info? t with
  | none => simp [hi] at h
  | some i =>
    cases hz : i.zero with
    | none => simp [hi, hz] at h
    | some zv =>
      simp only [hi, hz, Option.bind_eq_bind, Option.bind_some] at h
      split at h
      · rename_i hc
        have h0 := leafs_V ⟨fun _ => False, fun _ => False, fun _ => ⟨0, 0, 0, 0⟩, default⟩ _ hc.2 z h
        exact ⟨i, zv, rfl, hz, by rw [h0.2.2]; exact hc.1, hc.1, fun c => ⟨(leafs_V c _ hc.2 z h).1, (leafs_V c _ hc.2 z h).2.1⟩⟩
      · simp at h
theorem run_zeroValue' {P : Program} {t : TypeId} {i : TypeInfo} {zv : Value} (h : P.info? t = some i) (hz : i.zero = some zv) (w : World) : (zeroValue t).run P w = .ok zv w := by
  simp [zeroValue, run_typeInfo' h, hz]

/-! ### A new block -/
def newCx (c : Cx) (nr : Nat) (i : Info) (o : Obj) : Cx := { F := c.F, K := fun r => c.K r ∨ r = nr, ρ := fun r => if r = nr then i else c.ρ r, w := c.w.alloc o }

theorem later_new {B : Nat} {c : Cx} {H : Nat → Option Rows} {N : Nat → Prop} {nr : Nat} (h : Rel B c H N) (hN : N nr) (i : Info) (o : Obj) : Later B c (newCx c nr i o) where
  ext := ⟨fun k hk => ⟨hk, Below.heap_alloc c.w o k (h.fb k hk)⟩, fun r hr => ⟨.inl hr, by simp [newCx, h.ne hN hr]⟩, fun g m hl => hl.alloc o⟩
  below := (Below.refl B c.w).alloc h.bb o
  fresh := fun k hk => .inl hk

theorem alloc_new (w : World) (cs : Array Value) (T : TypeId) : (w.alloc (.cells cs T)).heap[w.heap.size]? = some (.cells cs T (0, 0)) := by
  show (w.heap.push _)[w.heap.size]? = _
  simp

theorem rel_new {B : Nat} {c : Cx} {H : Nat → Option Rows} {N : Nat → Prop} {nr : Nat} (h : Rel B c H N) (hN : N nr) (T : TypeId) (cs : Array Value) (sz : Nat) (rows : Rows) (hrow : ∀ row ∈ rows, row.length = sz)
    (hcs : ∀ (i : Nat) (row : List AV), rows[i]? = some row → ∀ (j : Nat) (x : AV), row[j]? = some x → ∃ u, cs[i * sz + j]? = some u ∧ u.oneCell' = true ∧ V c x u) (hsz : rows.length * sz ≤ cs.size) :
    Rel B (newCx c nr ⟨c.w.heap.size, 0, sz, rows.length⟩ (.cells cs T)) (upd H [(nr, some rows)]) (less N nr 1) := by
  have hl := later_new h hN ⟨c.w.heap.size, 0, sz, rows.length⟩ (.cells cs T)
  have hH : HR B (newCx c nr ⟨c.w.heap.size, 0, sz, rows.length⟩ (.cells cs T)) H := h.hr.mono_same hl.ext (fun k hk => .inl hk) (fun r rows hr => Below.heap_alloc _ _ _ (h.hr.live r rows hr).lt)
  have hne : ∀ r rows, H r = some rows → r ≠ nr := fun r rows hr => h.ne hN (h.hr.known r rows hr)
  refine ⟨⟨?_, ?_, ?_, ?_, ?_, ?_, ?_⟩, ?_, ?_, ?_⟩
  · intro r rs hr
    simp only [upd] at hr
    split at hr
    · rename_i e; exact .inr e
    · exact hH.known r rs hr
  · intro r rs hr
    simp only [upd] at hr
    split at hr
    · rename_i e; cases hr; simp [newCx, e]
    · exact hH.len r rs hr
  · intro r rs hr
    simp only [upd] at hr
    split at hr
    · rename_i e; cases hr; simpa [newCx, e] using hrow
    · exact hH.rowlen r rs hr
  · intro r rs hr
    simp only [upd] at hr
    split at hr
    · rename_i e; cases hr
      intro i row hi j x hj
      obtain ⟨u, h1, h2, h3⟩ := hcs i row hi j x hj
      refine ⟨u, ?_, h2, V_mono hl.ext x u h3⟩
      simp only [newCx, e, if_true, Nat.zero_add]
      rw [World.cell?_alloc_new]; exact h1
    · exact hH.cells r rs hr
  · intro r rs hr
    simp only [upd] at hr
    split at hr
    · rename_i e; cases hr
      simp only [newCx, e, if_true, Nat.zero_add]
      exact ⟨cs, T, alloc_new _ _ _, hsz⟩
    · exact hH.live r rs hr
  · intro r rs hr
    simp only [upd] at hr
    split at hr
    · rename_i e
      simp only [newCx, e, if_true]
      exact ⟨h.bb, fun hf => absurd (h.fb _ hf) (by omega)⟩
    · exact hH.base r rs hr
  · intro r r' rs rs' hr hr' hne'
    simp only [upd] at hr hr'
    split at hr <;> split at hr'
    · rename_i e e'; exact absurd (e.trans e'.symm) hne'
    · rename_i e e'
      have := (h.hr.live r' rs' hr').lt
      simp only [newCx, e, e', if_true, if_false]; omega
    · rename_i e e'
      have := (h.hr.live r rs hr).lt
      simp only [newCx, e, e', if_true, if_false]; omega
    · exact hH.inj r r' rs rs' hr hr' hne'
  · intro r hr
    rcases hr with hr | hr
    · exact fun q => h.kn r hr q.1
    · exact fun q => q.2 (by omega)
  · intro k hk
    have := h.fb k hk
    simp only [newCx, World.size_alloc]; omega
  · have := h.bb
    simp only [newCx, World.size_alloc]; omega

/-- A slice over a new block. -/
theorem V_new_sl {c : Cx} {nr : Nat} {T : TypeId} {cs : Array Value} {sz n cap : Nat} (hn : n ≤ cap) (hc : cap * sz ≤ cs.size) :
    V (newCx c nr ⟨c.w.heap.size, 0, sz, n⟩ (.cells cs T)) (.sl nr sz 0 n) (.slice (some ⟨c.w.heap.size, 0, none⟩) n cap) := by
  refine ⟨.inr rfl, by simp [newCx], _, cap, rfl, ?_, ?_, ?_, ?_⟩
  · simp [newCx]
  · simp [newCx]
  · simpa [newCx] using hn
  · simp only [newCx, if_true, Nat.zero_add]
    exact ⟨cs, T, alloc_new _ _ _, hc⟩

/-! ### Stores -/
def setC (w : World) (g : Nat) : Nat → List Value → World
  | _, [] => w
  | o, v :: vs => setC (w.setCell ⟨g, o, none⟩ v) g (o + 1) vs

theorem setC_frame (g : Nat) : ∀ (vs : List Value) (o : Nat) (w : World), (setC w g o vs).os = w.os ∧ (setC w g o vs).tape = w.tape ∧ (setC w g o vs).output = w.output ∧ (setC w g o vs).heap.size = w.heap.size ∧ ∀ k, k ≠ g → (setC w g o vs).heap[k]? = w.heap[k]?
  | [], _, w => ⟨rfl, rfl, rfl, rfl, fun _ _ => rfl⟩
  | v :: vs, o, w => by
    have h := setC_frame g vs (o + 1) (w.setCell ⟨g, o, none⟩ v)
    refine ⟨h.1, h.2.1, h.2.2.1, by rw [setC, h.2.2.2.1]; simp, fun k hk => ?_⟩
    rw [setC, h.2.2.2.2 k hk]
    exact Below.heap_setCell w _ _ k hk
theorem setC_live {g : Nat} : ∀ (vs : List Value) (o : Nat) {w : World} {g' m : Nat}, Live w g' m → Live (setC w g o vs) g' m
  | [], _, _, _, _, h => h
  | v :: vs, o, w, g', m, h => setC_live vs (o + 1) (h.setCell _ v)
theorem setC_cell {g m : Nat} : ∀ (vs : List Value) (o : Nat) {w : World}, Live w g m → o + vs.length ≤ m → ∀ p, (setC w g o vs).cell? ⟨g, p, none⟩ = if o ≤ p ∧ p < o + vs.length then vs[p - o]? else w.cell? ⟨g, p, none⟩
  | [], o, w, _, _, p => by simp [setC]; intro h1 h2; omega
  | v :: vs, o, w, hl, hm, p => by
    have hm' : o + 1 + vs.length ≤ m := by simpa [Nat.add_assoc, Nat.add_comm 1] using hm
    rw [setC, setC_cell vs (o + 1) (hl.setCell _ v) hm' p]
    obtain ⟨u0, hu0⟩ := hl.cell (o := o) (by omega)
    by_cases h1 : o + 1 ≤ p ∧ p < o + 1 + vs.length
    · rw [if_pos h1, if_pos (by simp; omega), show p - o = (p - (o + 1)) + 1 by omega]; simp
    · rw [if_neg h1]
      by_cases h2 : p = o
      · subst h2
        rw [if_pos (by simp), World.cell?_setCell_same _ _ _ hu0]; simp
      · rw [if_neg (by simp; omega), World.cell?_setCell_other]
        intro e; cases e; exact h2 rfl

theorem run_storeCells' {P : Program} {g m o : Nat} : ∀ (vs : List Value) (i : Nat) {w : World}, Live w g m → o + i + vs.length ≤ m → (∀ u ∈ vs, u.oneCell' = true) →
    (storeCells ⟨g, o, none⟩ vs i).run P w = .ok () (setC w g (o + i) vs)
  | [], i, w, _, _, _ => by simp [storeCells, setC]
  | v :: vs, i, w, hl, hm, h1 => by
    have ha : Addr.add ⟨g, o, none⟩ i = ⟨g, o + i, none⟩ := by unfold Addr.add; split <;> simp_all
    simp only [List.length_cons] at hm
    obtain ⟨u0, hu0⟩ := hl.cell (o := o + i) (by omega)
    have := run_storeCells' (P := P) (o := o) vs (i + 1) (hl.setCell ⟨g, o + i, none⟩ v) (by omega) (fun u hu => h1 u (List.mem_cons_of_mem _ hu))
    simp only [storeCells, Sem.run_bind, ha, run_store P w _ v _ (h1 v (List.mem_cons_self ..)), hu0, hl.frozen, Bool.false_eq_true, if_false, Result.andThen_ok]
    rw [this]
    simp [setC, Nat.add_assoc]

/-- The rows of object r turned, by a run of cells written. -/
theorem out_set {B : Nat} {c : Cx} {H : Nat → Option Rows} {N : Nat → Prop} (h : Rel B c H N) {r : Nat} {rows rows' : Rows} (hr : H r = some rows) (hlen : rows'.length = rows.length)
    (hrow : ∀ row ∈ rows', row.length = (c.ρ r).sz) (o : Nat) (vs : List Value) (ho : o + vs.length ≤ (c.ρ r).st + (c.ρ r).n * (c.ρ r).sz)
    (hval : ∀ (i : Nat) (row : List AV), rows'[i]? = some row → ∀ (j : Nat) (x : AV), row[j]? = some x →
      if o ≤ (c.ρ r).st + i * (c.ρ r).sz + j ∧ (c.ρ r).st + i * (c.ρ r).sz + j < o + vs.length then ∃ u, vs[(c.ρ r).st + i * (c.ρ r).sz + j - o]? = some u ∧ u.oneCell' = true ∧ V c x u
      else ∃ row0, rows[i]? = some row0 ∧ row0[j]? = some x) :
    Later B c { c with w := setC c.w (c.ρ r).blk o vs } ∧ Rel B { c with w := setC c.w (c.ρ r).blk o vs } (upd H [(r, some rows')]) N := by
  have hf := setC_frame (c.ρ r).blk vs o c.w
  have hlive := h.hr.live r rows hr
  have hbase := h.hr.base r rows hr
  have he : Ext c { c with w := setC c.w (c.ρ r).blk o vs } := ⟨fun k hk => ⟨hk, hf.2.2.2.2 k (fun e => hbase.2 (e ▸ hk))⟩, fun r hr => ⟨hr, rfl⟩, fun g m hl => setC_live vs o hl⟩
  refine ⟨⟨he, ⟨hf.1, hf.2.1, hf.2.2.1, Nat.le_of_eq hf.2.2.2.1.symm, fun k hk => hf.2.2.2.2 k (by have := hbase.1; omega)⟩, fun k hk => .inl hk⟩, ?_⟩
  refine ⟨⟨?_, ?_, ?_, ?_, ?_, ?_, ?_⟩, h.kn, ?_, ?_⟩
  · intro r' rs hr'
    simp only [upd] at hr'
    split at hr'
    · rename_i e; subst e; exact h.hr.known _ rows hr
    · exact h.hr.known r' rs hr'
  · intro r' rs hr'
    simp only [upd] at hr'
    split at hr'
    · rename_i e; subst e; cases hr'; rw [hlen]; exact h.hr.len _ rows hr
    · exact h.hr.len r' rs hr'
  · intro r' rs hr'
    simp only [upd] at hr'
    split at hr'
    · rename_i e; subst e; cases hr'; exact hrow
    · exact h.hr.rowlen r' rs hr'
  · intro r' rs hr'
    simp only [upd] at hr'
    split at hr'
    · rename_i e; subst e; cases hr'
      intro i row hi j x hj
      have hv := hval i row hi j x hj
      have hc := setC_cell vs o hlive ho ((c.ρ r').st + i * (c.ρ r').sz + j)
      dsimp only
      rw [hc]
      split at hv
      · rename_i hin
        rw [if_pos hin]
        obtain ⟨u, h1, h2, h3⟩ := hv
        exact ⟨u, h1, h2, V_mono he x u h3⟩
      · rename_i hin
        rw [if_neg hin]
        obtain ⟨row0, h1, h2⟩ := hv
        obtain ⟨u, h3, h4, h5⟩ := h.hr.cells _ rows hr i row0 h1 j x h2
        exact ⟨u, h3, h4, V_mono he x u h5⟩
    · rename_i hne
      intro i row hi j x hj
      obtain ⟨u, h3, h4, h5⟩ := h.hr.cells r' rs hr' i row hi j x hj
      refine ⟨u, ?_, h4, V_mono he x u h5⟩
      rw [← h3]
      exact World.cell?_of_block (hf.2.2.2.2 _ (h.hr.inj r' r rs rows hr' hr hne))
  · intro r' rs hr'
    simp only [upd] at hr'
    split at hr'
    · rename_i e; subst e; exact setC_live vs o hlive
    · exact setC_live vs o (h.hr.live r' rs hr')
  · intro r' rs hr'
    simp only [upd] at hr'
    split at hr'
    · rename_i e; subst e; exact hbase
    · exact h.hr.base r' rs hr'
  · intro r' r'' rs rs' hr' hr'' hne
    have key : ∀ q qs, upd H [(r, some rows')] q = some qs → ∃ qs', H q = some qs' := by
      intro q qs hq
      simp only [upd] at hq
      split at hq
      · rename_i e; subst e; exact ⟨rows, hr⟩
      · exact ⟨qs, hq⟩
    obtain ⟨a, ha⟩ := key r' rs hr'
    obtain ⟨b, hb⟩ := key r'' rs' hr''
    exact h.hr.inj r' r'' a b ha hb hne
  · intro k hk; have := h.fb k hk; rw [hf.2.2.2.1]; exact this
  · rw [hf.2.2.2.1]; exact h.bb

end Go.Proofs.Yteoonedddgiacaa.Ab
