/- What an input that reads as data is, on abstract values; what a contract gives for a call from outside. -/
import Derived.Test.YteoonedddgiacaaAbT
import Derived.ChangeOld
import Derived.DataReads
namespace Go.Proofs.Yteoonedddgiacaa.Ab
open Go Go.RowKit
set_option linter.unusedSimpArgs false
set_option linter.unusedVariables false

def fieldsOK (P : Program) : Nat → List Field → Nat → Bool
  | o, [], n => o == n
  | o, f :: fs, n => f.offset == o && fieldsOK P (o + P.cellsOf f.type) fs n
def supp (P : Program) : Nat → TypeId → Bool
  | 0, _ => false
  | n + 1, t => match P.underlying t with
    | some .bool | some (.int _) | some .string => true
    | some (.slice e) => supp P n e
    | some (.struct fs) => fieldsOK P 0 fs.toList (P.cellsOf t) && fs.toList.all fun f => supp P n f.type
    | _ => false

def TYs (ty : TypeId → List AV → Prop) : List Field → List AV → Prop
  | [], row => row = []
  | f :: fs, row => ∃ r1 r2, row = r1 ++ r2 ∧ ty f.type r1 ∧ TYs ty fs r2
/-- The values that a type has, as rows of cells. -/
def TY (P : Program) : Nat → TypeId → List AV → Prop
  | 0, _, _ => False
  | n + 1, t, row => match P.underlying t with
    | some .bool => ∃ b, row = [.bool b]
    | some (.int k) => ∃ x, row = [.int k x] ∧ (Lit.int k x).wf = true
    | some .string => ∃ s, row = [.str s] ∧ s.size ≤ Go.maxLen
    | some (.slice e) => ∃ nn es, row = [.vw nn es] ∧ es.length ≤ Go.maxLen ∧ ∀ r ∈ es, TY P n e r
    | some (.struct fs) => TYs (TY P n) fs.toList row
    | _ => False

theorem pick_list {α : Type} {Q : Nat → α → Prop} : ∀ (n : Nat), (∀ i, i < n → ∃ r, Q i r) → ∃ es : List α, es.length = n ∧ ∀ (i : Nat) r, es[i]? = some r → Q i r
  | 0, _ => ⟨[], rfl, by simp⟩
  | n + 1, h => by
    obtain ⟨es, h1, h2⟩ := pick_list n (fun i hi => h i (by omega))
    obtain ⟨r, hr⟩ := h n (by omega)
    refine ⟨es ++ [r], by simp [h1], fun i r' hi => ?_⟩
    rcases Nat.lt_or_ge i es.length with hlt | hge
    · rw [List.getElem?_append_left hlt] at hi; exact h2 i r' hi
    · rw [List.getElem?_append_right hge] at hi
      have : i - es.length = 0 := by
        rcases Nat.eq_zero_or_pos (i - es.length) with h0 | h0
        · exact h0
        · rw [List.getElem?_eq_none (by simp; omega)] at hi; cases hi
      rw [this] at hi
      simp at hi
      subst hi
      rwa [show i = n by omega]

/-- The context of a call from outside. -/
def cxW (W : World) : Cx := cx0 (fun k => k < W.heap.size) W

theorem VC_of_cells {W : World} {a : Addr} {k : Nat} : ∀ (row : List AV) (cs : List Value) (j : Nat), VL (cxW W) row cs → (∀ u ∈ cs, u.oneCell' = true) → (∀ (i : Nat) u, cs[i]? = some u → W.cell? (a.add (k + j + i)) = some u) → (row ≠ [] → a.block < W.heap.size) → VC (cxW W) a (k + j) row
  | [], _, _, _, _, _, _ => trivial
  | x :: row, cs, j, h, h1, h2, h3 => by
    obtain ⟨u, us, rfl, hx, hr⟩ := h
    refine ⟨⟨h3 (by simp), u, by have := h2 0 u rfl; simp only [Nat.add_zero] at this; exact this, h1 u (List.mem_cons_self ..), hx⟩, ?_⟩
    have := VC_of_cells (k := k) row us (j + 1) hr (fun v hv => h1 v (List.mem_cons_of_mem _ hv)) (fun i v hv => by have := h2 (i + 1) v (by simpa using hv); rwa [show k + j + (i + 1) = k + (j + 1) + i by omega] at this) (fun _ => h3 (by simp))
    rwa [show k + (j + 1) = k + j + 1 by omega] at this

section
variable {H : Type} {enc : TypeId × Value → H} {P : Program} {W : World} {sp : Nat → Bool} {held : Bool} {t : TypeId} {fuel : Nat} {cs : List Value} {d : DataW H} {p : List MemPlace}

theorem trod_bool (hu : P.underlying t = some .bool) (ht : DataW.trod enc P W 0 sp held (fuel + 1) t cs = some (d, p)) : ∃ b, cs = [.bool b] := by
  rcases cs with _ | ⟨v, _ | ⟨w, vs⟩⟩
  · simp [DataW.trod, hu] at ht
  · cases v <;> simp [DataW.trod, hu] at ht
    exact ⟨_, rfl⟩
  · cases v <;> simp [DataW.trod, hu] at ht
theorem trod_int {k : IntKind} (hu : P.underlying t = some (.int k)) (ht : DataW.trod enc P W 0 sp held (fuel + 1) t cs = some (d, p)) : ∃ n, cs = [.int k n] ∧ (Lit.int k n).wf = true := by
  rcases cs with _ | ⟨v, _ | ⟨w, vs⟩⟩
  · simp [DataW.trod, hu] at ht
  · cases v <;> simp [DataW.trod, hu] at ht
    obtain ⟨⟨rfl, h⟩, _⟩ := ht
    exact ⟨_, rfl, h⟩
  · cases v <;> simp [DataW.trod, hu] at ht
theorem trod_str (hu : P.underlying t = some .string) (ht : DataW.trod enc P W 0 sp held (fuel + 1) t cs = some (d, p)) : ∃ s, cs = [.string s] ∧ s.size ≤ Go.maxLen := by
  rcases cs with _ | ⟨v, _ | ⟨w, vs⟩⟩
  · simp [DataW.trod, hu] at ht
  · cases v <;> simp [DataW.trod, hu] at ht
    exact ⟨_, rfl, ht.1⟩
  · cases v <;> simp [DataW.trod, hu] at ht
theorem trod_slice {e : TypeId} (hu : P.underlying t = some (.slice e)) (ht : DataW.trod enc P W 0 sp held (fuel + 1) t cs = some (d, p)) :
    cs = [.slice none 0 0] ∨ ∃ a len cap, cs = [.slice (some a) len cap] ∧ len ≤ cap ∧ cap ≤ Go.maxLen ∧ ∀ i, i < len → ∃ cs' d' p', W.cells? 0 (a.add (i * P.cellsOf e)) (P.cellsOf e) = some cs' ∧ DataW.trod enc P W 0 sp held fuel e cs' = some (d', p') := by
  rcases cs with _ | ⟨v, _ | ⟨w, vs⟩⟩
  · simp [DataW.trod, hu] at ht
  · cases v with
    | slice A len cap =>
      cases A with
      | none =>
        left
        cases len <;> cases cap <;> simp [DataW.trod, hu] at ht
        rfl
      | some a =>
        right
        simp only [DataW.trod, hu] at ht
        split at ht
        · rename_i hc
          refine ⟨a, len, cap, rfl, hc.2.1, hc.2.2, fun i hi => ?_⟩
          rw [Option.bind_eq_some_iff] at ht
          obtain ⟨elems, h1, _⟩ := ht
          have := mapM_some_get h1 i i (by simp [hi])
          have hl := mapM_some_length h1
          simp only [List.length_range] at hl
          obtain ⟨x, hx⟩ : ∃ x, elems[i]? = some x := ⟨elems[i]'(by omega), by simp [show i < elems.length by omega]⟩
          rw [hx, Option.bind_eq_some_iff] at this
          obtain ⟨cs', g1, g2⟩ := this
          exact ⟨cs', x.1, x.2, g1, g2⟩
        · simp at ht
    | _ => simp [DataW.trod, hu] at ht
  · cases v with
    | slice A len cap => cases A <;> cases len <;> cases cap <;> simp [DataW.trod, hu] at ht
    | _ => simp [DataW.trod, hu] at ht
theorem trod_struct {fs : Array Field} (hu : P.underlying t = some (.struct fs)) (ht : DataW.trod enc P W 0 sp held (fuel + 1) t cs = some (d, p)) :
    cs.length = P.cellsOf t ∧ ∀ f ∈ fs.toList, ∃ d' p', DataW.trod enc P W 0 sp held fuel f.type ((cs.drop f.offset).take (P.cellsOf f.type)) = some (d', p') := by
  simp only [DataW.trod, hu] at ht
  split at ht
  · rename_i hc
    refine ⟨hc, fun f hf => ?_⟩
    rw [Option.map_eq_some_iff] at ht
    obtain ⟨xs, h1, _⟩ := ht
    obtain ⟨i, hi⟩ := List.getElem?_of_mem hf
    have := mapM_some_get h1 i f hi
    have hl := mapM_some_length h1
    have hil := (List.getElem?_eq_some_iff.1 hi).1
    obtain ⟨x, hx⟩ : ∃ x, xs[i]? = some x := ⟨xs[i]'(by omega), by simp [show i < xs.length by omega]⟩
    rw [hx] at this
    exact ⟨x.1, x.2, this⟩
  · simp at ht

theorem fields_V {ty : TypeId → List AV → Prop} {g : TypeId → Prop} : ∀ (fs : List Field) (o : Nat) (cs : List Value), fieldsOK P o fs cs.length = true → o ≤ cs.length →
    (∀ f ∈ fs, ∃ row, VL (cxW W) row ((cs.drop f.offset).take (P.cellsOf f.type)) ∧ (∀ u ∈ (cs.drop f.offset).take (P.cellsOf f.type), u.oneCell' = true) ∧ ty f.type row) →
    ∃ row, VL (cxW W) row (cs.drop o) ∧ (∀ u ∈ cs.drop o, u.oneCell' = true) ∧ TYs ty fs row
  | [], o, cs, h, ho, _ => by
    have : o = cs.length := by simpa [fieldsOK] using h
    subst this
    refine ⟨[], ?_, by simp, rfl⟩
    rw [List.drop_length]; rfl
  | f :: fs, o, cs, h, ho, hf => by
    simp only [fieldsOK, Bool.and_eq_true, beq_iff_eq] at h
    obtain ⟨rfl, h2⟩ := h
    obtain ⟨r1, a1, a2, a3⟩ := hf f (List.mem_cons_self ..)
    by_cases hle : f.offset + P.cellsOf f.type ≤ cs.length
    · obtain ⟨r2, b1, b2, b3⟩ := fields_V (g := g) fs (f.offset + P.cellsOf f.type) cs h2 hle (fun f' hf' => hf f' (List.mem_cons_of_mem _ hf'))
      have e : cs.drop f.offset = (cs.drop f.offset).take (P.cellsOf f.type) ++ cs.drop (f.offset + P.cellsOf f.type) := by
        rw [← List.drop_drop, List.take_append_drop]
      refine ⟨r1 ++ r2, ?_, ?_, r1, r2, rfl, a3, b3⟩
      · rw [e]; exact VL_append a1 b1
      · rw [e]
        intro u hu
        rcases List.mem_append.1 hu with hu | hu
        · exact a2 u hu
        · exact b2 u hu
    · exfalso
      have key : ∀ (fs : List Field) (o n : Nat), fieldsOK P o fs n = true → o ≤ n := by
        intro fs
        induction fs with
        | nil => intro o n h; have : o = n := by simpa [fieldsOK] using h
                 omega
        | cons f fs ih =>
          intro o n h
          simp only [fieldsOK, Bool.and_eq_true] at h
          have := ih _ _ h.2
          omega
      have := key fs _ _ h2
      omega
end

theorem trod_V {H : Type} {enc : TypeId × Value → H} {P : Program} {W : World} {sp : Nat → Bool} {held : Bool} : ∀ (n : Nat) (t : TypeId) (fuel : Nat) (cs : List Value) (d : DataW H) (p : List MemPlace), supp P n t = true → DataW.trod enc P W 0 sp held fuel t cs = some (d, p) →
    ∃ row, VL (cxW W) row cs ∧ (∀ u ∈ cs, u.oneCell' = true) ∧ TY P n t row
  | 0, _, _, _, _, _, h, _ => by simp [supp] at h
  | n + 1, t, 0, cs, d, p, h, ht => by simp [DataW.trod] at ht
  | n + 1, t, fuel + 1, cs, d, p, h, ht => by
    have IH := trod_V (enc := enc) (P := P) (W := W) (sp := sp) (held := held) n
    unfold supp at h
    unfold TY
    cases hu : P.underlying t with
    | none => simp [hu] at h
    | some td =>
      rw [hu] at h
      cases td with
      | bool =>
        obtain ⟨b, rfl⟩ := trod_bool hu ht
        exact ⟨[.bool b], ⟨_, _, rfl, rfl, rfl⟩, by intro u hu; simp at hu; subst hu; rfl, b, rfl⟩
      | int k =>
        obtain ⟨x, rfl, hw⟩ := trod_int hu ht
        exact ⟨[.int k x], ⟨_, _, rfl, rfl, rfl⟩, by intro u hu; simp at hu; subst hu; rfl, x, rfl, hw⟩
      | string =>
        obtain ⟨s, rfl, hw⟩ := trod_str hu ht
        exact ⟨[.str s], ⟨_, _, rfl, rfl, rfl⟩, by intro u hu; simp at hu; subst hu; rfl, s, rfl, hw⟩
      | slice e =>
        rcases trod_slice hu ht with rfl | ⟨a, len, cap, rfl, h1, h2, h3⟩
        · exact ⟨[.vw false []], ⟨_, _, rfl, ⟨none, 0, 0, rfl, Nat.le_refl _, by simp, trivial⟩, rfl⟩, by intro u hu; simp at hu; subst hu; rfl, false, [], rfl, Nat.zero_le _, by simp⟩
        · obtain ⟨es, k1, k2⟩ := pick_list (Q := fun i row => row.length = P.cellsOf e ∧ VC (cxW W) a (i * P.cellsOf e) row ∧ TY P n e row) len (fun i hi => by
            obtain ⟨cs', d', p', g1, g2⟩ := h3 i hi
            obtain ⟨row, m1, m2, m3⟩ := IH e fuel cs' d' p' h g2
            obtain ⟨q1, q2, q3⟩ := World.cells?_some g1
            refine ⟨row, by rw [← VL_length m1]; exact q2, ?_, m3⟩
            refine VC_of_cells (k := i * P.cellsOf e) row cs' 0 m1 m2 (fun j u hj => ?_) (fun hne => ?_)
            · rw [Nat.add_zero, ← add_add']
              have hjl := (List.getElem?_eq_some_iff.1 hj).1
              rw [q3 j (by omega)]; exact hj
            · have hpos : 0 < P.cellsOf e := by
                rw [← q2, VL_length m1]
                exact List.length_pos_iff.2 hne
              have := World.cells?_block g1 hpos
              rwa [add_block] at this)
          refine ⟨[.vw true es], ⟨_, _, rfl, ⟨some a, cap, P.cellsOf e, by rw [k1], by omega, by simp, VM_of es 0 (fun i row hi => ⟨a, rfl, (k2 i row hi).1, by rw [Nat.zero_add]; exact (k2 i row hi).2.1⟩)⟩, rfl⟩, by intro u hu; simp at hu; subst hu; rfl, true, es, rfl, by omega, fun r hr => ?_⟩
          obtain ⟨i, hi⟩ := List.getElem?_of_mem hr
          exact (k2 i r hi).2.2
      | struct fs =>
        simp only [Bool.and_eq_true, List.all_eq_true] at h
        obtain ⟨h1, h2⟩ := trod_struct hu ht
        rw [← h1] at h
        obtain ⟨row, g1, g2, g3⟩ := fields_V (P := P) (W := W) (ty := TY P n) (g := fun _ => True) fs.toList 0 cs h.1 (Nat.zero_le _) (fun f hf => by
          obtain ⟨d', p', hd⟩ := h2 f hf
          exact IH f.type fuel _ d' p' (h.2 f hf) hd)
        exact ⟨row, by simpa using g1, by simpa using g2, g3⟩
      | _ => simp at h

theorem rows_of {α : Type} {f : α → List AV} : ∀ (es : Rows), (∀ r ∈ es, ∃ x, r = f x) → ∃ xs : List α, es = xs.map f
  | [], _ => ⟨[], rfl⟩
  | r :: es, h => by
    obtain ⟨x, rfl⟩ := h r (List.mem_cons_self ..)
    obtain ⟨xs, rfl⟩ := rows_of es (fun r hr => h r (List.mem_cons_of_mem _ hr))
    exact ⟨x :: xs, rfl⟩

/-- One argument: its value, by content. -/
theorem arg_V {H : Type} {enc : TypeId × Value → H} {P : Program} {W : World} {sp : Nat → Bool} {held : Bool} {n : Nat} {t : TypeId} {v : Value} {d : DataW H} {p : List MemPlace} (hs : supp P n t = true) (h : DataW.Trod enc P W 0 sp held t v d p) :
    ∃ row, VL (cxW W) row v.cells.toList ∧ (∀ u ∈ v.cells.toList, u.oneCell' = true) ∧ TY P n t row := by
  obtain ⟨fuel, hf⟩ := h
  exact trod_V n t fuel _ d p hs hf

/-- A call from outside, by a contract. -/
theorem con_top {P : Program} {f : Nat} {args : List AV} {v : AV} (hc : Con P f true args v []) {W : World} {cargs : Array Value} (ha : VL (cxW W) args cargs.toList) :
    Calls P f cargs W fun e W' => (∃ c cv, e = .returned cv ∧ V c v cv) ∧ Below W.heap.size W W' := by
  refine (hc.2.2 (fun k => k < W.heap.size) W cargs (fun _ h => h) ha).mono ?_
  rintro e W' ⟨c, cv, rfl, rfl, hl, _, hv⟩
  exact ⟨⟨_, cv, rfl, hv⟩, hl.below⟩
theorem con_true {P : Program} {f : Nat} {args : List AV} (hc : Con P f true args (.bool true) []) {W : World} {cargs : Array Value} (ha : VL (cxW W) args cargs.toList) :
    Calls P f cargs W fun e W' => e = .returned (.bool true) ∧ Below W.heap.size W W' :=
  (con_top hc ha).mono fun e W' ⟨⟨c, cv, h1, h2⟩, h3⟩ => ⟨by rw [h1]; exact congrArg _ h2, h3⟩
end Go.Proofs.Yteoonedddgiacaa.Ab
