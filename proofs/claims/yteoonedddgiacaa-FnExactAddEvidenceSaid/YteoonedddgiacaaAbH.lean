/- Each operation of the machine, that the abstract view knows, gives what the abstract view says: slices of slices, comparisons with nil, append, copy, clear. -/
import Derived.Test.YteoonedddgiacaaAbG
namespace Go.Proofs.Yteoonedddgiacaa.Ab
open Go Go.RowKit
set_option linter.unusedSimpArgs false
set_option linter.unusedVariables false

theorem VM_of {c : Cx} {A : Option Addr} {sz : Nat} : ∀ (es : List (List AV)) (k : Nat), (∀ (i : Nat) row, es[i]? = some row → ∃ a, A = some a ∧ row.length = sz ∧ VC c a ((k + i) * sz) row) → VM c A sz k es
  | [], _, _ => trivial
  | e :: es, k, h => ⟨by simpa using h 0 e rfl, VM_of es (k + 1) (fun i row hi => by have := h (i + 1) row (by simpa using hi); rwa [show k + (i + 1) = k + 1 + i by omega] at this)⟩

theorem okRows_get {sz : Nat} {rows : Rows} (h : okRows sz rows = true) {i : Nat} {row : List AV} (hi : rows[i]? = some row) : row.length = sz := by
  unfold okRows at h
  rw [List.all_eq_true] at h
  simpa using h row (List.mem_of_getElem? hi)

section
variable {P : Program} {B : Nat} {c : Cx} {H : Nat → Option Rows} {N : Nat → Prop} {nr : Nat} {g : AX → AV} {a : Act}

theorem bound_run {x : Operand} {y : AX} {d n : Nat} {m : Nat} {code : BoundsCode} (h1 : V c (g y) (a.eval x)) (hb : bound g d (some y) = some n) (hm : n ≤ m) (w : World) : (Instr.sliceBound (a.eval x) m code).run P w = .ok n w := by
  simp only [bound] at hb
  cases hy : g y with
  | int k z =>
    rw [hy] at hb h1
    have e1 : a.eval x = .int k z := h1
    simp only at hb
    split at hb
    · rename_i hz
      cases hb
      have : 0 ≤ z ∧ z ≤ (m : Int) := by omega
      simp [Instr.sliceBound, e1, asIntOf, this]
    · simp at hb
  | _ => simp [hy] at hb

theorem bounds_run {lo hi : Option Operand} {lo' hi' : Option AX} {len cap l hh : Nat} (hlo : (lo = none ∧ lo' = none) ∨ ∃ x y, lo = some x ∧ lo' = some y ∧ V c (g y) (a.eval x)) (hhi : (hi = none ∧ hi' = none) ∨ ∃ x y, hi = some x ∧ hi' = some y ∧ V c (g y) (a.eval x))
    (hl : bound g 0 lo' = some l) (hh' : bound g len hi' = some hh) (h1 : l ≤ hh) (h2 : hh ≤ cap) (w : World) : (Instr.sliceBounds true len cap (lo.map a.eval) (hi.map a.eval) none).run P w = .ok (l, hh, cap) w := by
  rcases hlo with ⟨rfl, rfl⟩ | ⟨x, y, rfl, rfl, hx⟩ <;> rcases hhi with ⟨rfl, rfl⟩ | ⟨x', y', rfl, rfl, hx'⟩
  · simp only [bound, Option.some.injEq] at hl hh'
    subst hl; subst hh'
    simp [Instr.sliceBounds]
  · simp only [bound, Option.some.injEq] at hl
    subst hl
    simp [Instr.sliceBounds, bound_run hx' hh' h2]
  · have hle : hh = len := by simpa [bound] using hh'.symm
    subst hle
    simp [Instr.sliceBounds, bound_run hx hl h1]
  · simp [Instr.sliceBounds, bound_run hx hl h1, bound_run hx' hh' h2]

theorem s_slc (h : Rel B c H N) {t e : TypeId} (ht : P.underlying t = some (.slice e)) {sz : Nat} (hs : size? P e = some sz) {x : Operand} {p : AX} {lo hi : Option Operand} {lo' hi' : Option AX} {v u k} (h1 : V c (g p) (a.eval x))
    (hlo : (lo = none ∧ lo' = none) ∨ ∃ x y, lo = some x ∧ lo' = some y ∧ V c (g y) (a.eval x)) (hhi : (hi = none ∧ hi' = none) ∨ ∃ x y, hi = some x ∧ hi' = some y ∧ V c (g y) (a.eval x))
    (he : ev g H nr (.slc sz p lo' hi') = some (v, u, k)) : Runs P a (.slice t x lo hi none) B c H N nr v u k := by
  have run : ∀ A len cap l hh, a.eval x = .slice A len cap → bound g 0 lo' = some l → bound g len hi' = some hh → l ≤ hh → hh ≤ cap → ∀ o : Oper, o.op = .slice t x lo hi none →
      (execOp a.eval o).run P c.w = .ok (.value (.slice (if cap = l then A else A.map (·.add (l * sz))) (hh - l) (cap - l))) c.w := by
    intro A len cap l hh e1 hl hh' g1 g2 o ho
    have hb := bounds_run (P := P) hlo hhi hl hh' g1 g2 c.w
    simp only [execOp, ho, Instr.sliceAt, e1, Sem.run_bind, run_underlying' ht, Result.andThen_ok, Instr.slice, Option.map_none]
    rw [hb]
    simp [run_sizeOf' hs]
  simp only [ev] at he
  split at he
  · rename_i nn es hp
    rw [hp] at h1
    obtain ⟨A, cap, sz', e1, hle, hnn, hm⟩ := h1
    split at he
    · rename_i l hh hl hh'
      split at he
      · rename_i hc
        obtain ⟨c1, c2, c3⟩ := hc
        obtain ⟨rfl, rfl, rfl⟩ := pureR_inv he
        have hlen : ((es.drop l).take (hh - l)).length = hh - l := by simp; omega
        refine runs_pure h _ (run A _ cap l hh e1 hl hh' c1 (by omega)) ⟨if cap = l then A else A.map (·.add (l * sz)), cap - l, sz', by rw [hlen], by rw [hlen]; omega, ?_, ?_⟩
        · intro hn
          have := hnn hn
          split
          · exact this
          · cases A with
            | none => exact absurd rfl this
            | some A => simp
        · refine VM_of _ 0 (fun i row hi => ?_)
          rw [List.getElem?_take] at hi
          split at hi
          · rename_i hil
            rw [List.getElem?_drop] at hi
            obtain ⟨ad, rfl, k1, k2⟩ := VM_get hm hi
            have k3 := okRows_get c3 hi
            refine ⟨ad.add (l * sz), ?_, k1, ?_⟩
            · rw [if_neg (by omega)]; rfl
            · refine VC_shift _ _ ?_
              rw [← k3, k1]
              rw [Nat.zero_add] at k2 ⊢
              rw [← Nat.add_mul]; exact k2
          · simp at hi
      · simp at he
    · simp at he
  · rename_i r s off len hp
    rw [hp] at h1
    obtain ⟨hk, hsz, A, cap, e1, hA, hin, hcap, hlive⟩ := h1
    split at he
    · rename_i rows hr
      split at he
      · rename_i l hh hl hh'
        split at he
        · rename_i hc
          obtain ⟨c1, c2, rfl⟩ := hc
          obtain ⟨rfl, rfl, rfl⟩ := pureR_inv he
          have hn := h.hr.len r rows hr
          refine runs_pure h _ (run (some A) _ cap l hh e1 hl hh' c1 (by omega)) ⟨hk, hsz, if cap = l then A else A.add (l * s), cap - l, ?_, ?_, by omega, by omega, hlive.mono ?_⟩
          · split <;> rfl
          · intro hpos
            rw [if_neg (by omega), hA (by omega), add_lit']
            congr 1
            rw [Nat.add_mul]; omega
          · rw [show off + l + (cap - l) = off + cap by omega]; exact Nat.le_refl _
        · simp at he
      · simp at he
    · simp at he
  · rename_i hp
    rw [hp] at h1
    have e1 : a.eval x = .slice none 0 0 := h1
    split at he
    · rename_i hl hh'
      obtain ⟨rfl, rfl, rfl⟩ := pureR_inv he
      exact runs_pure h _ (fun o ho => by have := run none 0 0 0 0 e1 hl hh' (Nat.le_refl _) (Nat.le_refl _) o ho; simpa using this) rfl
    · simp at he
  · simp at he

theorem s_slc3 (h : Rel B c H N) {t e : TypeId} (ht : P.underlying t = some (.slice e)) {sz : Nat} (hs : size? P e = some sz) {x xh xm : Operand} {p ph pm : AX} {lo : Option Operand} {lo' : Option AX} {v u k} (h1 : V c (g p) (a.eval x)) (hh0 : V c (g ph) (a.eval xh)) (hm0 : V c (g pm) (a.eval xm))
    (hlo : (lo = none ∧ lo' = none) ∨ ∃ x y, lo = some x ∧ lo' = some y ∧ V c (g y) (a.eval x))
    (he : ev g H nr (.slc3 sz p lo' ph pm) = some (v, u, k)) : Runs P a (.slice t x lo (some xh) (some xm)) B c H N nr v u k := by
  have run : ∀ A len cap l hh m, a.eval x = .slice A len cap → bound g 0 lo' = some l → bound g 0 (some ph) = some hh → bound g 0 (some pm) = some m → l ≤ hh → hh ≤ m → m ≤ cap → ∀ o : Oper, o.op = .slice t x lo (some xh) (some xm) →
      (execOp a.eval o).run P c.w = .ok (.value (.slice (if m = l then A else A.map (·.add (l * sz))) (hh - l) (m - l))) c.w := by
    intro A len cap l hh m e1 hl hh' hm' g1 g2 g3 o ho
    have hb : (Instr.sliceBounds true len cap (lo.map a.eval) (some (a.eval xh)) (some (a.eval xm))).run P c.w = .ok (l, hh, m) c.w := by
      rcases hlo with ⟨rfl, rfl⟩ | ⟨x', y, rfl, rfl, hx⟩
      · simp only [bound, Option.some.injEq] at hl
        subst hl
        simp [Instr.sliceBounds, bound_run hm0 hm' g3, bound_run hh0 hh' g2]
      · simp [Instr.sliceBounds, bound_run hm0 hm' g3, bound_run hh0 hh' g2, bound_run hx hl g1]
    simp only [execOp, ho, Instr.sliceAt, e1, Sem.run_bind, run_underlying' ht, Result.andThen_ok, Instr.slice, Option.map_some]
    rw [hb]
    simp [run_sizeOf' hs]
  simp only [ev] at he
  split at he
  · rename_i r s off len hp
    rw [hp] at h1
    obtain ⟨hk, hsz, A, cap, e1, hA, hin, hcap, hlive⟩ := h1
    split at he
    · rename_i rows hr
      split at he
      · rename_i l hh m hl hh' hm'
        split at he
        · rename_i hc
          obtain ⟨c1, c2, c3, rfl⟩ := hc
          obtain ⟨rfl, rfl, rfl⟩ := pureR_inv he
          have hn := h.hr.len r rows hr
          refine runs_pure h _ (run (some A) _ cap l hh m e1 hl hh' hm' c1 c2 (by omega)) ⟨hk, hsz, if m = l then A else A.add (l * s), m - l, ?_, ?_, by omega, by omega, hlive.mono ?_⟩
          · split <;> rfl
          · intro hpos
            rw [if_neg (by omega), hA (by omega), add_lit']
            congr 1
            rw [Nat.add_mul]; omega
          · rw [show off + l + (m - l) = off + m by omega]
            have := Nat.mul_le_mul_right s (show off + m ≤ off + cap by omega)
            omega
        · simp at he
      · simp at he
    · simp at he
  · simp at he

theorem nil_run (d : Nat) {ptr : Bool} {t e : TypeId} (ht : P.underlying t = some (if ptr then .pointer e else .slice e)) {xv yv : AV} {v w : Value} (h1 : V c xv v) (h2 : V c yv w) {p q : Bool} (hp : isNil ptr xv = some p) (hq : isNil ptr yv = some q) (hpq : (p || q) = true) (W : World) :
    (Op.equalIn (d + 1) t v w).run P W = .ok (p && q) W ∧ (∀ op x y, eqGuard op t x y v w = pure ()) ∧ (∀ op, op = .eql ∨ op = .neq → binOp op t v w = (if op = .eql then (do pure (.bool (← Op.equal t v w))) else do pure (.bool (!(← Op.equal t v w))))) := by
  cases ptr
  · simp only [Bool.false_eq_true, if_false] at ht
    have form : ∀ {z : AV} {b : Bool} {u : Value}, isNil false z = some b → V c z u → ∃ A n m, u = .slice A n m ∧ A.isNone = b := by
      intro z b u hz hu
      cases z with
      | nilS => simp [isNil] at hz; subst hz; exact ⟨none, 0, 0, hu, rfl⟩
      | vw nn es =>
        cases nn with
        | false => simp [isNil] at hz
        | true =>
          simp [isNil] at hz; subst hz
          obtain ⟨A, cap, sz, rfl, _, h3, _⟩ := hu
          refine ⟨A, _, _, rfl, ?_⟩
          cases A with
          | none => exact absurd rfl (h3 rfl)
          | some A => rfl
      | sl r s o l => simp [isNil] at hz; subst hz; obtain ⟨_, _, A, cap, rfl, _⟩ := hu; exact ⟨_, _, _, rfl, rfl⟩
      | _ => simp [isNil] at hz
    obtain ⟨A, n, m, rfl, hA⟩ := form hp h1
    obtain ⟨A', n', m', rfl, hA'⟩ := form hq h2
    refine ⟨?_, fun op x y => eqGuard_at_slice .., ?_⟩
    · cases A <;> cases A' <;> simp at hA hA' <;> subst hA <;> subst hA' <;> simp at hpq <;> simp [Op.equalIn, run_underlying' ht]
    · rintro op (rfl | rfl) <;> rfl
  · simp only [if_true] at ht
    have form : ∀ {z : AV} {b : Bool} {u : Value}, isNil true z = some b → V c z u → ∃ A, u = .pointer A ∧ A.isNone = b := by
      intro z b u hz hu
      cases z with
      | nilP => simp [isNil] at hz; subst hz; exact ⟨none, hu, rfl⟩
      | vw nn es => cases nn <;> simp [isNil] at hz
      | vp cs => simp [isNil] at hz; subst hz; obtain ⟨A, rfl, _⟩ := hu; exact ⟨_, rfl, rfl⟩
      | pt r i j => simp [isNil] at hz; subst hz; obtain ⟨_, rfl⟩ := hu; exact ⟨_, rfl, rfl⟩
      | _ => simp [isNil] at hz
    obtain ⟨A, rfl, hA⟩ := form hp h1
    obtain ⟨A', rfl, hA'⟩ := form hq h2
    refine ⟨?_, fun op x y => eqGuard_at_pointer .., ?_⟩
    · cases A <;> cases A' <;> simp at hA hA' <;> subst hA <;> subst hA' <;> simp at hpq <;> simp [Op.equalIn, run_underlying' ht]
    · rintro op (rfl | rfl) <;> rfl

theorem s_nil2 (h : Rel B c H N) {ptr neg : Bool} {t e ty : TypeId} (ht : P.underlying t = some (if ptr then .pointer e else .slice e)) {x y : Operand} {p q : AX} {v u k} (h1 : V c (g p) (a.eval x)) (h2 : V c (g q) (a.eval y)) (he : ev g H nr (.nil2 ptr neg p q) = some (v, u, k)) :
    Runs P a (.binOp (if neg then .neq else .eql) t x y ty) B c H N nr v u k := by
  simp only [ev] at he
  split at he
  · rename_i b1 b2 hp hq
    split at he
    · rename_i hb
      obtain ⟨rfl, rfl, rfl⟩ := pureR_inv he
      obtain ⟨f1, f2, f3⟩ := nil_run (P := P) 9999 ht h1 h2 hp hq (by simpa using hb) c.w
      have f1' : (Op.equal t (a.eval x) (a.eval y)).run P c.w = .ok (b1 && b2) c.w := f1
      cases neg
      · exact runs_pure h (.bool (b1 && b2)) (fun o ho => by
          simp only [Bool.false_eq_true, if_false] at ho
          simp only [execOp, ho, f2, f3 _ (.inl rfl), if_true, Sem.run_bind, Sem.run_pure, Result.andThen_ok, f1']) rfl
      · exact runs_pure h (.bool !(b1 && b2)) (fun o ho => by
          simp only [if_true] at ho
          simp only [execOp, ho, f2, f3 _ (.inr rfl), reduceCtorEq, if_false, Sem.run_bind, Sem.run_pure, Result.andThen_ok, f1']) rfl
    · simp at he
  · simp at he

/-- Rows that a slice shows: their cells, the first n of them. -/
theorem rows_cells (h : Rel B c H N) {y : AV} {v : Value} (hv : V c y v) {new : Rows} {sz : Nat} (hy : rowsOf H sz y = some new) : okRows sz new = true ∧
    (∃ A cap, v = .slice A new.length cap) ∧ ∀ n, n ≤ new.length → ∃ vs : List Value, vs.length = n * sz ∧ (∀ w, w.heap = c.w.heap → (Builtin.firstCells sz n v).run P w = .ok vs.toArray w) ∧ (∀ u ∈ vs, u.oneCell' = true) ∧
      ∀ (i : Nat) row, i < n → new[i]? = some row → ∀ (j : Nat) x, row[j]? = some x → ∃ u, vs[i * sz + j]? = some u ∧ V c x u := by
  have hok : okRows sz new = true := by
    cases y with
    | nilS => simp only [rowsOf, Option.some.injEq] at hy; subst hy; rfl
    | vw nn es =>
      simp only [rowsOf] at hy
      split at hy
      · rename_i h0; cases hy; exact h0
      · simp at hy
    | sl r s off len =>
      simp only [rowsOf] at hy
      split at hy
      · rename_i h0
        obtain ⟨_, hsz, _⟩ := hv
        simp only [Option.map_eq_some_iff] at hy
        obtain ⟨rows, hr, rfl⟩ := hy
        unfold okRows
        rw [List.all_eq_true]
        intro row hrow
        have := h.hr.rowlen r rows hr row (List.mem_of_mem_drop (List.mem_of_mem_take hrow))
        simp; omega
      · simp at hy
    | _ => simp [rowsOf] at hy
  refine ⟨hok, ?_⟩
  -- cells from a function
  have build : ∀ (ad : Addr) (n : Nat), n ≤ new.length → (∀ (i : Nat) row, new[i]? = some row → ∀ (j : Nat) x, row[j]? = some x → ∃ u, c.w.cell? (ad.add (i * sz + j)) = some u ∧ u.oneCell' = true ∧ V c x u) →
      ∃ vs : List Value, vs.length = n * sz ∧ (∀ w, w.heap = c.w.heap → (loadCells ad (n * sz)).run P w = .ok vs.toArray w) ∧ (∀ u ∈ vs, u.oneCell' = true) ∧
        ∀ (i : Nat) row, i < n → new[i]? = some row → ∀ (j : Nat) x, row[j]? = some x → ∃ u, vs[i * sz + j]? = some u ∧ V c x u := by
    intro ad n hn hc
    have hcell : ∀ q, q < n * sz → ∃ u, c.w.cell? (ad.add q) = some u ∧ u.oneCell' = true := by
      intro q hq
      have hsz : 0 < sz := by rcases Nat.eq_zero_or_pos sz with h0 | h0; · rw [h0] at hq; omega
                              · exact h0
      have hi : q / sz < n := Nat.div_lt_of_lt_mul (by rw [Nat.mul_comm]; exact hq)
      have hj : q % sz < sz := Nat.mod_lt _ hsz
      have hrow := List.getElem?_eq_getElem (l := new) (show q / sz < new.length by omega)
      have hl := okRows_get hok hrow
      have hx := List.getElem?_eq_getElem (l := new[q / sz]'(by omega)) (show q % sz < _ by rw [hl]; exact hj)
      obtain ⟨u, h1, h2, _⟩ := hc _ _ hrow _ _ hx
      have e0 : q / sz * sz + q % sz = q := by rw [Nat.mul_comm]; exact Nat.div_add_mod q sz
      rw [e0] at h1
      exact ⟨u, h1, h2⟩
    let f : Nat → Value := fun q => (c.w.cell? (ad.add q)).getD undef
    have hf : ∀ q, q < n * sz → c.w.cell? (ad.add q) = some (f q) := by
      intro q hq
      obtain ⟨u, h1, _⟩ := hcell q hq
      simp [f, h1]
    refine ⟨(List.range (n * sz)).map f, by simp, fun w hw => ?_, ?_, ?_⟩
    · have : ∀ q, q < n * sz → w.cell? (ad.add q) = some (f q) := fun q hq => by
        rw [← hf q hq]; exact World.cell?_of_block (by rw [hw])
      exact run_loadCells (P := P) w ad (n * sz) f this
    · intro u hu
      obtain ⟨q, hq, rfl⟩ := List.mem_map.1 hu
      have hq' := List.mem_range.1 hq
      obtain ⟨u, h1, h2⟩ := hcell q hq'
      have := hf q hq'
      rw [this] at h1; cases h1; exact h2
    · intro i row hi hrow j x hx
      obtain ⟨u, h1, h2, h3⟩ := hc i row hrow j x hx
      have hjl : j < sz := by rw [← okRows_get hok hrow]; exact (List.getElem?_eq_some_iff.1 hx).1
      have hm := mul_le_row (sz := sz) hi
      refine ⟨u, ?_, h3⟩
      rw [List.getElem?_map, List.getElem?_range (by omega)]
      have := hf (i * sz + j) (by omega)
      rw [this] at h1; cases h1; rfl
  cases y with
  | nilS =>
    simp only [rowsOf, Option.some.injEq] at hy; subst hy
    have e1 : v = .slice none 0 0 := hv
    subst e1
    refine ⟨⟨none, 0, rfl⟩, fun n hn => ?_⟩
    have : n = 0 := by simpa using hn
    subst this
    exact ⟨[], by simp, fun w _ => by simp [Builtin.firstCells], by simp, by simp⟩
  | vw nn es =>
    simp only [rowsOf] at hy
    split at hy
    case isFalse => simp at hy
    cases hy
    obtain ⟨A, cap, sz', rfl, hle, hnn, hm⟩ := hv
    refine ⟨⟨A, cap, rfl⟩, fun n hn => ?_⟩
    cases A with
    | none =>
      have hnil : new = [] := by
        cases new with
        | nil => rfl
        | cons e es => obtain ⟨⟨ad, h0, _⟩, _⟩ := hm; cases h0
      subst hnil
      have : n = 0 := by simpa using hn
      subst this
      exact ⟨[], by simp, fun w _ => by simp [Builtin.firstCells], by simp, by simp⟩
    | some ad =>
      obtain ⟨vs, b1, b2, b3, b4⟩ := build ad n hn (by
        intro i row hrow j x hx
        obtain ⟨ad', e0, k1, k2⟩ := VM_get hm hrow
        cases e0
        have := VC_get k2 hx
        rw [Nat.zero_add, ← k1, okRows_get hok hrow] at this
        exact this.2)
      exact ⟨vs, b1, fun w hw => by simpa [Builtin.firstCells] using b2 w hw, b3, b4⟩
  | sl r s off len =>
    simp only [rowsOf] at hy
    split at hy
    case isFalse => simp at hy
    rename_i hs
    subst hs
    simp only [Option.map_eq_some_iff] at hy
    obtain ⟨rows, hr, rfl⟩ := hy
    obtain ⟨hk, hsz, A, cap, rfl, hA, hin, hcap, hlive⟩ := hv
    have hn := h.hr.len r rows hr
    have hlen : ((rows.drop off).take len).length = len := by simp; omega
    refine ⟨⟨some A, cap, by rw [hlen]⟩, fun n hn' => ?_⟩
    by_cases h0 : n = 0
    · subst h0
      exact ⟨[], by simp, fun w _ => by simp [Builtin.firstCells, loadCells, loadCellsFrom], by simp, by simp⟩
    · have hA := hA (by omega)
      subst hA
      obtain ⟨vs, b1, b2, b3, b4⟩ := build ⟨(c.ρ r).blk, (c.ρ r).st + off * s, none⟩ n hn' (by
        intro i row hrow j x hx
        have hl1 := okRows_get hok hrow
        rw [List.getElem?_take] at hrow
        split at hrow
        · rw [List.getElem?_drop] at hrow
          obtain ⟨u, k1, k2, k3⟩ := h.hr.cells r rows hr _ row hrow j x hx
          refine ⟨u, ?_, k2, k3⟩
          rw [add_lit', ← k1]
          congr 2
          rw [hsz, Nat.add_mul]; omega
        · simp at hrow)
      exact ⟨vs, b1, fun w hw => by simpa [Builtin.firstCells] using b2 w hw, b3, b4⟩
  | _ => simp [rowsOf] at hy
end
end Go.Proofs.Yteoonedddgiacaa.Ab
