/- Each operation of the machine, that the abstract view knows, gives what the abstract view says: append, copy, clear. -/
import Derived.Test.YteoonedddgiacaaAbH
namespace Go.Proofs.Yteoonedddgiacaa.Ab
open Go Go.RowKit
set_option linter.unusedSimpArgs false
set_option linter.unusedVariables false

theorem splice_get {rows new : Rows} {k : Nat} (hk : k + new.length ≤ rows.length) (i : Nat) : (rows.take k ++ new ++ rows.drop (k + new.length))[i]? = if k ≤ i ∧ i < k + new.length then new[i - k]? else rows[i]? := by
  have ht : (rows.take k).length = k := by simp; omega
  by_cases h1 : i < k
  · rw [if_neg (by omega), List.append_assoc, List.getElem?_append_left (by omega), List.getElem?_take, if_pos h1]
  · rw [List.append_assoc, List.getElem?_append_right (by omega), ht]
    by_cases h2 : i < k + new.length
    · rw [if_pos (by omega), List.getElem?_append_left (by omega)]
    · rw [if_neg (by omega), List.getElem?_append_right (by omega), List.getElem?_drop]
      congr 1; omega
theorem splice_length {rows new : Rows} {k : Nat} (hk : k + new.length ≤ rows.length) : (rows.take k ++ new ++ rows.drop (k + new.length)).length = rows.length := by
  simp; omega

section
variable {P : Program} {B : Nat} {c : Cx} {H : Nat → Option Rows} {N : Nat → Prop} {nr : Nat} {g : AX → AV} {a : Act}

/-- Rows written over rows of one's own. -/
theorem out_splice (h : Rel B c H N) {r : Nat} {rows new : Rows} (hr : H r = some rows) {sz k : Nat} (hsz : (c.ρ r).sz = sz ∨ new = []) (hk : k + new.length ≤ rows.length) (hnew : okRows sz new = true) {vs : List Value} (hvl : vs.length = new.length * sz)
    (hv1 : ∀ u ∈ vs, u.oneCell' = true) (hv2 : ∀ (i : Nat) row, i < new.length → new[i]? = some row → ∀ (j : Nat) x, row[j]? = some x → ∃ u, vs[i * sz + j]? = some u ∧ V c x u) :
    Later B c { c with w := setC c.w (c.ρ r).blk ((c.ρ r).st + k * (c.ρ r).sz) vs } ∧ Rel B { c with w := setC c.w (c.ρ r).blk ((c.ρ r).st + k * (c.ρ r).sz) vs } (upd H [(r, some (rows.take k ++ new ++ rows.drop (k + new.length)))]) N := by
  have hn := h.hr.len r rows hr
  have hmul : (k + new.length) * (c.ρ r).sz ≤ (c.ρ r).n * (c.ρ r).sz := Nat.mul_le_mul_right _ (by omega)
  rw [Nat.add_mul] at hmul
  have hvl' : vs.length = new.length * (c.ρ r).sz := by
    rcases hsz with e | e
    · rw [hvl, e]
    · rw [hvl, e]; simp
  refine out_set h hr (splice_length hk) ?_ _ vs (by rw [hvl']; omega) ?_
  · intro row hrow
    obtain ⟨i, hi⟩ := List.getElem?_of_mem hrow
    rw [splice_get hk] at hi
    split at hi
    · rename_i hc
      rcases hsz with e | e
      · rw [e]; exact okRows_get hnew hi
      · subst e; simp at hi
    · exact h.hr.rowlen r rows hr row (List.mem_of_getElem? hi)
  · intro i row hi j x hx
    rw [splice_get hk] at hi
    rw [hvl']
    by_cases hc : k ≤ i ∧ i < k + new.length
    · rw [if_pos hc] at hi
      have e : (c.ρ r).sz = sz := by
        rcases hsz with e | e
        · exact e
        · subst e; simp at hi
      have hjl : j < (c.ρ r).sz := by rw [e, ← okRows_get hnew hi]; exact (List.getElem?_eq_some_iff.1 hx).1
      have m1 := mul_le_row (sz := (c.ρ r).sz) (show i - k < new.length by omega)
      have m2 : i * (c.ρ r).sz = k * (c.ρ r).sz + (i - k) * (c.ρ r).sz := by rw [← Nat.add_mul]; congr 1; omega
      rw [if_pos (by omega)]
      obtain ⟨u, f1, f2⟩ := hv2 (i - k) row (by omega) hi j x hx
      refine ⟨u, ?_, hv1 u (List.mem_of_getElem? f1), f2⟩
      rw [← f1, ← e]; congr 1; omega
    · rw [if_neg hc] at hi
      have hrl := h.hr.rowlen r rows hr row (List.mem_of_getElem? hi)
      have hjl : j < (c.ρ r).sz := by rw [← hrl]; exact (List.getElem?_eq_some_iff.1 hx).1
      rw [if_neg ?_]
      · exact ⟨row, hi, hx⟩
      · rintro ⟨f1, f2⟩
        rcases Nat.lt_or_ge i k with h' | h'
        · have := mul_le_row (sz := (c.ρ r).sz) h'; omega
        · have h'' : k + new.length ≤ i := by omega
          have := Nat.mul_le_mul_right (c.ρ r).sz h''
          rw [Nat.add_mul] at this; omega

/-- In place behind the end: the object goes on under a new number. -/
theorem rel_grow (h : Rel B c H N) (hN : N nr) {r : Nat} {rows new : Rows} (hr : H r = some rows) {sz cap : Nat} (hsz : (c.ρ r).sz = sz) (hnew : okRows sz new = true) {vs : List Value} (hvl : vs.length = new.length * sz)
    (hv1 : ∀ u ∈ vs, u.oneCell' = true) (hv2 : ∀ (i : Nat) row, i < new.length → new[i]? = some row → ∀ (j : Nat) x, row[j]? = some x → ∃ u, vs[i * sz + j]? = some u ∧ V c x u) (hcap : rows.length + new.length ≤ cap)
    (hlive : Live c.w (c.ρ r).blk ((c.ρ r).st + cap * (c.ρ r).sz)) :
    let c' : Cx := { F := c.F, K := fun q => c.K q ∨ q = nr, ρ := fun q => if q = nr then ⟨(c.ρ r).blk, (c.ρ r).st, sz, rows.length + new.length⟩ else c.ρ q, w := setC c.w (c.ρ r).blk ((c.ρ r).st + rows.length * (c.ρ r).sz) vs }
    Later B c c' ∧ Rel B c' (upd H [(r, none), (nr, some (rows ++ new))]) (less N nr 1) := by
  intro c'
  subst hsz
  have hn := h.hr.len r rows hr
  have hbase := h.hr.base r rows hr
  have hf := setC_frame (c.ρ r).blk vs ((c.ρ r).st + rows.length * (c.ρ r).sz) c.w
  have hmul : (rows.length + new.length) * (c.ρ r).sz ≤ cap * (c.ρ r).sz := Nat.mul_le_mul_right _ hcap
  rw [Nat.add_mul] at hmul
  have hcell := setC_cell vs ((c.ρ r).st + rows.length * (c.ρ r).sz) hlive (by rw [hvl]; omega)
  have he : Ext c c' := ⟨fun k hk => ⟨hk, hf.2.2.2.2 k (fun e => hbase.2 (e ▸ hk))⟩, fun q hq => ⟨.inl hq, by simp [c', h.ne hN hq]⟩, fun g m hl => setC_live vs _ hl⟩
  have hne : ∀ q qs, H q = some qs → q ≠ nr := fun q qs hq => h.ne hN (h.hr.known q qs hq)
  have hrn : r ≠ nr := hne r rows hr
  have inv : ∀ q qs, upd H [(r, none), (nr, some (rows ++ new))] q = some qs → (q = nr ∧ qs = rows ++ new) ∨ (q ≠ nr ∧ q ≠ r ∧ H q = some qs) := by
    intro q qs hq
    simp only [upd] at hq
    split at hq
    · simp at hq
    · rename_i h1
      split at hq
      · rename_i h2; cases hq; exact .inl ⟨h2, rfl⟩
      · rename_i h2; exact .inr ⟨h2, h1, hq⟩
  refine ⟨⟨he, ⟨hf.1, hf.2.1, hf.2.2.1, Nat.le_of_eq hf.2.2.2.1.symm, fun k hk => hf.2.2.2.2 k (by have := hbase.1; omega)⟩, fun k hk => .inl hk⟩, ?_⟩
  refine ⟨⟨?_, ?_, ?_, ?_, ?_, ?_, ?_⟩, ?_, ?_, ?_⟩
  · intro q qs hq
    rcases inv q qs hq with ⟨e, _⟩ | ⟨_, _, hq⟩
    · exact .inr e
    · exact .inl (h.hr.known q qs hq)
  · intro q qs hq
    rcases inv q qs hq with ⟨e, e'⟩ | ⟨e, _, hq⟩
    · subst e'; simp [c', e]
    · simp only [c', e, if_false]; exact h.hr.len q qs hq
  · intro q qs hq row hrow
    rcases inv q qs hq with ⟨e, e'⟩ | ⟨e, _, hq⟩
    · subst e'
      simp only [c', e, if_true]
      rcases List.mem_append.1 hrow with h' | h'
      · exact h.hr.rowlen r rows hr row h'
      · obtain ⟨i, hi⟩ := List.getElem?_of_mem h'; exact okRows_get hnew hi
    · simp only [c', e, if_false]; exact h.hr.rowlen q qs hq row hrow
  · intro q qs hq i row hi j x hx
    rcases inv q qs hq with ⟨e, e'⟩ | ⟨e, e2, hq⟩
    · subst e'
      simp only [c', e, if_true]
      rw [hcell]
      by_cases hi' : i < rows.length
      · rw [List.getElem?_append_left hi'] at hi
        obtain ⟨u, f1, f2, f3⟩ := h.hr.cells r rows hr i row hi j x hx
        have hjl : j < (c.ρ r).sz := by rw [← h.hr.rowlen r rows hr row (List.mem_of_getElem? hi)]; exact (List.getElem?_eq_some_iff.1 hx).1
        have := mul_le_row (sz := (c.ρ r).sz) hi'
        rw [if_neg (by omega)]
        exact ⟨u, f1, f2, V_mono he x u f3⟩
      · rw [List.getElem?_append_right (by omega)] at hi
        have hjl : j < (c.ρ r).sz := by rw [← okRows_get hnew hi]; exact (List.getElem?_eq_some_iff.1 hx).1
        have hil := (List.getElem?_eq_some_iff.1 hi).1
        have m1 := mul_le_row (sz := (c.ρ r).sz) hil
        have m2 : i * (c.ρ r).sz = rows.length * (c.ρ r).sz + (i - rows.length) * (c.ρ r).sz := by rw [← Nat.add_mul]; congr 1; omega
        rw [if_pos (by rw [hvl]; omega)]
        obtain ⟨u, f1, f2⟩ := hv2 _ row hil hi j x hx
        exact ⟨u, by rw [← f1]; congr 1; omega, hv1 u (List.mem_of_getElem? f1), V_mono he x u f2⟩
    · simp only [c', e, if_false]
      obtain ⟨u, f1, f2, f3⟩ := h.hr.cells q qs hq i row hi j x hx
      exact ⟨u, by rw [← f1]; exact World.cell?_of_block (hf.2.2.2.2 _ (h.hr.inj q r qs rows hq hr e2)), f2, V_mono he x u f3⟩
  · intro q qs hq
    rcases inv q qs hq with ⟨e, e'⟩ | ⟨e, _, hq⟩
    · subst e'
      simp only [c', e, if_true]
      exact setC_live vs _ (hlive.mono (by rw [Nat.add_mul]; omega))
    · simp only [c', e, if_false]; exact setC_live vs _ (h.hr.live q qs hq)
  · intro q qs hq
    rcases inv q qs hq with ⟨e, e'⟩ | ⟨e, _, hq⟩
    · simp only [c', e, if_true]; exact hbase
    · simp only [c', e, if_false]; exact h.hr.base q qs hq
  · intro q q' qs qs' hq hq' hqq
    rcases inv q qs hq with ⟨e, e'⟩ | ⟨e, e2, hq⟩ <;> rcases inv q' qs' hq' with ⟨f, f'⟩ | ⟨f, f2, hq'⟩
    · exact absurd (e.trans f.symm) hqq
    · simp only [c', e, f, if_true, if_false]; exact h.hr.inj r q' rows qs' hr hq' (Ne.symm f2)
    · simp only [c', e, f, if_true, if_false]; exact h.hr.inj q r qs rows hq hr e2
    · simp only [c', e, f, if_false]; exact h.hr.inj q q' qs qs' hq hq' hqq
  · intro q hq
    rcases hq with hq | hq
    · exact fun z => h.kn q hq z.1
    · exact fun z => z.2 (by omega)
  · intro k hk; have := h.fb k hk; simp only [c']; rw [hf.2.2.2.1]; exact this
  · simp only [c']; rw [hf.2.2.2.1]; exact h.bb

theorem growBy_le (n : Nat) : ∀ (rounds c : Nat), c < n → n ≤ 4294967296 → Builtin.growBy n rounds c ≤ 8589934592
  | 0, c, h, hn => by simp [Builtin.growBy]; omega
  | rounds + 1, c, h, hn => by
    unfold Builtin.growBy
    split
    · omega
    · by_cases h2 : c + (c + 768) / 4 < n
      · exact growBy_le n rounds _ h2 hn
      · cases rounds with
        | zero => simp [Builtin.growBy]; omega
        | succ rounds => unfold Builtin.growBy; rw [if_pos (by omega)]; omega
theorem nextcap_le {n c : Nat} (h : c < n) (hn : n ≤ 4294967296) : Builtin.nextslicecap n c ≤ 8589934592 := by
  unfold Builtin.nextslicecap
  split
  · omega
  · split
    · omega
    · exact growBy_le n 4 c h hn

theorem rel_drew (h : Rel B c H N) : Rel B { c with w := c.w.drew } H N ∧ Later B c { c with w := c.w.drew } := by
  have he : Ext c { c with w := c.w.drew } := ⟨fun k hk => ⟨hk, rfl⟩, fun r hr => ⟨hr, rfl⟩, fun g m hl => hl⟩
  exact ⟨⟨h.hr.mono_same he (fun k hk => .inl hk) (fun _ _ _ => rfl), h.kn, h.fb, h.bb⟩, ⟨he, (Below.refl B c.w).drew, fun k hk => .inl hk⟩⟩

theorem s_app (h : Rel B c H N) {cl : Call} {x y : Operand} {t t2 e : TypeId} (hcal : cl.callee = .builtin .append) (hargs : cl.args = #[x, y]) (hty : cl.argTypes = #[t, t2]) (ht : P.underlying t = some (.slice e)) (ht2 : P.underlying t2 = some (.slice e))
    {sz bytes : Nat} (hs : size? P e = some sz) (hb : bytes? P e = some bytes) {z : List AV} (hz : zcells P e = some z) {p q : AX} {v u k} (h1 : V c (g p) (a.eval x)) (h2 : V c (g q) (a.eval y)) (he : ev g H nr (.app sz bytes z p q) = some (v, u, k)) (hN0 : 0 < k → N nr) :
    Runs P a (.call cl) B c H N nr v u k := by
  obtain ⟨i, zv, hi, hzv, hl1, hl2, hV⟩ := zcells_of hz
  have hbytes : i.bytes = bytes := by unfold bytes? at hb; simp [hi] at hb; exact hb
  have hsize : i.size = sz := by unfold size? at hs; simp [hi] at hs; exact hs
  have hzs : zv.cells.size = sz := by rw [← hsize, ← hl2]; simp
  simp only [ev] at he
  cases hnew : rowsOf H sz (g q) with
  | none => simp [hnew] at he
  | some new =>
    simp only [hnew] at he
    obtain ⟨hok, ⟨Ay, capy, ey⟩, hvs⟩ := rows_cells (P := P) h h2 hnew
    obtain ⟨vs, b1, b2, b3, b4⟩ := hvs new.length (Nat.le_refl _)
    clear hvs
    -- the run, by whether it fits
    have runFit : ∀ A n cap, a.eval x = .slice A n cap → n + new.length ≤ cap → ∀ W, (∀ ad, A = some ad → (storeCells (ad.add (n * sz)) vs).run P c.w = .ok () W) → (A = none → W = c.w) → ∀ o : Oper, o.op = .call cl →
        (execOp a.eval o).run P c.w = .ok (.value (.slice A (n + new.length) cap)) W := by
      clear he
      intro A n cap e1 hfit W hW hW0 o ho
      have ey' := b2 c.w rfl
      rw [ey] at ey'
      have e3 : a.eval y = .slice Ay new.length capy := ey
      simp only [execOp, ho, resolve, hcal, hargs, invoke, builtin, Sem.run_bind, Sem.run_pure, Result.andThen_ok, List.map_toArray, List.map_cons, List.map_nil]
      simp only [Builtin.append_, hty, e1, e3, List.getElem?_toArray, List.getElem?_cons_zero, List.getElem?_cons_succ, Sem.run_bind, run_underlying' ht, run_underlying' ht2, Result.andThen_ok, run_sizeOf' hs, Sem.run_pure, Builtin.lenOf, Bool.false_eq_true, if_false, hfit, if_true, Bool.not_false, ey']
      cases A with
      | none => simp [ey', hW0 rfl]
      | some ad => simp [ey', hW ad rfl]
    have runGrow : ∀ A n cap (old : List Value), a.eval x = .slice A n cap → ¬ (n + new.length ≤ cap) → n + new.length ≤ 4294967296 → bytes ≤ 4096 → (∀ w, w.heap = c.w.heap → (Builtin.firstCells sz n (.slice A n cap)).run P w = .ok old.toArray w) → ∃ newCap, n + new.length ≤ newCap ∧ ∀ o : Oper, o.op = .call cl →
        (execOp a.eval o).run P c.w = .ok (.value (.slice (some ⟨c.w.heap.size, 0, none⟩) (n + new.length) newCap)) (c.w.drew.alloc (.cells (old.toArray ++ vs.toArray ++ Builtin.zeroCells zv.cells (newCap - (n + new.length))) e)) := by
      clear he
      intro A n cap old e1 hfit hle hby hold
      refine ⟨Question.cut (.appendCap (n + new.length) cap e) (c.w.tape c.w.drawn (.appendCap (n + new.length) cap e)), by simp [Question.cut], fun o ho => ?_⟩
      have e3 : a.eval y = .slice Ay new.length capy := ey
      have ey' := b2 c.w.drew rfl
      rw [ey] at ey'
      have ho' := hold c.w.drew rfl
      have hmax : ¬ (((n + new.length : Nat) : Int) > IntKind.i64.max ∧ (False ∨ bytes = 0)) := by
        rintro ⟨hm, _⟩
        rw [IntKind.max_i64] at hm; omega
      have hnext : ¬ (Builtin.nextslicecap (n + new.length) cap * bytes > 2 ^ 48) := by
        have := Nat.mul_le_mul (nextcap_le (show cap < n + new.length by omega) hle) hby
        omega
      have hforce : Question.forced (.appendCap (n + new.length) cap e) = false := rfl
      simp only [execOp, ho, resolve, hcal, hargs, invoke, builtin, Sem.run_bind, Sem.run_pure, Result.andThen_ok, List.map_toArray, List.map_cons, List.map_nil]
      simp only [Builtin.append_, hty, e1, e3, List.getElem?_toArray, List.getElem?_cons_zero, List.getElem?_cons_succ, Sem.run_bind, run_underlying' ht, run_underlying' ht2, Result.andThen_ok, run_sizeOf' hs, Sem.run_pure, Builtin.lenOf, Bool.false_eq_true, if_false, hfit, run_typeInfo' hi, hbytes, hmax, hnext, run_choose, hforce, run_askRoom, World.drew_eq, ho', ey', Bool.not_false, if_true, run_zeroValue' hi hzv, run_newRow]
      rfl
    -- a grown block as rows
    have grown : N nr → ∀ (oldRows : Rows) (old : List Value) (n : Nat), oldRows.length = n → old.length = n * sz → (∀ row ∈ oldRows, row.length = sz) → (∀ (i : Nat) row, i < n → oldRows[i]? = some row → ∀ (j : Nat) x, row[j]? = some x → ∃ u, old[i * sz + j]? = some u ∧ u.oneCell' = true ∧ V c x u) → ∀ newCap, n + new.length ≤ newCap →
        Out B { c with w := c.w.drew } H N nr (.sl nr sz 0 (n + new.length)) [(nr, some (oldRows ++ new))] 1 (.slice (some ⟨c.w.heap.size, 0, none⟩) (n + new.length) newCap) (c.w.drew.alloc (.cells (old.toArray ++ vs.toArray ++ Builtin.zeroCells zv.cells (newCap - (n + new.length))) e)) := by
      clear he
      intro hN oldRows old n ho1 ho2 ho3 ho4 newCap hcap
      have hsz : (old.toArray ++ vs.toArray ++ Builtin.zeroCells zv.cells (newCap - (n + new.length))).size = newCap * sz := by
        simp only [Array.size_append, List.size_toArray, ho2, b1, Builtin.zeroCells, Array.size_map, Array.size_range, hzs]
        rw [← Nat.add_mul, ← Nat.add_mul]; congr 1; omega
      have hgrow := out_new (rel_drew h).1 hN e (old.toArray ++ vs.toArray ++ Builtin.zeroCells zv.cells (newCap - (n + new.length))) sz (oldRows ++ new) (by
          intro row hrow
          rcases List.mem_append.1 hrow with h' | h'
          · exact ho3 row h'
          · obtain ⟨i, hi⟩ := List.getElem?_of_mem h'; exact okRows_get hok hi) (by
          intro i' row hrow j xx hx
          by_cases hlt : i' < n
          · rw [List.getElem?_append_left (by omega)] at hrow
            obtain ⟨u0, f1, f2, f3⟩ := ho4 i' row hlt hrow j xx hx
            have hjl := (List.getElem?_eq_some_iff.1 f1).1
            refine ⟨u0, ?_, f2, V_mono (rel_drew h).2.ext xx u0 f3⟩
            rw [Array.append_assoc, Array.getElem?_append_left (by simpa using hjl)]
            simpa using f1
          · rw [List.getElem?_append_right (by omega)] at hrow
            have hil := (List.getElem?_eq_some_iff.1 hrow).1
            obtain ⟨u0, f1, f2⟩ := b4 _ row hil hrow j xx hx
            have hjl := (List.getElem?_eq_some_iff.1 f1).1
            have m2 : i' * sz = n * sz + (i' - oldRows.length) * sz := by rw [← Nat.add_mul]; congr 1; omega
            refine ⟨u0, ?_, b3 u0 (List.mem_of_getElem? f1), V_mono (rel_drew h).2.ext xx u0 f2⟩
            rw [Array.append_assoc, Array.getElem?_append_right (by simp [ho2]; omega), Array.getElem?_append_left (by simp [ho2]; omega)]
            rw [← f1]; simp [ho2]; congr 1; omega) (by rw [hsz]; exact Nat.mul_le_mul_right _ (by simp; omega)) (v := .sl nr sz 0 (n + new.length)) (v' := .slice (some ⟨c.w.heap.size, 0, none⟩) (n + new.length) newCap) (by
          have := V_new_sl (c := { c with w := c.w.drew }) (nr := nr) (T := e) (cs := old.toArray ++ vs.toArray ++ Builtin.zeroCells zv.cells (newCap - (n + new.length))) (sz := sz) (n := n + new.length) (cap := newCap) hcap (by rw [hsz]; exact Nat.le_refl _)
          have e0 : (oldRows ++ new).length = n + new.length := by simp [ho1]
          rw [e0]; exact this)
      exact hgrow
    have outDrew : ∀ {v u k v' w'}, Out B { c with w := c.w.drew } H N nr v u k v' w' → Out B c H N nr v u k v' w' := by
      rintro v u k v' w' ⟨c', f1, f2, f3, f4⟩
      exact ⟨c', f1, (rel_drew h).2.trans f2, f3, f4⟩
    split at he
    · -- a nil slice
      rename_i hp
      rw [hp] at h1
      have e1 : a.eval x = .slice none 0 0 := h1
      split at he
      · rename_i hc
        split at he
        · rename_i hnil
          obtain ⟨rfl, rfl, rfl⟩ := pureR_inv he
          subst hnil
          intro o ho
          refine ⟨_, _, _, runFit none 0 0 e1 (by simp) c.w (by simp) (fun _ => rfl) o ho, .inl rfl, ?_⟩
          exact out_pure h rfl
        · rename_i hnil
          cases he
          have hpos : 0 < new.length := List.length_pos_iff.2 hnil
          obtain ⟨newCap, f1, f2⟩ := runGrow none 0 0 [] e1 (by omega) (by omega) hc.2 (fun w _ => by simp [Builtin.firstCells])
          intro o ho
          refine ⟨_, _, _, f2 o ho, .inl rfl, outDrew ?_⟩
          have := grown (hN0 (by omega)) [] [] 0 rfl (by simp) (by simp) (by simp) newCap f1
          simpa using this
      · simp at he
    · rename_i r s off len hp
      rw [hp] at h1
      obtain ⟨hk, hsz, A, cap, e1, hA, hin, hcap, hlive⟩ := id h1
      split at he
      · rename_i rows hr
        have hn := h.hr.len r rows hr
        split at he
        · rename_i hc
          obtain ⟨hc, rfl⟩ := hc
          cases he
          have hsp := out_splice h hr (k := off + len) (.inl hsz) hc hok b1 b3 b4
          intro o ho
          refine ⟨_, _, _, runFit (some A) len cap e1 (by omega) (setC c.w (c.ρ r).blk ((c.ρ r).st + (off + len) * (c.ρ r).sz) vs) ?_ (by simp) o ho, .inl rfl, { c with w := setC c.w (c.ρ r).blk ((c.ρ r).st + (off + len) * (c.ρ r).sz) vs }, rfl, hsp.1, hsp.2.weak fun _ q => q.1, ?_⟩
          · intro ad had
            cases had
            by_cases hnn : new = []
            · subst hnn
              have : vs = [] := List.eq_nil_of_length_eq_zero (by rw [b1]; simp)
              subst this
              simp [storeCells, setC]
            · have hpos := List.length_pos_iff.2 hnn
              have hA := hA (by omega)
              subst hA
              rw [add_lit']
              have hm : (off + len + new.length) * s ≤ (off + cap) * s := Nat.mul_le_mul_right _ (by omega)
              rw [Nat.add_mul, Nat.add_mul] at hm
              have := run_storeCells' (P := P) (o := (c.ρ r).st + off * s + len * s) vs 0 hlive (by rw [b1]; omega) b3
              rw [this, hsz]
              congr 2
              rw [Nat.add_mul]; omega
          · exact V_mono hsp.1.ext (.sl r s off (len + new.length)) _ ⟨hk, hsz, A, cap, rfl, hA, by omega, hcap, hlive⟩
        · split at he
          · rename_i hnc hc
            obtain ⟨rfl, rfl, rfl, hle, hby⟩ := hc
            cases he
            have hpos : 0 < new.length := by
              rcases Nat.eq_zero_or_pos new.length with h0 | h0
              · exact absurd ⟨by omega, rfl⟩ hnc
              · exact h0
            by_cases hfit : rows.length + new.length ≤ cap
            · -- in place
              have hA := hA (by omega)
              subst hA
              have hgr := rel_grow h (hN0 (by omega)) hr hsz hok b1 b3 b4 hfit (by rw [hsz]; simpa using hlive)
              intro o ho
              refine ⟨_, _, _, runFit _ rows.length cap e1 hfit (setC c.w (c.ρ r).blk ((c.ρ r).st + rows.length * (c.ρ r).sz) vs) ?_ (by simp) o ho, .inl rfl, _, rfl, hgr.1, hgr.2, ?_⟩
              · intro ad had
                cases had
                rw [add_lit']
                have hm : (rows.length + new.length) * s ≤ (0 + cap) * s := Nat.mul_le_mul_right _ (by omega)
                rw [Nat.add_mul] at hm
                have := run_storeCells' (P := P) (o := (c.ρ r).st + 0 * s + rows.length * s) vs 0 hlive (by rw [b1]; omega) b3
                rw [this, hsz]
                simp
              · refine ⟨.inr rfl, by simp, _, cap, rfl, ?_, ?_, ?_, ?_⟩
                · intro _; simp
                · simp
                · simpa using hfit
                · simp only [if_true]
                  exact hgr.1.ext.L _ _ hlive
            · -- a new block
              obtain ⟨_, _, hvs0⟩ := rows_cells (P := P) (new := rows) (sz := s) h h1 (by simp only [rowsOf, hr, if_true, Option.map_some, List.drop_zero, List.take_length])
              obtain ⟨vs0, d1, d2, d3, d4⟩ := hvs0 rows.length (Nat.le_refl _)
              obtain ⟨newCap, f1, f2⟩ := runGrow (some A) rows.length cap vs0 e1 hfit hle hby (fun w hw => by have := d2 w hw; rw [e1] at this; exact this)
              intro o ho
              have hgo := grown (hN0 (by omega)) rows vs0 rows.length rfl d1 (fun row hrow => by rw [h.hr.rowlen r rows hr row hrow]; exact hsz) (fun i row hi hrow j x hx => by
                obtain ⟨u0, g1, g2⟩ := d4 i row hi hrow j x hx
                exact ⟨u0, g1, d3 u0 (List.mem_of_getElem? g1), g2⟩) newCap f1
              refine ⟨_, _, _, f2 o ho, .inl rfl, outDrew ?_⟩
              obtain ⟨c', k1, k2, k3, k4⟩ := hgo
              refine ⟨c', k1, k2, ⟨⟨?_, ?_, ?_, ?_, ?_, ?_, ?_⟩, k3.kn, k3.fb, k3.bb⟩, k4⟩
              all_goals
                have inv : ∀ q qs, upd H [(r, none), (nr, some (rows ++ new))] q = some qs → upd H [(nr, some (rows ++ new))] q = some qs := by
                  intro q qs hq
                  simp only [upd] at hq ⊢
                  split at hq
                  · simp at hq
                  · exact hq
              · intro q qs hq; exact k3.hr.known q qs (inv q qs hq)
              · intro q qs hq; exact k3.hr.len q qs (inv q qs hq)
              · intro q qs hq; exact k3.hr.rowlen q qs (inv q qs hq)
              · intro q qs hq; exact k3.hr.cells q qs (inv q qs hq)
              · intro q qs hq; exact k3.hr.live q qs (inv q qs hq)
              · intro q qs hq; exact k3.hr.base q qs (inv q qs hq)
              · intro q q' qs qs' hq hq'; exact k3.hr.inj q q' qs qs' (inv q qs hq) (inv q' qs' hq')
          · simp at he
      · simp at he
    · simp at he

theorem s_cpy (h : Rel B c H N) {cl : Call} {x y : Operand} {t t2 e : TypeId} (hcal : cl.callee = .builtin .copy) (hargs : cl.args = #[x, y]) (hty : cl.argTypes = #[t, t2]) (ht : P.underlying t = some (.slice e))
    {sz : Nat} (hs : size? P e = some sz) {p q : AX} {v u k} (h1 : V c (g p) (a.eval x)) (h2 : V c (g q) (a.eval y)) (he : ev g H nr (.cpy sz p q) = some (v, u, k)) : Runs P a (.call cl) B c H N nr v u k := by
  simp only [ev] at he
  split at he
  · rename_i r s off len src hp hsrc
    rw [hp] at h1
    obtain ⟨hk, hsz, A, cap, e1, hA, hin, hcap, hlive⟩ := h1
    split at he
    · rename_i rows hr
      have hn := h.hr.len r rows hr
      split at he
      · rename_i hc
        obtain ⟨rfl, hc⟩ := hc
        cases he
        obtain ⟨hok, ⟨Ay, capy, ey⟩, hvs⟩ := rows_cells (P := P) h h2 hsrc
        obtain ⟨vs, b1, b2, b3, b4⟩ := hvs (src.take len).length (by simp; omega)
        have hmin : (src.take len).length = Nat.min src.length len := by rw [List.length_take, Nat.min_comm]
        have hok' : okRows s (src.take len) = true := by
          unfold okRows at hok ⊢
          rw [List.all_eq_true] at hok ⊢
          exact fun row hrow => hok row (List.mem_of_mem_take hrow)
        have hsp := out_splice h hr (k := off) (.inl hsz) (by simp; omega) hok' b1 b3 (fun i row hi hrow j x hx => b4 i row hi (by rw [List.getElem?_take] at hrow; split at hrow; exact hrow; simp at hrow) j x hx)
        intro o ho
        refine ⟨_, .int .i64 (src.take len).length, setC c.w (c.ρ r).blk ((c.ρ r).st + off * (c.ρ r).sz) vs, ?_, .inl rfl, _, rfl, hsp.1, hsp.2.weak fun _ q => q.1, rfl⟩
        have ey' := b2 c.w rfl
        rw [ey] at ey'
        have e3 : a.eval y = .slice Ay src.length capy := ey
        have hst : (storeCells A vs).run P c.w = .ok () (setC c.w (c.ρ r).blk ((c.ρ r).st + off * (c.ρ r).sz) vs) := by
          by_cases h0 : (src.take len).length = 0
          · have : vs = [] := List.eq_nil_of_length_eq_zero (by rw [b1, h0]; simp)
            subst this
            simp [storeCells, setC]
          · have hlen : (src.take len).length ≤ len := by simp; omega
            have hA := hA (by omega)
            subst hA
            have hm : (off + (src.take len).length) * s ≤ (off + cap) * s := Nat.mul_le_mul_right _ (by omega)
            rw [Nat.add_mul] at hm
            have := run_storeCells' (P := P) (o := (c.ρ r).st + off * s) vs 0 hlive (by rw [b1]; omega) b3
            rw [this, hsz]
            simp
        simp only [execOp, ho, resolve, hcal, hargs, invoke, builtin, Sem.run_bind, Sem.run_pure, Result.andThen_ok, List.map_toArray, List.map_cons, List.map_nil]
        simp only [Builtin.copy_, hty, e1, e3, List.getElem?_toArray, List.getElem?_cons_zero, List.getElem?_cons_succ, Sem.run_bind, run_underlying' ht, Result.andThen_ok, run_sizeOf' hs, Sem.run_pure, Builtin.lenOf, ← hmin, ey']
        simp [hst, goInt]
      · simp at he
    · simp at he
  · simp at he

theorem s_clr (h : Rel B c H N) {cl : Call} {x : Operand} {t e : TypeId} (hcal : cl.callee = .builtin .clear) (hargs : cl.args = #[x]) (hty : cl.argTypes = #[t]) (ht : P.underlying t = some (.slice e))
    {sz : Nat} (hs : size? P e = some sz) {z : List AV} (hz : zcells P e = some z) {p : AX} {v u k} (h1 : V c (g p) (a.eval x)) (he : ev g H nr (.clr sz z p) = some (v, u, k)) : Runs P a (.call cl) B c H N nr v u k := by
  obtain ⟨i, zv, hi, hzv, hl1, hl2, hV⟩ := zcells_of hz
  have hsize : i.size = sz := by unfold size? at hs; simp [hi] at hs; exact hs
  have hzs : zv.cells.size = sz := by rw [← hsize, ← hl2]; simp
  simp only [ev] at he
  split at he
  · rename_i r s off len hp
    rw [hp] at h1
    obtain ⟨hk, hsz, A, cap, e1, hA, hin, hcap, hlive⟩ := h1
    split at he
    · rename_i rows hr
      have hn := h.hr.len r rows hr
      split at he
      · rename_i hc
        obtain ⟨rfl, hc⟩ := hc
        cases he
        let vs : List Value := (Builtin.zeroCells zv.cells len).toList
        have b1 : vs.length = (List.replicate len z).length * s := by simp [vs, Builtin.zeroCells, hzs]
        have hget : ∀ i j, i < len → j < s → vs[i * s + j]? = zv.cells[j]? := by
          intro i j hi hj
          have hm := mul_le_row (sz := s) hi
          simp only [vs, Builtin.zeroCells, Array.getElem?_toList, Array.getElem?_map, hzs]
          rw [Array.getElem?_range, if_pos (show i * s + j < len * s by omega)]
          simp only [Option.map_some]
          rw [Nat.add_comm, Nat.add_mul_mod_self_right, Nat.mod_eq_of_lt hj, Array.getElem?_eq_getElem (show j < zv.cells.size by omega)]
          simp [getElem!_def, Array.getElem?_eq_getElem (show j < zv.cells.size by omega)]
        have b3 : ∀ u ∈ vs, u.oneCell' = true := by
          intro u hu
          simp only [vs, Builtin.zeroCells, Array.toList_map, List.mem_map] at hu
          obtain ⟨q, hq, rfl⟩ := hu
          have hq' : q < len * zv.cells.size := by simpa using hq
          have hpos : 0 < zv.cells.size := by rcases Nat.eq_zero_or_pos zv.cells.size with h0 | h0; · rw [h0] at hq'; omega
                                              · exact h0
          have hlt := Nat.mod_lt q hpos
          have : zv.cells[q % zv.cells.size]! = zv.cells[q % zv.cells.size]'hlt := by simp [getElem!_def, Array.getElem?_eq_getElem hlt]
          rw [this]
          exact (hV c).2 _ (by simp)
        have b4 : ∀ (i : Nat) row, i < (List.replicate len z).length → (List.replicate len z)[i]? = some row → ∀ (j : Nat) x, row[j]? = some x → ∃ u, vs[i * s + j]? = some u ∧ V c x u := by
          intro i row hi hrow j x hx
          rw [List.getElem?_replicate] at hrow
          split at hrow
          · rename_i hlt
            cases hrow
            obtain ⟨w0, f1, f2⟩ := VL_get (hV c).1 hx
            have hj : j < s := by rw [← hsize, ← hl1]; exact (List.getElem?_eq_some_iff.1 hx).1
            exact ⟨w0, by rw [hget i j hlt hj]; simpa using f1, f2⟩
          · simp at hrow
        have hsp := out_splice h hr (k := off) (.inl hsz) (by simpa using hc) (by simp [okRows, hl1, hsize]) b1 b3 b4
        intro o ho
        refine ⟨_, .tuple #[], setC c.w (c.ρ r).blk ((c.ρ r).st + off * (c.ρ r).sz) vs, ?_, .inl rfl, _, rfl, hsp.1, hsp.2.weak fun _ q => q.1, ⟨#[], rfl, rfl⟩⟩
        cases len with
        | zero =>
          have : vs = [] := List.eq_nil_of_length_eq_zero (by rw [b1]; simp)
          simp [execOp, ho, resolve, hcal, hargs, invoke, builtin, Builtin.clear_, hty, e1, run_underlying' ht, this, setC]
        | succ len =>
          have hA := hA (by omega)
          subst hA
          have hm : (off + (len + 1)) * s ≤ (off + cap) * s := Nat.mul_le_mul_right _ (by omega)
          rw [Nat.add_mul] at hm
          have hst := run_storeCells' (P := P) (o := (c.ρ r).st + off * s) vs 0 hlive (by rw [b1]; simp only [List.length_replicate]; omega) b3
          have hst' : (storeCells ⟨(c.ρ r).blk, (c.ρ r).st + off * s, none⟩ (Builtin.zeroCells zv.cells (len + 1)).toList).run P c.w = .ok () (setC c.w (c.ρ r).blk ((c.ρ r).st + off * (c.ρ r).sz) vs) := by
            rw [hsz]; simpa using hst
          simp only [execOp, ho, resolve, hcal, hargs, invoke, builtin, Sem.run_bind, Sem.run_pure, Result.andThen_ok, List.map_toArray, List.map_cons, List.map_nil]
          simp only [Builtin.clear_, hty, e1, List.getElem?_toArray, List.getElem?_cons_zero, Sem.run_bind, run_underlying' ht, Result.andThen_ok, Sem.run_pure, run_zeroValue' hi hzv, hst']
      · simp at he
    · simp at he
  · rename_i hp
    rw [hp] at h1
    have e1 : a.eval x = .slice none 0 0 := h1
    obtain ⟨rfl, rfl, rfl⟩ := pureR_inv he
    exact runs_pure h (.tuple #[]) (fun o ho => by simp [execOp, ho, resolve, hcal, hargs, invoke, builtin, Builtin.clear_, hty, e1, run_underlying' ht]) ⟨#[], rfl, rfl⟩
  · simp at he
end
end Go.Proofs.Yteoonedddgiacaa.Ab
