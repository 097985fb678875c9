/- Each operation of the machine, that the abstract view knows, gives what the abstract view says: literals, slices of slices, comparisons with nil and of structs. -/
import Derived.Test.YteoonedddgiacaaAbF
namespace Go.Proofs.Yteoonedddgiacaa.Ab
open Go Go.RowKit
set_option linter.unusedSimpArgs false
set_option linter.unusedVariables false

section
variable {P : Program} {B : Nat} {c : Cx} {H : Nat → Option Rows} {N : Nat → Prop} {nr : Nat} {g : AX → AV} {a : Act}

/-- One part laid into an array of cells. -/
theorem fill_one {place : Nat → Option (Nat × Nat)} {cells : Array Value} {i : Nat} {v : Value} {rest : List (Nat × Value)} {off s : Nat} (hp : place i = some (off, s)) (hs : v.cells.size = s) (ho : off + s ≤ cells.size) :
    Instr.fill place cells ((i, v) :: rest) = Instr.fill place (v.cells.zipIdx.foldl (fun cs (c, j) => cs.setIfInBounds (off + j) c) cells) rest := by
  simp [Instr.fill, hp, hs]; omega

theorem zipFold (off : Nat) (v : Array Value) (cells : Array Value) (h : off + v.size ≤ cells.size) (p : Nat) :
    (v.zipIdx.foldl (fun cs (c, j) => cs.setIfInBounds (off + j) c) cells)[p]? = (if off ≤ p ∧ p < off + v.size then v[p - off]? else cells[p]?) ∧ (v.zipIdx.foldl (fun cs (c, j) => cs.setIfInBounds (off + j) c) cells).size = cells.size := by
  have := set_fold off v.toList 0 cells (by simpa using h) p
  rw [← Array.foldl_toList, Array.toList_zipIdx]
  simpa using this

theorem rowIn_put {cells : Array Value} {base off : Nat} {row cs : List AV} {v : Array Value} (hrow : RowIn c cells base row) (hcs : RowIn c v 0 cs) (hv : v.size = cs.length) (hle : off + cs.length ≤ row.length) (hsz : base + row.length ≤ cells.size) :
    RowIn c (v.zipIdx.foldl (fun cs (c, j) => cs.setIfInBounds (base + off + j) c) cells) base (put row off cs) := by
  intro j x hj
  rw [put_get hle] at hj
  rw [(zipFold (base + off) v cells (by omega) (base + j)).1]
  by_cases hc : off ≤ j ∧ j < off + cs.length
  · rw [if_pos hc] at hj
    rw [if_pos (by omega)]
    obtain ⟨u, h1, h2, h3⟩ := hcs _ _ hj
    exact ⟨u, by rw [← h1]; congr 1; omega, h2, h3⟩
  · rw [if_neg hc] at hj
    rw [if_neg (by omega)]
    exact hrow j x hj

theorem fillA_run {place : Nat → Option (Nat × Nat)} : ∀ (ps : List (Nat × Nat × AX)) (qs : List (Nat × Value)) (z out : List AV) (cells : Array Value), ps.length = qs.length →
    (∀ (k : Nat) o s x i v, ps[k]? = some (o, s, x) → qs[k]? = some (i, v) → place i = some (o, s) ∧ V c (g x) v) → RowIn c cells 0 z → cells.size = z.length → fillA g z ps = some out →
    ∃ cells', Instr.fill place cells qs = some cells' ∧ RowIn c cells' 0 out ∧ cells'.size = out.length ∧ out.length = z.length
  | [], qs, z, out, cells, hl, _, hr, hs, he => by
    have : qs = [] := List.eq_nil_of_length_eq_zero (by simpa using hl.symm)
    subst this
    simp [fillA] at he; subst he
    exact ⟨cells, rfl, hr, hs, rfl⟩
  | (o, s, x) :: ps, qs, z, out, cells, hl, hp, hr, hs, he => by
    cases qs with
    | nil => simp at hl
    | cons q qs =>
      obtain ⟨i, v⟩ := q
      have h0 := hp 0 o s x i v rfl rfl
      simp only [fillA] at he
      cases hc : cellsOf (g x) with
      | none => simp [hc] at he
      | some cs =>
        simp only [hc] at he
        split at he
        · rename_i hcond
          obtain ⟨f1, f2, f3⟩ := cells_V h0.2 hc
          have hput : o + cs.length ≤ z.length := by omega
          have hr' := rowIn_put (base := 0) (off := o) hr (rowIn_of f1 f2) f3 hput (by omega)
          simp only [Nat.zero_add] at hr'
          have hsz : (v.cells.zipIdx.foldl (fun cs (c, j) => cs.setIfInBounds (o + j) c) cells).size = cells.size := (zipFold o v.cells cells (by omega) 0).2
          obtain ⟨cells', g1, g2, g3, g4⟩ := fillA_run ps qs (put z o cs) out _ (by simpa using hl) (fun k => hp (k + 1)) hr' (by rw [hsz, put_length hput]; exact hs) he
          refine ⟨cells', ?_, g2, g3, by rw [g4, put_length hput]⟩
          rw [fill_one h0.1 (by omega) (by omega)]
          exact g1
        · simp at he

theorem s_build (h : Rel B c H N) {t : TypeId} {fs : Array Field} (ht : P.underlying t = some (.struct fs)) {z : List AV} (hz : zcells P t = some z) {parts : Array (Nat × Operand)} {ps : List (Nat × Nat × AX)} {v u k}
    (hlen : ps.length = parts.size) (hps : ∀ (k : Nat) o s x, ps[k]? = some (o, s, x) → ∃ i y f, parts[k]? = some (i, y) ∧ fs[i]? = some f ∧ f.offset = o ∧ size? P f.type = some s ∧ V c (g x) (a.eval y))
    (hsizes : ∀ f ∈ fs.toList, (size? P f.type).isSome) (he : ev g H nr (.build z ps) = some (v, u, k)) : Runs P a (.build t parts) B c H N nr v u k := by
  obtain ⟨i, zv, hi, hzv, hl1, hl2, hV⟩ := zcells_of hz
  simp only [ev] at he
  cases hf : fillA g z ps with
  | none => simp [hf] at he
  | some out =>
    simp only [hf] at he
    obtain ⟨rfl, rfl, rfl⟩ := pureR_inv he
    have hplaces : ∃ places : Array (Nat × Nat), (fs.mapM (fun f => do pure (f.offset, ← Go.sizeOf f.type)) : Sem _).run P c.w = .ok places c.w ∧ ∀ (i : Nat) f s, fs[i]? = some f → size? P f.type = some s → places[i]? = some (f.offset, s) := by
      have key : ∀ (l : List Field), (∀ f ∈ l, (size? P f.type).isSome) → ∃ ps : List (Nat × Nat), (l.mapM (fun f => do pure (f.offset, ← Go.sizeOf f.type)) : Sem _).run P c.w = .ok ps c.w ∧ ∀ (i : Nat) f s, l[i]? = some f → size? P f.type = some s → ps[i]? = some (f.offset, s) := by
        intro l
        induction l with
        | nil => intro _; exact ⟨[], by simp, by simp⟩
        | cons f l ih =>
          intro hall
          obtain ⟨ps, h1, h2⟩ := ih (fun f hf => hall f (List.mem_cons_of_mem _ hf))
          obtain ⟨s0, hs0⟩ := Option.isSome_iff_exists.1 (hall f (List.mem_cons_self ..))
          refine ⟨(f.offset, s0) :: ps, by rw [List.mapM_cons]; simp only [Sem.run_bind, run_sizeOf' hs0, Result.andThen_ok, Sem.run_pure, h1], ?_⟩
          intro i f' s' hi' hs'
          cases i with
          | zero => simp at hi'; subst hi'; rw [hs0] at hs'; cases hs'; rfl
          | succ i => simp at hi'; simpa using h2 i f' s' hi' hs'
      obtain ⟨ps, h1, h2⟩ := key fs.toList hsizes
      refine ⟨ps.toArray, ?_, fun i f s hi' hs' => by simpa using h2 i f s (by simpa using hi') hs'⟩
      rw [Array.mapM_eq_mapM_toList]
      simp only [Sem.run_map, h1, Result.andThen_ok]
    obtain ⟨places, hpl, hpl'⟩ := hplaces
    obtain ⟨cells', g1, g2, g3, g4⟩ := fillA_run (c := c) (g := g) (place := (places[·]?)) ps (parts.map fun x => (x.1, a.eval x.2)).toList z out zv.cells (by simpa using hlen)
      (by
        intro k o s x i' v' hk hk'
        obtain ⟨i2, y, f, f1, f2, f3, f4, f5⟩ := hps k o s x hk
        simp only [Array.getElem?_toList, Array.getElem?_map, f1, Option.map_some, Option.some.injEq, Prod.mk.injEq] at hk'
        obtain ⟨rfl, rfl⟩ := hk'
        exact ⟨by rw [← f3]; exact hpl' _ _ _ f2 f4, f5⟩)
      (rowIn_of (hV c).1 (hV c).2) (by rw [hl1, ← hl2]; simp) hf
    have hVL : ∀ (n : Nat) (off : Nat) (xs : List AV), xs.length = n → (∀ (j : Nat) (x : AV), xs[j]? = some x → ∃ u, cells'[off + j]? = some u ∧ u.oneCell' = true ∧ V c x u) → VL c xs ((cells'.toList.drop off).take n) := by
      intro n
      induction n with
      | zero => intro off xs hx _; rw [List.length_eq_zero_iff] at hx; subst hx; simp [VL, VVL]
      | succ n ih =>
        intro off xs hx hr
        cases xs with
        | nil => simp at hx
        | cons x xs =>
          obtain ⟨w0, e1, e2, e3⟩ := hr 0 x rfl
          have hlt : off < cells'.toList.length := by
            have := (Array.getElem?_eq_some_iff.1 e1).1; simpa using this
          rw [List.drop_eq_getElem_cons hlt, List.take_succ_cons]
          refine ⟨_, _, rfl, ?_, ih (off + 1) xs (by simpa using hx) (fun j y hj => by have := hr (j + 1) y (by simpa using hj); rwa [show off + (j + 1) = off + 1 + j by omega] at this)⟩
          have : cells'.toList[off]'hlt = w0 := by
            have e4 : cells'[off]? = some w0 := by simpa using e1
            rw [Array.getElem?_eq_some_iff] at e4
            obtain ⟨_, e5⟩ := e4
            simpa using e5
          rw [this]; exact e3
    refine runs_pure h (.agg cells') (fun o ho => ?_) ⟨cells', rfl, ?_, ?_⟩
    · simp only [execOp, ho, Instr.build, Sem.run_bind, run_zeroValue' hi hzv, Result.andThen_ok, run_underlying' ht]
      rw [hpl]
      simp only [Result.andThen_ok]
      rw [g1]
      simp
    · have := hVL out.length 0 out rfl (by simpa [RowIn] using g2)
      rw [List.drop_zero, List.take_of_length_le (by simp [g3])] at this
      exact this
    · intro y hy
      obtain ⟨j, hj⟩ := List.getElem?_of_mem hy
      have hjl : j < out.length := by rw [← g3]; have := (List.getElem?_eq_some_iff.1 hj).1; simpa using this
      obtain ⟨w0, e1, e2, _⟩ := g2 j _ (List.getElem?_eq_getElem hjl)
      rw [Nat.zero_add] at e1
      have : cells'[j]? = some y := by simpa using hj
      rw [this] at e1; cases e1; exact e2

theorem fillS_run {sz : Nat} : ∀ (ps : List (Nat × AX)) (qs : List (Nat × Value)) (z out : Rows) (cells : Array Value), ps.length = qs.length →
    (∀ (k : Nat) i x i' v, ps[k]? = some (i, x) → qs[k]? = some (i', v) → i' = i ∧ V c (g x) v) → (∀ (i : Nat) row, z[i]? = some row → RowIn c cells (i * sz) row ∧ row.length = sz) → cells.size = z.length * sz → fillS g sz z ps = some out →
    ∃ cells', Instr.fill (fun i => some (i * sz, sz)) cells qs = some cells' ∧ (∀ (i : Nat) row, out[i]? = some row → RowIn c cells' (i * sz) row ∧ row.length = sz) ∧ cells'.size = out.length * sz ∧ out.length = z.length
  | [], qs, z, out, cells, hl, _, hr, hs, he => by
    have : qs = [] := List.eq_nil_of_length_eq_zero (by simpa using hl.symm)
    subst this
    simp [fillS] at he; subst he
    exact ⟨cells, rfl, hr, hs, rfl⟩
  | (i, x) :: ps, qs, z, out, cells, hl, hp, hr, hs, he => by
    cases qs with
    | nil => simp at hl
    | cons q qs =>
      obtain ⟨i', v⟩ := q
      have h0 := hp 0 i x i' v rfl rfl
      obtain ⟨rfl, h0⟩ := h0
      simp only [fillS] at he
      cases hc : cellsOf (g x) with
      | none => simp [hc] at he
      | some cs =>
        simp only [hc] at he
        split at he
        · rename_i hcond
          obtain ⟨f1, f2, f3⟩ := cells_V h0 hc
          have hm := mul_le_row (sz := sz) hcond.2
          have hsz : (v.cells.zipIdx.foldl (fun cs (c, j) => cs.setIfInBounds (i' * sz + j) c) cells).size = cells.size := (zipFold (i' * sz) v.cells cells (by omega) 0).2
          obtain ⟨cells', g1, g2, g3, g4⟩ := fillS_run ps qs (z.set i' cs) out _ (by simpa using hl) (fun k => hp (k + 1)) (by
            intro q row hq
            by_cases hqi : q = i'
            · subst hqi
              rw [List.getElem?_set_self hcond.2] at hq
              cases hq
              refine ⟨?_, hcond.1⟩
              intro j y hj
              have hjl := (List.getElem?_eq_some_iff.1 hj).1
              obtain ⟨w0, e1, e2, e3⟩ := rowIn_of f1 f2 j y hj
              rw [(zipFold (q * sz) v.cells cells (by omega) (q * sz + j)).1, if_pos (by omega)]
              exact ⟨w0, by rw [← e1]; congr 1; omega, e2, e3⟩
            · rw [List.getElem?_set_ne (Ne.symm hqi)] at hq
              obtain ⟨k1, k2⟩ := hr q row hq
              refine ⟨?_, k2⟩
              intro j y hj
              have hjl := (List.getElem?_eq_some_iff.1 hj).1
              rw [(zipFold (i' * sz) v.cells cells (by omega) (q * sz + j)).1, if_neg ?_]
              · exact k1 j y hj
              · rintro ⟨l1, l2⟩
                rcases Nat.lt_or_gt_of_ne hqi with h' | h'
                · have := mul_le_row (sz := sz) h'; omega
                · have := mul_le_row (sz := sz) h'; omega) (by rw [hsz]; simpa using hs) he
          refine ⟨cells', ?_, g2, g3, by simpa using g4⟩
          rw [fill_one rfl (by omega) (by omega)]
          exact g1
        · simp at he

theorem s_bsl (h : Rel B c H N) {t e : TypeId} (ht : P.underlying t = some (.slice e)) {sz : Nat} (hs : size? P e = some sz) {z : List AV} (hz : zcells P e = some z) {n : Nat} (hn : n * sz ≤ 1000) {parts : Array (Nat × Operand)} {ps : List (Nat × AX)} {v u k}
    (hlen : ps.length = parts.size) (hps : ∀ (k : Nat) i x, ps[k]? = some (i, x) → ∃ y, parts[k]? = some (i, y) ∧ V c (g x) (a.eval y)) (he : ev g H nr (.bsl sz z n ps) = some (v, u, k)) (hN0 : 0 < k → N nr) : Runs P a (.buildSlice t n parts) B c H N nr v u k := by
  obtain ⟨i, zv, hi, hzv, hl1, hl2, hV⟩ := zcells_of hz
  have hsize : i.size = sz := by unfold size? at hs; simp [hi] at hs; exact hs
  simp only [ev] at he
  cases hf : fillS g sz (List.replicate n z) ps with
  | none => simp [hf] at he
  | some out =>
    simp only [hf] at he
    cases he
    let zc : Array Value := if n * sz = 0 then #[] else zv.cells
    let cs : Array Value := (Array.range (n * sz)).map (zc[· % zc.size]!)
    have hcsz : cs.size = n * sz := by simp [cs]
    obtain ⟨cells', g1, g2, g3, g4⟩ := fillS_run (c := c) (g := g) (sz := sz) ps (parts.map fun x => (x.1, a.eval x.2)).toList (List.replicate n z) out cs (by simpa using hlen)
      (by
        intro k i1 x i' v' hk hk'
        obtain ⟨y, f1, f2⟩ := hps k i1 x hk
        simp only [Array.getElem?_toList, Array.getElem?_map, f1, Option.map_some, Option.some.injEq, Prod.mk.injEq] at hk'
        obtain ⟨rfl, rfl⟩ := hk'
        exact ⟨rfl, f2⟩)
      (by
        intro i' row hrow
        rw [List.getElem?_replicate] at hrow
        split at hrow
        · rename_i hlt
          cases hrow
          refine ⟨?_, by omega⟩
          intro j xx hj
          obtain ⟨w0, f1, f2⟩ := VL_get (hV c).1 hj
          have hjs : j < sz := by rw [← hsize, ← hl1]; exact (List.getElem?_eq_some_iff.1 hj).1
          have hm := mul_le_row (sz := sz) hlt
          have hnz : n * sz ≠ 0 := by omega
          have hzc : zc = zv.cells := by simp [zc, hnz]
          refine ⟨w0, ?_, (hV c).2 w0 (List.mem_of_getElem? f1), f2⟩
          have hzs : zv.cells.size = sz := by rw [← hsize, ← hl2]; simp
          simp only [cs, Array.getElem?_map, hzc, hzs]
          rw [Array.getElem?_range, if_pos (show i' * sz + j < n * sz by omega)]
          simp only [Option.map_some]
          rw [Nat.add_comm, Nat.add_mul_mod_self_right, Nat.mod_eq_of_lt hjs]
          have : zv.cells[j]? = some w0 := by simpa using f1
          simp [getElem!_def, this]
        · simp at hrow) (by simpa using hcsz) hf
    have hol : out.length = n := by simpa using g4
    intro o ho
    refine ⟨.value (.slice (some ⟨c.w.heap.size, 0, none⟩) n n), _, c.w.alloc (.cells cells' e), ?_, .inl rfl, ?_⟩
    · have hbig : ¬ (n * sz > 2 ^ 24) := by omega
      simp only [execOp, ho, Instr.buildSlice, Sem.run_bind, run_underlying' ht, Result.andThen_ok, run_sizeOf' hs, hbig, if_false, Sem.run_pure]
      have hz1 : ((if n * sz = 0 then (pure #[] : Sem (Array Value)) else do pure (← zeroValue e).cells).run P c.w) = .ok zc c.w := by
        by_cases h0 : n * sz = 0
        · simp [h0, zc]
        · simp [h0, zc, run_zeroValue' hi hzv]
      have g1' : Instr.fill (fun i => some (i * sz, sz)) ((Array.range (n * sz)).map (zc[· % zc.size]!)) (parts.map fun x => (x.1, a.eval x.2)).toList = some cells' := g1
      by_cases h0 : n * sz = 0
      · rw [if_pos h0]
        have : zc = #[] := by simp [zc, h0]
        rw [this] at g1'
        simp only [Sem.run_bind, Sem.run_pure, Result.andThen_ok]
        rw [g1']
        simp [run_newRow]
      · rw [if_neg h0]
        have : zc = zv.cells := by simp [zc, h0]
        rw [this] at g1'
        simp only [Sem.run_bind, Sem.run_pure, Result.andThen_ok, run_zeroValue' hi hzv]
        rw [g1']
        simp [run_newRow]
    · refine out_new h (hN0 (by omega)) e cells' sz out (fun row hrow => ?_) (fun i' row hrow => (g2 i' row hrow).1) (by rw [g3]; exact Nat.le_refl _) ?_
      · obtain ⟨j, hj⟩ := List.getElem?_of_mem hrow
        exact (g2 j row hj).2
      · have := V_new_sl (c := c) (nr := nr) (T := e) (cs := cells') (sz := sz) (n := n) (cap := n) (Nat.le_refl _) (by rw [g3, hol]; exact Nat.le_refl _)
        rw [hol]
        exact this
end
end Go.Proofs.Yteoonedddgiacaa.Ab
