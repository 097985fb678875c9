/- Each operation of the machine, that the abstract view knows, gives what the abstract view says: new variables, stores, literals, make, slices of slices. -/
import Derived.Test.YteoonedddgiacaaAbE
import Derived.IntWalk
namespace Go.Proofs.Yteoonedddgiacaa.Ab
open Go Go.RowKit
set_option linter.unusedSimpArgs false
set_option linter.unusedVariables false

theorem put_length {row cs : List AV} {j : Nat} (h : j + cs.length ≤ row.length) : (put row j cs).length = row.length := by
  simp [put]; omega
theorem put_get {row cs : List AV} {j : Nat} (h : j + cs.length ≤ row.length) (q : Nat) : (put row j cs)[q]? = if j ≤ q ∧ q < j + cs.length then cs[q - j]? else row[q]? := by
  have ht : (row.take j).length = j := by simp; omega
  unfold put
  by_cases h1 : q < j
  · rw [if_neg (by omega), List.append_assoc, List.getElem?_append_left (by omega), List.getElem?_take, if_pos h1]
  · rw [List.append_assoc, List.getElem?_append_right (by omega), ht]
    by_cases h2 : q < j + cs.length
    · rw [if_pos (by omega), List.getElem?_append_left (by omega)]
    · rw [if_neg (by omega), List.getElem?_append_right (by omega), List.getElem?_drop]
      congr 1; omega

theorem set_fold (off : Nat) : ∀ (l : List Value) (k : Nat) (cells : Array Value), off + k + l.length ≤ cells.size → ∀ p,
    ((l.zipIdx k).foldl (fun cs x => cs.setIfInBounds (off + x.2) x.1) cells)[p]? = (if off + k ≤ p ∧ p < off + k + l.length then l[p - (off + k)]? else cells[p]?) ∧ ((l.zipIdx k).foldl (fun cs x => cs.setIfInBounds (off + x.2) x.1) cells).size = cells.size
  | [], k, cells, _, p => by simp; intro h1 h2; omega
  | v :: l, k, cells, h, p => by
    simp only [List.zipIdx_cons, List.foldl_cons]
    simp only [List.length_cons] at h
    have ih := set_fold off l (k + 1) (cells.setIfInBounds (off + k) v) (by simp; omega) p
    refine ⟨?_, by rw [ih.2]; simp⟩
    rw [ih.1]
    by_cases h1 : off + (k + 1) ≤ p ∧ p < off + (k + 1) + l.length
    · rw [if_pos h1, if_pos (by simp; omega), show p - (off + k) = (p - (off + (k + 1))) + 1 by omega]; simp
    · rw [if_neg h1, Array.getElem?_setIfInBounds]
      by_cases h2 : off + k = p
      · subst h2
        rw [if_pos rfl, if_pos (show off + k < cells.size by omega), if_pos (by simp)]; simp
      · rw [if_neg h2, if_neg (by simp; omega)]

section
variable {P : Program} {B : Nat} {c : Cx} {H : Nat → Option Rows} {N : Nat → Prop} {nr : Nat} {g : AX → AV} {a : Act}

/-- Cells in an array stand for a row. -/
def RowIn (c : Cx) (cs : Array Value) (off : Nat) (row : List AV) : Prop := ∀ (j : Nat) (x : AV), row[j]? = some x → ∃ u, cs[off + j]? = some u ∧ u.oneCell' = true ∧ V c x u

theorem rowIn_of {cs : List AV} {vs : Array Value} (h1 : VL c cs vs.toList) (h2 : ∀ u ∈ vs.toList, u.oneCell' = true) : RowIn c vs 0 cs := by
  intro j x hj
  obtain ⟨u, hu, hv⟩ := VL_get h1 hj
  exact ⟨u, by simpa using hu, h2 u (List.mem_of_getElem? hu), hv⟩

theorem out_new (h : Rel B c H N) (hN : N nr) (T : TypeId) (cs : Array Value) (sz : Nat) (rows : Rows) (hrow : ∀ row ∈ rows, row.length = sz) (hcs : ∀ (i : Nat) (row : List AV), rows[i]? = some row → RowIn c cs (i * sz) row)
    (hsz : rows.length * sz ≤ cs.size) {v : AV} {v' : Value} (hv : V (newCx c nr ⟨c.w.heap.size, 0, sz, rows.length⟩ (.cells cs T)) v v') : Out B c H N nr v [(nr, some rows)] 1 v' (c.w.alloc (.cells cs T)) :=
  ⟨newCx c nr ⟨c.w.heap.size, 0, sz, rows.length⟩ (.cells cs T), rfl, later_new h hN _ _, rel_new h hN T cs sz rows hrow hcs hsz, hv⟩

theorem V_new_pt {cs : Array Value} {T : TypeId} {sz n : Nat} : V (newCx c nr ⟨c.w.heap.size, 0, sz, n⟩ (.cells cs T)) (.pt nr 0 0) (.pointer (some ⟨c.w.heap.size, 0, none⟩)) := by
  refine ⟨.inr rfl, ?_⟩
  simp [newCx]

theorem run_newVar (t : TypeId) (v : Value) (w : World) : (newVar t v).run P w = .ok ⟨w.heap.size, 0, none⟩ (w.alloc (.cells v.cells t)) := by
  rfl
theorem run_newRow (t : TypeId) (cs : Array Value) (w : World) : (newRow t cs).run P w = .ok ⟨w.heap.size, 0, none⟩ (w.alloc (.cells cs t)) := by
  rfl

theorem s_alloc (h : Rel B c H N) (hN : N nr) {t : TypeId} {z : List AV} (hz : zcells P t = some z) : Runs P a (.alloc t) B c H N nr (.pt nr 0 0) [(nr, some [z])] 1 := by
  obtain ⟨i, zv, hi, hzv, hl1, hl2, hV⟩ := zcells_of hz
  have hsz0 : zv.cells.size = i.size := by rw [← hl2]; simp
  intro o ho
  refine ⟨_, _, _, ?_, .inl rfl, out_new h hN t zv.cells z.length [z] (by simp) ?_ (by simp; omega) V_new_pt⟩
  · simp [execOp, ho, Instr.alloc, run_zeroValue' hi hzv, run_newVar]
  · intro k row hk
    cases k with
    | zero => simp at hk; subst hk; simpa using rowIn_of (hV c).1 (hV c).2
    | succ k => simp at hk

theorem s_box (h : Rel B c H N) {t : TypeId} {ag : Bool} {sz : Nat} {x : Operand} {p : AX} {v u k} (h1 : V c (g p) (a.eval x)) (he : ev g H nr (.box sz ag p) = some (v, u, k)) (hN0 : 0 < k → N nr) : Runs P a (.box t x) B c H N nr v u k := by
  have key : N nr → ∀ cs, cellsOf (g p) = some cs → Runs P a (.box t x) B c H N nr (.pt nr 0 0) [(nr, some [cs])] 1 := by
    intro hN cs hcs o ho
    obtain ⟨g1, g2, g3⟩ := cells_V h1 hcs
    refine ⟨_, _, _, ?_, .inl rfl, out_new h hN t (a.eval x).cells cs.length [cs] (by simp) ?_ (by simp; omega) V_new_pt⟩
    · simp [execOp, ho, Instr.box, run_newVar]
    · intro k row hk
      cases k with
      | zero => simp at hk; subst hk; simpa using rowIn_of g1 g2
      | succ k => simp at hk
  simp only [ev] at he
  split at he
  · rename_i cs hp
    split at he
    · cases he; exact key (hN0 (by omega)) cs (by rw [hp]; rfl)
    · simp at he
  · simp at he
  · simp at he
  · rename_i hnag hnu hnt
    split at he
    · cases he
      refine key (hN0 (by omega)) [g p] ?_
      cases hp : g p <;> simp_all [cellsOf]
    · simp at he

theorem mul_le_row {i n sz : Nat} (h : i < n) : i * sz + sz ≤ n * sz := by
  have := Nat.mul_le_mul_right sz (show i + 1 ≤ n from h)
  rwa [Nat.add_mul, Nat.one_mul] at this

theorem s_st (h : Rel B c H N) {t : TypeId} {sz : Nat} (hs : size? P t = some sz) {x y : Operand} {p q : AX} {v u k} (h1 : V c (g p) (a.eval x)) (h2 : V c (g q) (a.eval y)) (he : ev g H nr (.st sz p q) = some (v, u, k)) :
    Runs P a (.store t x y) B c H N nr v u k := by
  simp only [ev] at he
  split at he
  · rename_i r i j hp
    rw [hp] at h1
    obtain ⟨hk, e1⟩ := h1
    cases hr : H r with
    | none => simp [hr] at he
    | some rows =>
      simp only [hr] at he
      cases hi : rows[i]? with
      | none => simp [hi] at he
      | some row =>
        simp only [hi] at he
        cases hcs : cellsOf (g q) with
        | none => simp [hcs] at he
        | some cs =>
          simp only [hcs] at he
          split at he
          · rename_i hlen
            cases he
            obtain ⟨g1, g2, g3⟩ := cells_V h2 hcs
            have hlive := h.hr.live r rows hr
            have hn := h.hr.len r rows hr
            have hin : i < (c.ρ r).n := by rw [← hn]; exact (List.getElem?_eq_some_iff.1 hi).1
            have hrl := h.hr.rowlen r rows hr row (List.mem_of_getElem? hi)
            have hmul := mul_le_row (sz := (c.ρ r).sz) hin
            have hsize : (a.eval y).cells.toList.length = cs.length := by simpa using g3
            have hput : j + cs.length ≤ row.length := by omega
            have hset := out_set h hr (rows' := rows.set i (put row j cs)) (by simp) (by
              intro rw' hrw
              rcases List.mem_or_eq_of_mem_set hrw with h' | h'
              · exact h.hr.rowlen r rows hr rw' h'
              · rw [h', put_length hput]; exact hrl)
              ((c.ρ r).st + i * (c.ρ r).sz + j) (a.eval y).cells.toList (by rw [hsize]; omega) (by
              intro i' row' hi' j' z hz
              rw [hsize]
              by_cases hii : i' = i
              · subst hii
                rw [List.getElem?_set_self (by omega)] at hi'
                cases hi'
                rw [put_get hput] at hz
                by_cases hc : j ≤ j' ∧ j' < j + cs.length
                · rw [if_pos hc] at hz
                  rw [if_pos (by omega)]
                  obtain ⟨w0, f1, f2⟩ := VL_get g1 hz
                  exact ⟨w0, by rw [← f1]; congr 1; omega, g2 w0 (List.mem_of_getElem? f1), f2⟩
                · rw [if_neg hc] at hz
                  rw [if_neg (by omega)]
                  exact ⟨row, hi, hz⟩
              · rw [List.getElem?_set_ne (Ne.symm hii)] at hi'
                have hrl' := h.hr.rowlen r rows hr row' (List.mem_of_getElem? hi')
                have hj' : j' < (c.ρ r).sz := by rw [← hrl']; exact (List.getElem?_eq_some_iff.1 hz).1
                rw [if_neg ?_]
                · exact ⟨row', hi', hz⟩
                · rintro ⟨f1, f2⟩
                  rcases Nat.lt_or_gt_of_ne hii with h' | h'
                  · have := mul_le_row (sz := (c.ρ r).sz) h'; omega
                  · have := mul_le_row (sz := (c.ρ r).sz) h'; omega)
            intro o ho
            refine ⟨.skip, undef, _, ?_, .inr ⟨rfl, rfl⟩, { c with w := setC c.w (c.ρ r).blk ((c.ρ r).st + i * (c.ρ r).sz + j) (a.eval y).cells.toList }, rfl, hset.1, hset.2.weak fun _ q => q.1, trivial⟩
            have hrs := run_storeCells' (P := P) (o := (c.ρ r).st + i * (c.ρ r).sz + j) (a.eval y).cells.toList 0 hlive (by rw [hsize]; omega) g2
            have hsz : (a.eval y).cells.size = sz := by rw [g3]; exact hlen.1
            simp only [execOp, ho, Instr.storeAt, Instr.sureAddr, e1, storeVar, Sem.run_bind, Sem.run_pure, Result.andThen_ok, run_sizeOf' hs, hsz, ne_eq, not_true_eq_false, if_false, hrs, Sem.run_ite]
            simp
          · simp at he
  · simp at he

theorem s_mks (h : Rel B c H N) {t e : TypeId} (ht : P.underlying t = some (.slice e)) {sz bytes : Nat} (hs : size? P e = some sz) (hb : bytes? P e = some bytes) {z : List AV} (hz : zcells P e = some z) {x y : Operand} {p q : AX} {v u k}
    (h1 : V c (g p) (a.eval x)) (h2 : V c (g q) (a.eval y)) (he : ev g H nr (.mks sz bytes z p q) = some (v, u, k)) (hN0 : 0 < k → N nr) : Runs P a (.makeSlice t x y) B c H N nr v u k := by
  obtain ⟨i, zv, hi, hzv, hl1, hl2, hV⟩ := zcells_of hz
  simp only [ev] at he
  split at he
  · rename_i n1 n2 hp hq
    rw [hp] at h1; rw [hq] at h2
    have e1 : a.eval x = .int .i64 n1 := h1
    have e2 : a.eval y = .int .i64 n2 := h2
    split at he
    · rename_i hc
      obtain ⟨rfl, hn0, hn1, hb1⟩ := hc
      cases he
      have hbytes : i.bytes = bytes := by unfold bytes? at hb; simp [hi] at hb; exact hb
      have hsize : i.size = sz := by unfold size? at hs; simp [hi] at hs; exact hs
      have hwrap : IntKind.i64.wrap n1 = n1 := IntWalk.i64_in _ (by omega)
      have hmul : (bytes : Int) * n1 ≤ 2 ^ 48 := by
        have : (bytes : Int) * n1 ≤ 4096 * 4294967296 := Int.mul_le_mul (by omega) hn1 hn0 (by omega)
        omega
      have hcells : ((if n1.toNat * sz = 0 then (pure #[] : Sem (Array Value)) else do pure (← zeroValue e).cells).run P c.w) = .ok (if n1.toNat * sz = 0 then #[] else zv.cells) c.w := by
        split <;> simp [run_zeroValue' hi hzv]
      intro o ho
      let zc : Array Value := if n1.toNat * sz = 0 then #[] else zv.cells
      let cs : Array Value := (Array.range (n1.toNat * sz)).map (zc[· % zc.size]!)
      have hcsz : cs.size = n1.toNat * sz := by simp [cs]
      refine ⟨.value (.slice (some ⟨c.w.heap.size, 0, none⟩) n1.toNat n1.toNat), _, c.w.alloc (.cells cs e), ?_, .inl rfl, ?_⟩
      · simp only [execOp, ho, Instr.makeSlice, e1, e2, Sem.run_bind, run_underlying' ht, Result.andThen_ok, asInt, asIntOf, Sem.run_pure, run_typeInfo' hi, hwrap, hbytes, Sem.run_map]
        have hneg : ¬ n1 < 0 := by omega
        have hbig : ¬ ((bytes : Int) * n1 > 2 ^ 48) := by omega
        simp only [hneg, hbig, decide_false, Bool.or_false, Bool.false_eq_true, if_false, false_or, gt_iff_lt, Int.lt_irrefl, Sem.run_bind, run_askRoom, Result.andThen_ok, run_sizeOf' hs, Sem.run_ite, or_self, run_newRow]
        by_cases hz0 : n1.toNat * sz = 0
        · simp [zc, cs, run_newRow, hz0]
        · simp [zc, cs, run_newRow, hz0, run_zeroValue' hi hzv]
      · refine out_new h (hN0 (by omega)) e cs sz (List.replicate n1.toNat z) ?_ ?_ (by simp [hcsz]) ?_
        · intro row hrow; rw [(List.mem_replicate.1 hrow).2, hl1, hsize]
        · intro i' row hrow
          rw [List.getElem?_replicate] at hrow
          split at hrow
          · rename_i hlt
            cases hrow
            intro j xx hj
            obtain ⟨w0, f1, f2⟩ := VL_get (hV c).1 hj
            have hjs : j < sz := by rw [← hsize, ← hl1]; exact (List.getElem?_eq_some_iff.1 hj).1
            have hm := mul_le_row (sz := sz) hlt
            have hnz : n1.toNat * sz ≠ 0 := by omega
            have hzc : zc = zv.cells := by simp [zc, hnz]
            refine ⟨w0, ?_, (hV c).2 w0 (List.mem_of_getElem? f1), f2⟩
            have hzs : zv.cells.size = sz := by rw [← hsize, ← hl2]; simp
            simp only [cs, Array.getElem?_map, hzc, hzs]
            rw [Array.getElem?_range, if_pos (show i' * sz + j < n1.toNat * sz by omega)]
            simp only [Option.map_some]
            rw [Nat.add_comm, Nat.add_mul_mod_self_right, Nat.mod_eq_of_lt hjs]
            have : zv.cells[j]? = some w0 := by simpa using f1
            simp [getElem!_def, this]
          · simp at hrow
        · have := V_new_sl (c := c) (nr := nr) (T := e) (cs := cs) (sz := sz) (n := n1.toNat) (cap := n1.toNat) (Nat.le_refl _) (by rw [hcsz]; exact Nat.le_refl _)
          simpa using this
    · simp at he
  · simp at he
end
end Go.Proofs.Yteoonedddgiacaa.Ab
