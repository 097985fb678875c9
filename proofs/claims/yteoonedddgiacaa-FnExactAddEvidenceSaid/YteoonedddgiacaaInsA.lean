/- slices.Insert of elements of three cells: what the state tells behind it. -/
import Derived.Test.YteoonedddgiacaaInsW
import Derived.Test.YteoonedddgiacaaAb2
namespace Go.Proofs.Yteoonedddgiacaa.Ins
open Go Go.RowKit Go.Lib Go.Proofs.Yteoonedddgiacaa.Ab
set_option linter.unusedSimpArgs false
set_option linter.unusedVariables false

/-- Cells of some of the rows of an object. -/
theorem cells_list {B : Nat} {c : Cx} {H : Nat → Option Ab.Rows} (h : HR B c H) {r : Nat} {rows : Ab.Rows} (hr : H r = some rows) {sz : Nat} (hsz : (c.ρ r).sz = sz) (i n : Nat) (hin : i + n ≤ rows.length) :
    ∃ vs : List Value, vs.length = n * sz ∧ (∀ j u, vs[j]? = some u → c.w.cell? ⟨(c.ρ r).blk, (c.ρ r).st + i * sz + j, none⟩ = some u) ∧ (∀ u ∈ vs, u.oneCell' = true) ∧
      ∀ (k : Nat) row, k < n → rows[i + k]? = some row → ∀ (j : Nat) x, row[j]? = some x → ∃ u, vs[k * sz + j]? = some u ∧ V c x u := by
  have hcell : ∀ q, q < n * sz → ∃ u, c.w.cell? ⟨(c.ρ r).blk, (c.ρ r).st + i * sz + q, none⟩ = some u ∧ u.oneCell' = true := by
    intro q hq
    have hs0 : 0 < sz := by rcases Nat.eq_zero_or_pos sz with h0 | h0; · rw [h0] at hq; omega
                            · exact h0
    have hk : q / sz < n := Nat.div_lt_of_lt_mul (by rw [Nat.mul_comm]; exact hq)
    have hj : q % sz < sz := Nat.mod_lt _ hs0
    have hrow := List.getElem?_eq_getElem (l := rows) (show i + q / sz < rows.length by omega)
    have hl := h.rowlen r rows hr _ (List.mem_of_getElem? hrow)
    have hx := List.getElem?_eq_getElem (l := rows[i + q / sz]'(by omega)) (show q % sz < _ by rw [hl, hsz]; exact hj)
    obtain ⟨u, h1, h2, _⟩ := h.cells r rows hr _ _ hrow _ _ hx
    have e0 : (c.ρ r).st + (i + q / sz) * (c.ρ r).sz + q % sz = (c.ρ r).st + i * sz + q := by
      have := Nat.div_add_mod q sz
      rw [hsz, Nat.add_mul, Nat.mul_comm (q / sz)]
      omega
    rw [e0] at h1
    exact ⟨u, h1, h2⟩
  let f : Nat → Value := fun q => (c.w.cell? ⟨(c.ρ r).blk, (c.ρ r).st + i * sz + q, none⟩).getD undef
  have hf : ∀ q, q < n * sz → c.w.cell? ⟨(c.ρ r).blk, (c.ρ r).st + i * sz + q, none⟩ = some (f q) := by
    intro q hq
    obtain ⟨u, h1, _⟩ := hcell q hq
    simp [f, h1]
  refine ⟨(List.range (n * sz)).map f, by simp, ?_, ?_, ?_⟩
  · intro j u hj
    rw [List.getElem?_map] at hj
    by_cases hjn : j < n * sz
    · rw [List.getElem?_range hjn] at hj
      cases hj
      exact hf j hjn
    · rw [List.getElem?_eq_none (by simpa using hjn)] at hj
      cases hj
  · intro u hu
    obtain ⟨q, hq, rfl⟩ := List.mem_map.1 hu
    have hq' := List.mem_range.1 hq
    obtain ⟨u, h1, h2⟩ := hcell q hq'
    have := hf q hq'
    rw [this] at h1; cases h1; exact h2
  · intro k row hk hrow j x hx
    obtain ⟨u, h1, h2, h3⟩ := h.cells r rows hr _ _ hrow _ _ hx
    have hjl : j < sz := by rw [← hsz, ← h.rowlen r rows hr row (List.mem_of_getElem? hrow)]; exact (List.getElem?_eq_some_iff.1 hx).1
    have hm := mul_le_row (sz := sz) hk
    refine ⟨u, ?_, h3⟩
    rw [List.getElem?_map, List.getElem?_range (by omega)]
    have h4 := hf (k * sz + j) (by omega)
    have e0 : (c.ρ r).st + (i + k) * (c.ρ r).sz + j = (c.ρ r).st + i * sz + (k * sz + j) := by rw [hsz, Nat.add_mul]; omega
    rw [e0] at h1
    rw [h4] at h1
    exact h1

theorem ins_rows {α : Type} (rows : List α) (row : α) (i : Nat) (hi : i < rows.length) (X Y : List α) (hX : X = (rows.drop i).take (rows.length - 1 - i)) (hY : Y = (rows.drop i).drop (rows.length - 1 - i)) :
    (rows.take (i + 1) ++ X ++ rows.drop (i + 1 + X.length) ++ Y).take i ++ [row] ++ (rows.take (i + 1) ++ X ++ rows.drop (i + 1 + X.length) ++ Y).drop (i + 1) = rows.take i ++ [row] ++ rows.drop i := by
  have hXl : X.length = rows.length - 1 - i := by rw [hX]; simp; omega
  have e1 : rows.drop (i + 1 + X.length) = [] := List.drop_eq_nil_of_le (by omega)
  have e2 : X ++ Y = rows.drop i := by rw [hX, hY, List.take_append_drop]
  have e3 : rows.take (i + 1) ++ X ++ rows.drop (i + 1 + X.length) ++ Y = rows.take (i + 1) ++ rows.drop i := by
    rw [e1, List.append_nil, List.append_assoc, e2]
  have hl : (rows.take (i + 1)).length = i + 1 := by simp; omega
  rw [e3, List.take_append_of_le_length (by omega), List.take_take, List.drop_left' hl, Nat.min_eq_left (by omega)]

section
variable {B : Nat} {c : Cx} {H : Nat → Option Ab.Rows} {nr : Nat}

/-- In place. -/
theorem rel_shift (h : Rel B c H (frm nr)) {r : Nat} {rows : Ab.Rows} (hr : H r = some rows) {row : List AV} {cap n i : Nat} (hn : rows.length = n) (hi : i < n) (hsz : (c.ρ r).sz = 3) (hcap : n + 1 ≤ cap) (hlive : Live c.w (c.ρ r).blk ((c.ρ r).st + cap * 3))
    (hrow : row.length = 3) {D vs : List Value} (hDl : D.length = (n - i) * 3) (h1D : ∀ v ∈ D, v.oneCell' = true) (hD : ∀ (k : Nat) rw', k < n - i → rows[i + k]? = some rw' → ∀ (j : Nat) x, rw'[j]? = some x → ∃ u, D[k * 3 + j]? = some u ∧ V c x u)
    (hvl : vs.length = 3) (h1v : ∀ v ∈ vs, v.oneCell' = true) (hvs : ∀ (j : Nat) x, row[j]? = some x → ∃ u, vs[j]? = some u ∧ V c x u) :
    ∃ c', c'.w = setC (setC c.w.drew (c.ρ r).blk ((c.ρ r).st + (i + 1) * 3) D) (c.ρ r).blk ((c.ρ r).st + i * 3) vs ∧ Later B c c' ∧ Rel B c' (upd H [(r, none), (nr, some (rows.take i ++ [row] ++ rows.drop i))]) (frm (nr + 1)) ∧
      V c' (.sl nr 3 0 (n + 1)) (.slice (some ⟨(c.ρ r).blk, (c.ρ r).st, none⟩) (n + 1) cap) := by
  have hrn : r ≠ nr := fun e => h.kn r (h.hr.known r rows hr) (by rw [e]; exact Nat.le_refl _)
  have hrl : ∀ rw' ∈ rows, rw'.length = 3 := fun rw' hm => (h.hr.rowlen r rows hr rw' hm).trans hsz
  have hok : ∀ l : Ab.Rows, (∀ x ∈ l, x ∈ rows) → okRows 3 l = true := fun l hl => by
    unfold okRows
    rw [List.all_eq_true]
    intro x hx
    simpa using hrl x (hl x hx)
  obtain ⟨d1, d2⟩ := rel_drew h
  obtain ⟨X, hX⟩ : ∃ X, X = (rows.drop i).take (rows.length - 1 - i) := ⟨_, rfl⟩
  obtain ⟨Y, hY⟩ : ∃ Y, Y = (rows.drop i).drop (rows.length - 1 - i) := ⟨_, rfl⟩
  have hXl : X.length = n - 1 - i := by rw [hX]; simp; omega
  have hYl : Y.length = 1 := by rw [hY]; simp; omega
  have hXget : ∀ (k : Nat) rw', X[k]? = some rw' → k < n - 1 - i ∧ rows[i + k]? = some rw' := by
    intro k rw' hk
    have hkl := (List.getElem?_eq_some_iff.1 hk).1
    rw [hX, List.getElem?_take, if_pos (by omega), List.getElem?_drop] at hk
    exact ⟨by omega, hk⟩
  have hYget : ∀ (k : Nat) rw', Y[k]? = some rw' → k = 0 ∧ rows[i + (n - 1 - i)]? = some rw' := by
    intro k rw' hk
    have hkl := (List.getElem?_eq_some_iff.1 hk).1
    have hk0 : k = 0 := by omega
    subst hk0
    rw [hY, List.getElem?_drop, List.getElem?_drop, hn, Nat.add_zero] at hk
    exact ⟨rfl, hk⟩
  have hl3 : ∀ (k : Nat) rw', rows[k]? = some rw' → ∀ (j : Nat) (x : AV), rw'[j]? = some x → j < 3 := fun k rw' hk j x hx => by
    rw [← hrl rw' (List.mem_of_getElem? hk)]; exact (List.getElem?_eq_some_iff.1 hx).1
  obtain ⟨D1, hD1⟩ : ∃ D1, D1 = D.take ((n - 1 - i) * 3) := ⟨_, rfl⟩
  obtain ⟨D2, hD2⟩ : ∃ D2, D2 = D.drop ((n - 1 - i) * 3) := ⟨_, rfl⟩
  have hD12 : D = D1 ++ D2 := by rw [hD1, hD2, List.take_append_drop]
  have hD1l : D1.length = (n - 1 - i) * 3 := by rw [hD1]; simp; omega
  have hD2l : D2.length = 3 := by rw [hD2]; simp; omega
  have sp := out_splice d1 (r := r) hr (sz := 3) (k := i + 1) (new := X) (vs := D1) (.inl hsz) (by omega) (hok X (fun x hx => by rw [hX] at hx; exact List.mem_of_mem_drop (List.mem_of_mem_take hx))) (by rw [hD1l, hXl]) (fun u hu => h1D u (by rw [hD12]; exact List.mem_append_left _ hu))
    (fun k rw' _ hk j x hx => by
      obtain ⟨g1, g2⟩ := hXget k rw' hk
      obtain ⟨u, f1, f2⟩ := hD k rw' (by omega) g2 j x hx
      have := hl3 _ _ g2 j x hx
      refine ⟨u, ?_, V_mono d2.ext x u f2⟩
      rw [hD1, List.getElem?_take, if_pos (by omega)]
      exact f1)
  obtain ⟨R2, hR2⟩ : ∃ R2, R2 = rows.take (i + 1) ++ X ++ rows.drop (i + 1 + X.length) := ⟨_, rfl⟩
  have hR2l : R2.length = n := by rw [hR2, splice_length (by omega), hn]
  rw [← hR2] at sp
  obtain ⟨s1, s2⟩ := sp
  rw [hsz] at s1 s2
  have hup : upd H [(r, some R2)] r = some R2 := by simp [upd]
  have gr := rel_grow s2 (nr := nr) (show frm nr nr from Nat.le_refl nr) (r := r) (rows := R2) (new := Y) (sz := 3) (cap := cap) (vs := D2) hup hsz (hok Y (fun x hx => by rw [hY] at hx; exact List.mem_of_mem_drop (List.mem_of_mem_drop hx))) (by rw [hD2l, hYl]) (fun u hu => h1D u (by rw [hD12]; exact List.mem_append_right _ hu))
    (fun k rw' _ hk j x hx => by
      obtain ⟨g1, g2⟩ := hYget k rw' hk
      subst g1
      obtain ⟨u, f1, f2⟩ := hD _ rw' (by omega) g2 j x hx
      refine ⟨u, ?_, V_mono (d2.trans s1).ext x u f2⟩
      rw [hD2, List.getElem?_drop, ← f1]
      congr 1; omega) (by omega) (by rw [show ({ c with w := c.w.drew } : Cx).ρ r = c.ρ r from rfl, hsz]; exact setC_live _ _ hlive)
  obtain ⟨g1, g2⟩ := gr
  have hup2 : upd (upd H [(r, some R2)]) [(r, none), (nr, some (R2 ++ Y))] nr = some (R2 ++ Y) := by simp [upd, Ne.symm hrn]
  have sp2 := out_splice g2 (r := nr) (rows := R2 ++ Y) (sz := 3) (k := i) (new := [row]) (vs := vs) hup2 (.inl (by simp)) (by simp; omega) (by simp [okRows, hrow]) (by simpa using hvl) h1v
    (fun k rw' hk0 hk j x hx => by
      have hk1 : k = 0 := by simpa using hk0
      subst hk1
      simp only [List.getElem?_cons_zero, Option.some.injEq] at hk
      subst hk
      obtain ⟨u, f1, f2⟩ := hvs j x hx
      exact ⟨u, by simpa using f1, V_mono ((d2.trans s1).trans g1).ext x u f2⟩)
  obtain ⟨p1, p2⟩ := sp2
  refine ⟨_, ?_, ((d2.trans s1).trans g1).trans p1, ?_, ?_⟩
  · show setC (setC (setC c.w.drew (c.ρ r).blk ((c.ρ r).st + (i + 1) * 3) D1) (c.ρ r).blk ((c.ρ r).st + R2.length * (c.ρ r).sz) D2) _ _ vs = _
    have eo : (c.ρ r).st + R2.length * 3 = (c.ρ r).st + (i + 1) * 3 + D1.length := by rw [hR2l, hD1l]; omega
    rw [hD12, setC_append, hsz, eo]
    simp only [if_true]
  · have eH : upd (upd (upd H [(r, some R2)]) [(r, none), (nr, some (R2 ++ Y))]) [(nr, some ((R2 ++ Y).take i ++ [row] ++ (R2 ++ Y).drop (i + [row].length)))] = upd H [(r, none), (nr, some (rows.take i ++ [row] ++ rows.drop i))] := by
      have := ins_rows rows row i (by omega) X Y hX hY
      rw [← hR2] at this
      rw [show i + [row].length = i + 1 from rfl, this]
      funext q
      simp only [upd]
      by_cases e1 : q = r
      · subst e1; simp [hrn]
      · by_cases e2 : q = nr <;> simp [e1, e2, Ne.symm hrn]
    rw [eH] at p2
    exact p2.weak fun q hq => ⟨Nat.le_of_succ_le hq, fun hq2 => by have : nr + 1 ≤ q := hq; omega⟩
  · refine V_mono p1.ext (.sl nr 3 0 (n + 1)) _ ⟨.inr rfl, by simp, _, cap, rfl, ?_, ?_, ?_, ?_⟩
    · intro _; simp
    · simp [hR2l, hYl]
    · simp [hR2l, hYl]; omega
    · simp only [if_true]
      refine g1.ext.L _ _ (s1.ext.L _ _ ?_)
      rw [Nat.zero_add]
      exact hlive

/-- An object is forgotten. -/
theorem rel_forget {N : Nat → Prop} (h : Rel B c H N) (r : Nat) : Rel B c (upd H [(r, none)]) N := by
  have inv : ∀ q qs, upd H [(r, none)] q = some qs → H q = some qs := by
    intro q qs hq
    simp only [upd] at hq
    split at hq
    · simp at hq
    · exact hq
  refine ⟨⟨?_, ?_, ?_, ?_, ?_, ?_, ?_⟩, h.kn, h.fb, h.bb⟩
  · intro q qs hq; exact h.hr.known q qs (inv q qs hq)
  · intro q qs hq; exact h.hr.len q qs (inv q qs hq)
  · intro q qs hq; exact h.hr.rowlen q qs (inv q qs hq)
  · intro q qs hq; exact h.hr.cells q qs (inv q qs hq)
  · intro q qs hq; exact h.hr.live q qs (inv q qs hq)
  · intro q qs hq; exact h.hr.base q qs (inv q qs hq)
  · intro q q' qs qs' hq hq'; exact h.hr.inj q q' qs qs' (inv q qs hq) (inv q' qs' hq')

theorem ins_rows2 {α : Type} (rows U : List α) (row : α) (i : Nat) (hi : i < rows.length) (hU : U.length = rows.length + 1 - i) :
    ((rows.take i ++ U).take i ++ [row] ++ (rows.take i ++ U).drop (i + 1)).take (i + 1) ++ rows.drop i ++ ((rows.take i ++ U).take i ++ [row] ++ (rows.take i ++ U).drop (i + 1)).drop (i + 1 + (rows.drop i).length) = rows.take i ++ [row] ++ rows.drop i := by
  have hl : (rows.take i).length = i := by simp; omega
  have hl1 : (rows.take i ++ [row]).length = i + 1 := by simp; omega
  have hd : (rows.drop i).length = rows.length - i := by simp
  have hz : ∀ Z : List α, Z.length = U.length - 1 → (rows.take i ++ [row] ++ Z).drop (i + 1 + (rows.drop i).length) = [] := fun Z hZ => List.drop_eq_nil_of_le (by simp; omega)
  rw [List.take_left' hl, List.take_left' hl1, hz _ (by simp; omega), List.append_nil]

/-- In a new block. -/
theorem rel_grown (h : Rel B c H (frm nr)) {r : Nat} {rows : Ab.Rows} (hr : H r = some rows) {row : List AV} {T : TypeId} {G n i : Nat} (hn : rows.length = n) (hi : i < n) (hsz : (c.ρ r).sz = 3) (hG : n + 1 ≤ G)
    (hrow : row.length = 3) {F D vs : List Value} {ROW : Array Value} (hRs : ROW.size = G * 3) (hRF : ∀ j, j < F.length → ROW[j]? = F[j]?) (hR1 : ∀ u ∈ ROW.toList, u.oneCell' = true)
    (hFl : F.length = i * 3) (hF : ∀ (k : Nat) rw', k < i → rows[k]? = some rw' → ∀ (j : Nat) x, rw'[j]? = some x → ∃ u, F[k * 3 + j]? = some u ∧ V c x u)
    (hDl : D.length = (n - i) * 3) (h1D : ∀ v ∈ D, v.oneCell' = true) (hD : ∀ (k : Nat) rw', k < n - i → rows[i + k]? = some rw' → ∀ (j : Nat) x, rw'[j]? = some x → ∃ u, D[k * 3 + j]? = some u ∧ V c x u)
    (hvl : vs.length = 3) (h1v : ∀ v ∈ vs, v.oneCell' = true) (hvs : ∀ (j : Nat) x, row[j]? = some x → ∃ u, vs[j]? = some u ∧ V c x u) :
    ∃ c', c'.w = setC ((setC (c.w.drew.alloc (.cells ROW T)) c.w.heap.size (i * 3) vs).drew) c.w.heap.size ((i + 1) * 3) D ∧ Later B c c' ∧ Rel B c' (upd H [(r, none), (nr, some (rows.take i ++ [row] ++ rows.drop i))]) (frm (nr + 1)) ∧
      V c' (.sl nr 3 0 (n + 1)) (.slice (some ⟨c.w.heap.size, 0, none⟩) (n + 1) G) := by
  have hrn : r ≠ nr := fun e => h.kn r (h.hr.known r rows hr) (by rw [e]; exact Nat.le_refl _)
  have hrl : ∀ rw' ∈ rows, rw'.length = 3 := fun rw' hm => (h.hr.rowlen r rows hr rw' hm).trans hsz
  have hl3 : ∀ (k : Nat) rw', rows[k]? = some rw' → ∀ (j : Nat) (x : AV), rw'[j]? = some x → j < 3 := fun k rw' hk j x hx => by
    rw [← hrl rw' (List.mem_of_getElem? hk)]; exact (List.getElem?_eq_some_iff.1 hx).1
  obtain ⟨d1, d2⟩ := rel_drew h
  have hN : frm nr nr := Nat.le_refl nr
  obtain ⟨U, hU⟩ : ∃ U : Ab.Rows, U = List.replicate (n + 1 - i) [AV.undef, AV.undef, AV.undef] := ⟨_, rfl⟩
  have hUl : U.length = n + 1 - i := by rw [hU]; simp
  have hUm : ∀ x ∈ U, x = [AV.undef, AV.undef, AV.undef] := fun x hx => by rw [hU] at hx; exact (List.mem_replicate.1 hx).2
  have ht : (rows.take i).length = i := by simp; omega
  have hRl : (rows.take i ++ U).length = n + 1 := by simp [hUl]; omega
  have nw := rel_new d1 hN T ROW 3 (rows.take i ++ U) (by
      intro x hx
      rcases List.mem_append.1 hx with hx | hx
      · exact hrl x (List.mem_of_mem_take hx)
      · rw [hUm x hx]; rfl) (by
      intro k rw' hk j x hx
      by_cases hki : k < i
      · rw [List.getElem?_append_left (by omega), List.getElem?_take, if_pos hki] at hk
        obtain ⟨u, f1, f2⟩ := hF k rw' hki hk j x hx
        have hlt := (List.getElem?_eq_some_iff.1 f1).1
        have e : ROW[k * 3 + j]? = some u := by rw [hRF _ hlt]; exact f1
        exact ⟨u, e, hR1 u (List.mem_of_getElem? (by rw [Array.getElem?_toList]; exact e)), V_mono d2.ext x u f2⟩
      · rw [List.getElem?_append_right (by omega)] at hk
        have hkl := (List.getElem?_eq_some_iff.1 hk).1
        have e := hUm rw' (List.mem_of_getElem? hk)
        subst e
        have hj : j < 3 := by have := (List.getElem?_eq_some_iff.1 hx).1; simpa using this
        have hx0 : x = .undef := by
          rcases (show j = 0 ∨ j = 1 ∨ j = 2 by omega) with e | e | e <;> subst e <;> simpa using hx.symm
        subst hx0
        have hin : k * 3 + j < ROW.size := by rw [hRs]; omega
        have e : ROW[k * 3 + j]? = some (ROW[k * 3 + j]'hin) := Array.getElem?_eq_getElem hin
        exact ⟨_, e, hR1 _ (List.mem_of_getElem? (by rw [Array.getElem?_toList]; exact e)), trivial⟩) (by rw [hRl, hRs]; omega)
  have ln := later_new d1 hN ⟨c.w.drew.heap.size, 0, 3, (rows.take i ++ U).length⟩ (.cells ROW T)
  have hup : upd H [(nr, some (rows.take i ++ U))] nr = some (rows.take i ++ U) := by simp [upd]
  have hszn : ((newCx { c with w := c.w.drew } nr ⟨c.w.drew.heap.size, 0, 3, (rows.take i ++ U).length⟩ (.cells ROW T)).ρ nr) = ⟨c.w.heap.size, 0, 3, (rows.take i ++ U).length⟩ := by simp [newCx]
  have sp := out_splice nw (r := nr) (rows := rows.take i ++ U) (sz := 3) (k := i) (new := [row]) (vs := vs) hup (.inl (by rw [hszn])) (by rw [hRl]; simp; omega) (by simp [okRows, hrow]) (by simpa using hvl) h1v
    (fun k rw' hk0 hk j x hx => by
      have hk1 : k = 0 := by simpa using hk0
      subst hk1
      simp only [List.getElem?_cons_zero, Option.some.injEq] at hk
      subst hk
      obtain ⟨u, f1, f2⟩ := hvs j x hx
      exact ⟨u, by simpa using f1, V_mono (d2.trans ln).ext x u f2⟩)
  rw [hszn] at sp
  obtain ⟨s1, s2⟩ := sp
  obtain ⟨d3, d4⟩ := rel_drew s2
  obtain ⟨R3, hR3⟩ : ∃ R3, R3 = (rows.take i ++ U).take i ++ [row] ++ (rows.take i ++ U).drop (i + [row].length) := ⟨_, rfl⟩
  rw [← hR3] at d3
  have hR3l : R3.length = n + 1 := by rw [hR3, splice_length (by rw [hRl]; simp; omega), hRl]
  have hup2 : upd (upd H [(nr, some (rows.take i ++ U))]) [(nr, some R3)] nr = some R3 := by simp [upd]
  have sp2 := out_splice d3 (r := nr) (rows := R3) (sz := 3) (k := i + 1) (new := rows.drop i) (vs := D) hup2 (.inl (by show (_ : Info).sz = 3; exact congrArg Info.sz hszn)) (by rw [hR3l]; simp; omega) (by
      unfold okRows
      rw [List.all_eq_true]
      intro x hx
      simpa using hrl x (List.mem_of_mem_drop hx)) (by rw [hDl]; simp; omega) h1D
    (fun k rw' hk0 hk j x hx => by
      have hkl : k < n - i := by simp at hk0; omega
      rw [List.getElem?_drop] at hk
      obtain ⟨u, f1, f2⟩ := hD k rw' hkl hk j x hx
      exact ⟨u, f1, V_mono (((d2.trans ln).trans s1).trans d4).ext x u f2⟩)
  obtain ⟨p1, p2⟩ := sp2
  refine ⟨_, ?_, (((d2.trans ln).trans s1).trans d4).trans p1, ?_, ?_⟩
  rotate_left
  · have eH : upd (upd (upd (upd H [(nr, some (rows.take i ++ U))]) [(nr, some R3)]) [(nr, some (R3.take (i + 1) ++ rows.drop i ++ R3.drop (i + 1 + (rows.drop i).length)))]) [(r, none)] = upd H [(r, none), (nr, some (rows.take i ++ [row] ++ rows.drop i))] := by
      have := ins_rows2 rows U row i (by omega) (by rw [hUl, hn])
      rw [show (i + 1) = i + [row].length from rfl, ← hR3] at this
      rw [show (i + 1) = i + [row].length from rfl, this]
      funext q
      simp only [upd]
      by_cases e1 : q = r
      · subst e1; simp [hrn]
      · by_cases e2 : q = nr <;> simp [e1, e2, Ne.symm hrn]
    have p3 := rel_forget p2 r
    rw [eH] at p3
    exact p3.weak fun q hq => ⟨Nat.le_of_succ_le hq, fun hq2 => by have : nr + 1 ≤ q := hq; omega⟩
  · refine V_mono ((s1.trans d4).trans p1).ext (.sl nr 3 0 (n + 1)) _ ?_
    have hV := V_new_sl (c := { c with w := c.w.drew }) (nr := nr) (T := T) (cs := ROW) (sz := 3) (n := (rows.take i ++ U).length) (cap := G) (by omega) (by rw [hRs]; exact Nat.le_refl _)
    rw [hRl] at hV
    rw [hRl]
    exact hV
  · show setC (World.drew (setC _ _ _ vs)) _ _ D = _
    have e2 : ∀ (w' : World), ((({ (newCx { c with w := c.w.drew } nr ⟨c.w.drew.heap.size, 0, 3, (rows.take i ++ U).length⟩ (.cells ROW T)) with w := w' } : Cx)).ρ nr) = ⟨c.w.heap.size, 0, 3, (rows.take i ++ U).length⟩ := fun w' => hszn
    simp only [hszn, Nat.zero_add]
    rfl
end
end Go.Proofs.Yteoonedddgiacaa.Ins
