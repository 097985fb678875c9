/- Steps for lists that grow, parts of lists, and comparisons with nil. -/
import Derived.Test.YteoonedddgiacaaAbW
namespace Go.Proofs.Yteoonedddgiacaa.Ab
open Go Go.RowKit
set_option linter.unusedSimpArgs false
set_option linter.unusedVariables false

section
variable {T : Nat → AV} {H : Nat → Option Rows} {nr : Nat} {x y : AX}

/-- The value itself, laid open. -/
def nf : AV → Option AV
  | .undef => none
  | .bool b => some (.bool b)
  | .int k n => some (.int k n)
  | .str s => some (.str s)
  | .nilS => some .nilS
  | .nilP => some .nilP
  | .nilF => some .nilF
  | .fn f cs => some (.fn f cs)
  | .agg cs => some (.agg cs)
  | .tup vs => some (.tup vs)
  | .vw nn es => some (.vw nn es)
  | .vp cs => some (.vp cs)
  | .sl r s o l => some (.sl r s o l)
  | .pt r i j => some (.pt r i j)
theorem nf_eq {a v : AV} (h : nf a = some v) : a = v := by cases a <;> simp [nf] at h <;> exact h
/-- The same for a value of one cell. -/
def nf1 : AV → Option AV
  | .undef => none
  | .agg _ => none
  | .tup _ => none
  | .bool b => some (.bool b)
  | .int k n => some (.int k n)
  | .str s => some (.str s)
  | .nilS => some .nilS
  | .nilP => some .nilP
  | .nilF => some .nilF
  | .fn f cs => some (.fn f cs)
  | .vw nn es => some (.vw nn es)
  | .vp cs => some (.vp cs)
  | .sl r s o l => some (.sl r s o l)
  | .pt r i j => some (.pt r i j)
theorem o_mv {v : AV} (h : nf (gT T x) = some v) : ev (gT T) H nr (.mv x) = some (v, [], 0) := by simp only [ev, nf_eq h, pureR]
theorem o_pick_t {v : AV} {z : AX} (h1 : gT T x = .bool true) (h : nf (gT T y) = some v) : ev (gT T) H nr (.pick x y z) = some (v, [], 0) := by simp only [ev, h1, nf_eq h, pureR, if_true]
theorem o_pick_f {v : AV} {z : AX} (h1 : gT T x = .bool false) (h : nf (gT T z) = some v) : ev (gT T) H nr (.pick x y z) = some (v, [], 0) := by simp only [ev, h1, nf_eq h, pureR]; rfl
theorem o_box1 {v : AV} (h : nf1 (gT T x) = some v) : ev (gT T) H nr (.box 1 false x) = some (.pt nr 0 0, [(nr, some [[v]])], 1) := by
  cases e : gT T x <;> rw [e] at h <;> simp [nf1] at h <;> subst h <;> simp [ev, e]
theorem o_st1 {v : AV} {r0 i0 j0 : Nat} {rows rows' : Rows} {row : List AV} (h1 : gT T x = .pt r0 i0 j0) (h2 : H r0 = some rows) (h3 : rows[i0]? = some row) (h4 : nf1 (gT T y) = some v) (h6 : Nat.ble (j0 + 1) row.length = true) (h7 : rows.set i0 (put row j0 [v]) = rows') :
    ev (gT T) H nr (.st 1 x y) = some (.undef, [(r0, some rows')], 0) := by
  have h6 := Nat.le_of_ble_eq_true h6
  subst h7
  have hc : cellsOf (gT T y) = some [v] := by cases e : gT T y <;> rw [e] at h4 <;> simp [nf1] at h4 <;> subst h4 <;> rfl
  simp only [ev, h1, h2, h3, hc, List.length_cons, List.length_nil, Nat.zero_add, true_and, h6, if_true]
theorem okRows_map {α : Type} {f : α → List AV} {sz : Nat} (h : ∀ a, (f a).length = sz) (xs : List α) : okRows sz (xs.map f) = true := by
  unfold okRows
  rw [List.all_eq_true]
  intro row hr
  obtain ⟨a, _, rfl⟩ := List.mem_map.1 hr
  simp [h a]
theorem rows_vw {nn : Bool} {es : Rows} {sz : Nat} (h1 : gT T y = .vw nn es) (h2 : okRows sz es = true) : rowsOf H sz (gT T y) = some es := by
  simp only [rowsOf, h1, h2, if_true]
theorem rows_sl {r n sz : Nat} {rows : Rows} (h1 : gT T y = .sl r sz 0 n) (h2 : H r = some rows) (h3 : n = rows.length) : rowsOf H sz (gT T y) = some rows := by
  subst h3
  simp only [rowsOf, h1, h2, if_true, Option.map_some, List.drop_zero, List.take_length]
/-- More elements for a list that is full. -/
theorem o_app1 {sz bytes r n : Nat} {z : List AV} {rows new : Rows} (h1 : gT T x = .sl r sz 0 n) (h2 : H r = some rows) (h3 : n = rows.length) (h4 : rowsOf H sz (gT T y) = some new) (h5 : 0 < new.length) (h6 : n + new.length ≤ 4294967296) (h7 : bytes ≤ 4096) :
    ev (gT T) H nr (.app sz bytes z x y) = some (.sl nr sz 0 (n + new.length), [(r, none), (nr, some (rows ++ new))], 1) := by
  have h8 : ¬ ((0 + n + new.length ≤ rows.length) ∧ True) := fun h => by omega
  have h9 : True ∧ n = rows.length ∧ True ∧ n + new.length ≤ 4294967296 ∧ bytes ≤ 4096 := ⟨trivial, h3, trivial, h6, h7⟩
  simp only [ev, h4, h1, h2]
  rw [if_neg h8, if_pos h9]
theorem o_app0 {sz bytes r n : Nat} {z : List AV} {rows : Rows} (h1 : gT T x = .sl r sz 0 n) (h2 : H r = some rows) (h3 : n = rows.length) (h4 : rowsOf H sz (gT T y) = some []) :
    ev (gT T) H nr (.app sz bytes z x y) = some (.sl r sz 0 n, [(r, some rows)], 0) := by
  have h0 : 0 + n + ([] : Rows).length ≤ rows.length ∧ True := ⟨by simp; omega, trivial⟩
  simp only [ev, h4, h1, h2]
  rw [if_pos h0]
  simp only [List.length_nil, Nat.add_zero, List.append_nil, Nat.zero_add, h3, List.take_length, List.drop_length]
theorem o_appn {sz bytes : Nat} {z : List AV} {new : Rows} (h1 : gT T x = .nilS) (h4 : rowsOf H sz (gT T y) = some new) (h5 : 0 < new.length) (h6 : new.length ≤ 4294967296) (h7 : bytes ≤ 4096) :
    ev (gT T) H nr (.app sz bytes z x y) = some (.sl nr sz 0 new.length, [(nr, some new)], 1) := by
  have : ¬ new = [] := by intro h; rw [h] at h5; simp at h5
  simp only [ev, h4, h1, h6, h7, and_self, if_true, this, if_false]
theorem o_bsl {sz n : Nat} {z : List AV} {parts : List (Nat × AX)} {rows : Rows} (h : fillS (gT T) sz (List.replicate n z) parts = some rows) : ev (gT T) H nr (.bsl sz z n parts) = some (.sl nr sz 0 n, [(nr, some rows)], 1) := by
  simp only [ev, h]
theorem o_isnil_vw {neg : Bool} {es : Rows} (h1 : gT T x = .vw true es) (h2 : gT T y = .nilS) : ev (gT T) H nr (.nil2 false neg x y) = some (.bool neg, [], 0) := by
  simp only [ev, h1, h2, isNil, pureR]; cases neg <;> rfl
theorem o_isnil_sl {neg : Bool} {r s o l : Nat} (h1 : gT T x = .sl r s o l) (h2 : gT T y = .nilS) : ev (gT T) H nr (.nil2 false neg x y) = some (.bool neg, [], 0) := by
  simp only [ev, h1, h2, isNil, pureR]; cases neg <;> rfl
theorem o_isnil_nil {neg : Bool} (h1 : gT T x = .nilS) (h2 : gT T y = .nilS) : ev (gT T) H nr (.nil2 false neg x y) = some (.bool (!neg), [], 0) := by
  simp only [ev, h1, h2, isNil, pureR]; cases neg <;> rfl
/-- A part of a list by content. -/
theorem o_slc_vw {sz l h : Nat} {lo hi : Option AX} {nn : Bool} {es : Rows} (h1 : gT T x = .vw nn es) (h2 : bound (gT T) 0 lo = some l) (h3 : bound (gT T) es.length hi = some h) (h4 : l ≤ h) (h5 : h ≤ es.length) (h6 : okRows sz es = true) :
    ev (gT T) H nr (.slc sz x lo hi) = some (.vw nn ((es.drop l).take (h - l)), [], 0) := by
  simp only [ev, h1, h2, h3, h4, h5, h6, and_self, if_true, pureR]
theorem o_slc_sl {sz r off len l h : Nat} {lo hi : Option AX} {rows : Rows} (h1 : gT T x = .sl r sz off len) (h0 : H r = some rows) (h2 : bound (gT T) 0 lo = some l) (h3 : bound (gT T) len hi = some h) (h4 : l ≤ h) (h5 : off + h ≤ rows.length) :
    ev (gT T) H nr (.slc sz x lo hi) = some (.sl r sz (off + l) (h - l), [], 0) := by
  simp only [ev, h1, h0, h2, h3, h4, h5, and_self, if_true, pureR]
/-- Elements at a fixed place, one ahead or one behind. -/
theorem e_ia_vw0 {α : Type} [Inhabited α] {f : α → List AV} {xs : List α} {i : AX} {k : IntKind} {sz : Nat} {nn : Bool} (h1 : gT T x = .vw nn (xs.map f)) (h2 : gT T i = .int k 0) (h3 : 0 < xs.length) (h4 : (f (xs.getD 0 default)).length = sz) :
    ev (gT T) H nr (.ia sz x i) = some (.vp (f (xs.getD 0 default)), [], 0) := e_ia_vwn (n := 0) h1 h2 (by decide) h3 h4
theorem e_ia_vwp {α : Type} [Inhabited α] {f : α → List AV} {xs : List α} {i : AX} {k : IntKind} {sz n : Nat} {nn : Bool} (h1 : gT T x = .vw nn (xs.map f)) (h2 : gT T i = .int k ((n : Int) + 1)) (h3 : n + 1 < xs.length) (h4 : (f (xs.getD (n + 1) default)).length = sz) :
    ev (gT T) H nr (.ia sz x i) = some (.vp (f (xs.getD (n + 1) default)), [], 0) := e_ia_vwi h1 (by rw [h2]; rfl) h3 h4
theorem e_ia_vwm {α : Type} [Inhabited α] {f : α → List AV} {xs : List α} {i : AX} {k : IntKind} {sz n : Nat} {nn : Bool} (h1 : gT T x = .vw nn (xs.map f)) (h2 : gT T i = .int k ((n : Int) - 1)) (h0 : 1 ≤ n) (h3 : n - 1 < xs.length) (h4 : (f (xs.getD (n - 1) default)).length = sz) :
    ev (gT T) H nr (.ia sz x i) = some (.vp (f (xs.getD (n - 1) default)), [], 0) := e_ia_vwi h1 (by rw [h2, Int.natCast_sub h0]; rfl) h3 h4
/-- An element of an own list. -/
theorem e_ld_sl {α : Type} [Inhabited α] {f : α → List AV} {xs : List α} {x : AX} {r i : Nat} {v : AV} (h1 : gT T x = .pt r i 0) (h2 : H r = some (xs.map f)) (h3 : i < xs.length) (h4 : (f (xs.getD i default))[0]? = some v) : ev (gT T) H nr (.ld false 1 x) = some (v, [], 0) := by
  have e : (xs.map f)[i]? = some (f (xs.getD i default)) := by simp [List.getElem?_map, List.getElem?_eq_getElem h3, List.getD_eq_getElem?_getD]
  simp only [ev, h1, h2, e, h4, pureR]
  rfl
end

section
variable {q : Bool} {P : Program} {m0 : Nat} {t : List (Nat × AV)} {h : List (Nat × Option Rows)} {nr : Nat} {os : List AO} {K : St → Prop}
/-- One more element. -/
theorem wG_app {d sz bytes r n : Nat} {z : List AV} {rows new : Rows} {x y : AX} (h1 : gT (lk t) x = .sl r sz 0 n) (h2 : hg h r = some rows) (h3 : n = rows.length) (h4 : rowsOf (hg h) sz (gT (lk t) y) = some new) (h5 : 0 < new.length) (h6 : n + new.length ≤ 4294967296) (h7 : bytes ≤ 4096)
    (hw : wpG P false os ⟨(d, .sl nr sz 0 (n + new.length)) :: t, (r, none) :: (nr, some (rows ++ new)) :: h, nr + 1⟩ K) : wpG P false (⟨some d, none, .app sz bytes z x y⟩ :: os) ⟨t, h, nr⟩ K :=
  wG_eff (o_app1 h1 h2 h3 h4 h5 h6 h7) hw
theorem wG_app0 {d sz bytes r n : Nat} {z : List AV} {rows : Rows} {x y : AX} (h1 : gT (lk t) x = .sl r sz 0 n) (h2 : hg h r = some rows) (h3 : n = rows.length) (h4 : rowsOf (hg h) sz (gT (lk t) y) = some [])
    (hw : wpG P false os ⟨(d, .sl r sz 0 n) :: t, (r, some rows) :: h, nr⟩ K) : wpG P false (⟨some d, none, .app sz bytes z x y⟩ :: os) ⟨t, h, nr⟩ K :=
  wG_eff (o_app0 h1 h2 h3 h4) hw
theorem wG_appn {d sz bytes : Nat} {z : List AV} {new : Rows} {x y : AX} (h1 : gT (lk t) x = .nilS) (h4 : rowsOf (hg h) sz (gT (lk t) y) = some new) (h5 : 0 < new.length) (h6 : new.length ≤ 4294967296) (h7 : bytes ≤ 4096)
    (hw : wpG P false os ⟨(d, .sl nr sz 0 new.length) :: t, (nr, some new) :: h, nr + 1⟩ K) : wpG P false (⟨some d, none, .app sz bytes z x y⟩ :: os) ⟨t, h, nr⟩ K :=
  wG_eff (o_appn h1 h4 h5 h6 h7) hw
end

mutual
theorem ltr_le {m n : Nat} (h : m ≤ n) : ∀ (x : AV), x.ltr m = true → x.ltr n = true
  | .sl r _ _ _, hx => by simp only [AV.ltr, decide_eq_true_eq] at hx ⊢; omega
  | .pt r _ _, hx => by simp only [AV.ltr, decide_eq_true_eq] at hx ⊢; omega
  | .agg cs, hx => by simp only [AV.ltr] at hx ⊢; exact ltrL_le h cs hx
  | .tup cs, hx => by simp only [AV.ltr] at hx ⊢; exact ltrL_le h cs hx
  | .fn _ cs, hx => by simp only [AV.ltr] at hx ⊢; exact ltrL_le h cs hx
  | .undef, _ => rfl
  | .bool _, _ => rfl
  | .int _ _, _ => rfl
  | .str _, _ => rfl
  | .nilS, _ => rfl
  | .nilP, _ => rfl
  | .nilF, _ => rfl
  | .vw _ _, _ => rfl
  | .vp _, _ => rfl
theorem ltrL_le {m n : Nat} (h : m ≤ n) : ∀ (xs : List AV), ltrL m xs = true → ltrL n xs = true
  | [], _ => rfl
  | x :: xs, hx => by
    simp only [ltrL, Bool.and_eq_true] at hx ⊢
    exact ⟨ltr_le h x hx.1, ltrL_le h xs hx.2⟩
end
theorem wfH_le {h : List (Nat × Option Rows)} {m n : Nat} (hw : wfH h m) (hmn : m ≤ n) : wfH h n := fun r rows hr => ⟨Nat.lt_of_lt_of_le (hw r rows hr).1 hmn, fun row h1 x h2 => ltr_le hmn x ((hw r rows hr).2 row h1 x h2)⟩

theorem wE_call1 {P : Program} {t : List (Nat × AV)} {h : List (Nat × Option Rows)} {nr : Nat} {os : List AO} {K : St → Prop} {A : List (List Nat)} {acc : List (List Nat × List Nat)} {d f : Nat} {args : List AX} {as : List AV} {v v' : AV} {rows : Rows} {rd : List Nat} (hc : Con P f true as v [rows]) (ha : (args.map (gT (lk t))).map (dr (hg h) 6) = as) (hv : sh nr v = v') (hr : rds (.call f args) (gT (lk t)) (hg h) = rd) (hw : wpE P A os ⟨(d, v') :: t, (nr, some rows) :: h, nr + 1⟩ (([nr], rd) :: acc) K) :
    wpE P A (⟨some d, none, .call f args⟩ :: os) ⟨t, h, nr⟩ acc K := wE_callN hc ha hv hr hw

theorem hg_here {r : Nat} {x : Option Rows} {h : List (Nat × Option Rows)} : hg ((r, x) :: h) r = x := by simp [hg, upd]
theorem hg_skip {q r : Nat} {x y : Option Rows} {h : List (Nat × Option Rows)} (hq : r ≠ q) (h1 : hg h r = y) : hg ((q, x) :: h) r = y := by
  simp only [hg, upd] at h1 ⊢
  rw [if_neg hq]; exact h1
theorem wfH_none {r nr : Nat} {h : List (Nat × Option Rows)} (hw : wfH h nr) : wfH ((r, none) :: h) nr := by
  intro q rows hq
  simp only [hg, upd] at hq
  split at hq
  · cases hq
  · exact hw q rows hq
/-- What a nil list is by content. -/
theorem V_nil {c : Cx} {v : Value} (h : V c .nilS v) : V c (.vw false []) v := ⟨none, 0, 0, h, Nat.le_refl _, fun h => (by cases h), trivial⟩
theorem con_nil {P : Program} {f : Nat} {nv : Bool} {as : List AV} {v : AV} {objs : List Rows} (h : Con P f nv (.vw false [] :: as) v objs) : Con P f nv (.nilS :: as) v objs := by
  refine ⟨h.1, h.2.1, fun F w cargs hF ha => h.2.2 F w cargs hF ?_⟩
  obtain ⟨u, us, e1, e2, e3⟩ := ha
  exact ⟨u, us, e1, V_nil e2, e3⟩
theorem con_nil2 {P : Program} {f : Nat} {nv : Bool} {a : AV} {as : List AV} {v : AV} {objs : List Rows} (h : Con P f nv (a :: .vw false [] :: as) v objs) : Con P f nv (a :: .nilS :: as) v objs := by
  refine ⟨h.1, h.2.1, fun F w cargs hF ha => h.2.2 F w cargs hF ?_⟩
  obtain ⟨u, us, e1, e2, u2, us2, e4, e5, e6⟩ := ha
  exact ⟨u, us, e1, e2, u2, us2, e4, V_nil e5, e6⟩

/-! ### Arguments that hold a list -/
section
variable {T : Nat → AV} {H : Nat → Option Rows} {x : AX} {xs : List AX} {as : List AV}
theorem ag_any {v : AV} (h1 : dr H 6 (gT T x) = v) (hr : (xs.map (gT T)).map (dr H 6) = as) : ((x :: xs).map (gT T)).map (dr H 6) = v :: as := by
  rw [List.map_cons, List.map_cons, hr, h1]
/-- A function value whose captured values stand by content. -/
theorem ag_fn {f : Nat} {caps : List AV} (h1 : gT T x = .fn f caps) (hc : ∀ H n, caps.map (dr H (n + 4)) = caps) (hr : (xs.map (gT T)).map (dr H 6) = as) : ((x :: xs).map (gT T)).map (dr H 6) = .fn f caps :: as := by
  refine ag_any ?_ hr
  rw [h1]
  show AV.fn f (caps.map (dr H (1 + 4))) = _
  rw [hc H 1]
theorem ag_cap {caps : List AV} {n : Nat} (h1 : xs.map (gT T) = as) (hc : ∀ H n, caps.map (dr H (n + 4)) = caps) (h2 : as.map (dr H (n + 4)) = as) : (xs.map (gT T) ++ caps).map (dr H (n + 4)) = as ++ caps := by
  rw [h1, List.map_append, h2, hc]
/-- A part of an own list, by content. -/
theorem dr_part {α : Type} {f : α → List AV} {zs : List α} {r sz off n m : Nat} (h : H r = some (zs.map f)) (hp : ∀ x, ∀ v ∈ f x, AV.plain v = true) : dr H (m + 2) (.sl r sz off n) = .vw true (((zs.drop off).take n).map f) := by
  simp only [dr, h]
  rw [← List.map_drop, ← List.map_take, List.map_map]
  congr 1
  apply List.map_congr_left
  intro a _
  have : ∀ l : List AV, (∀ v ∈ l, AV.plain v = true) → l.map (dr H (m + 1)) = l := by
    intro l
    induction l with
    | nil => intro _; rfl
    | cons b l ih =>
      intro hl
      rw [List.map_cons, ih (fun v hv => hl v (List.mem_cons_of_mem _ hv))]
      have := hl b List.mem_cons_self
      cases b <;> first | rfl | simp [AV.plain] at this
  exact this _ (hp a)
/-- A struct of a whole number and a list, by content. -/
theorem ag_is {α : Type} {f : α → List AV} {zs : List α} {k : IntKind} {a : Int} {r sz n : Nat} (h1 : gT T x = .agg [.int k a, .sl r sz 0 n]) (h2 : H r = some (zs.map f)) (hn : n = zs.length) (hp : ∀ x, ∀ v ∈ f x, AV.plain v = true) (hr : (xs.map (gT T)).map (dr H 6) = as) :
    ((x :: xs).map (gT T)).map (dr H 6) = .agg [.int k a, .vw true (zs.map f)] :: as := by
  refine ag_any ?_ hr
  rw [h1]
  have e := dr_rows (m := 3) (sz := sz) h2 hn hp
  show AV.agg [.int k a, dr H 5 (.sl r sz 0 n)] = _
  rw [e]
end
end Go.Proofs.Yteoonedddgiacaa.Ab
