/- Regions whose order is drawn: what their operations give in the order of the text holds in every order. -/
import Derived.Orders
import Derived.Test.YteoonedddgiacaaAbM
namespace Go.Proofs.Yteoonedddgiacaa.Ab
open Go Go.RowKit
set_option linter.unusedSimpArgs false
set_option linter.unusedVariables false

/-! ### Folds of updates -/
def ups {α : Type} (F : Nat → α) : List (Nat × α) → Nat → α
  | [], t => F t
  | (k, x) :: l, t => if t = k then x else ups F l t

theorem upd_ups (H : Nat → Option Rows) : ∀ l, upd H l = ups H l
  | [] => rfl
  | (k, x) :: l => by funext r; simp only [upd, ups]; rw [upd_ups H l]

def tk (d : Option Nat) (v : AV) : List (Nat × AV) := match d with
  | some d => [(d, v)]
  | none => []

theorem putF_ups (T : Nat → AV) (d : Option Nat) (v : AV) : putF T d v = ups T (tk d v) := by
  funext t
  cases d with
  | none => simp [putF, tk, ups]
  | some d =>
    simp only [putF, tk, ups, Option.some.injEq]
    by_cases h : d = t
    · subst h; simp
    · rw [if_neg h, if_neg (fun e => h e.symm)]

theorem ups_notin {α : Type} {F : Nat → α} {t : Nat} : ∀ {l : List (Nat × α)}, t ∉ l.map (·.1) → ups F l t = F t
  | [], _ => rfl
  | (k, x) :: l, h => by
    simp only [List.map_cons, List.mem_cons, not_or] at h
    simp only [ups, if_neg h.1]
    exact ups_notin h.2

theorem ups_in {α : Type} {F G : Nat → α} {t : Nat} : ∀ {l : List (Nat × α)}, t ∈ l.map (·.1) → ups F l t = ups G l t
  | [], h => by simp at h
  | (k, x) :: l, h => by
    simp only [ups]
    split
    · rfl
    · rename_i hne
      simp only [List.map_cons, List.mem_cons] at h
      exact ups_in (h.resolve_left hne)

theorem ups_congr {α : Type} {F G : Nat → α} {t : Nat} (l : List (Nat × α)) (h : F t = G t) : ups F l t = ups G l t := by
  by_cases hm : t ∈ l.map (·.1)
  · exact ups_in hm
  · rw [ups_notin hm, ups_notin hm, h]

def Dj (l m : List Nat) : Prop := ∀ x ∈ l, x ∉ m
theorem Dj.symm {l m : List Nat} (h : Dj l m) : Dj m l := fun x hx hy => h x hy hx

theorem ups_comm {α : Type} {F : Nat → α} {l m : List (Nat × α)} (h : Dj (l.map (·.1)) (m.map (·.1))) : ups (ups F l) m = ups (ups F m) l := by
  funext t
  by_cases hl : t ∈ l.map (·.1)
  · rw [ups_notin (h t hl)]
    exact ups_in hl
  · by_cases hm : t ∈ m.map (·.1)
    · rw [ups_notin (F := ups F m) hl]
      exact ups_in hm
    · rw [ups_notin hm, ups_notin hl, ups_notin hl, ups_notin hm]

def GF {α : Type} (b : Nat → Bool) : Nat → List (List (Nat × α)) → (Nat → α) → Nat → α
  | _, [], F => F
  | k, l :: ls, F => GF b (k + 1) ls (if b k then ups F l else F)

theorem GF_congr_at {α : Type} {b b' : Nat → Bool} {t : Nat} : ∀ (ls : List (List (Nat × α))) (k : Nat) (F G : Nat → α), F t = G t → (∀ j l, ls[j]? = some l → b (k + j) = b' (k + j) ∨ t ∉ l.map (·.1)) → GF b k ls F t = GF b' k ls G t
  | [], _, _, _, h, _ => h
  | l :: ls, k, F, G, h, hb => by
    simp only [GF]
    refine GF_congr_at ls (k + 1) _ _ ?_ (fun j m hm => by have := hb (j + 1) m (by simpa using hm); rwa [show k + (j + 1) = k + 1 + j by omega] at this)
    rcases hb 0 l rfl with h0 | h0
    · simp only [Nat.add_zero] at h0
      rw [h0]
      split
      · exact ups_congr l h
      · exact h
    · have e1 : (if b k = true then ups F l else F) t = F t := by split; exact ups_notin h0; rfl
      have e2 : (if b' k = true then ups G l else G) t = G t := by split; exact ups_notin h0; rfl
      rw [e1, e2, h]

theorem GF_out {α : Type} {b : Nat → Bool} {m : List (Nat × α)} : ∀ (ls : List (List (Nat × α))) (k : Nat) (F : Nat → α), (∀ j l, ls[j]? = some l → b (k + j) = true → Dj (m.map (·.1)) (l.map (·.1))) → GF b k ls (ups F m) = ups (GF b k ls F) m
  | [], _, _, _ => rfl
  | l :: ls, k, F, h => by
    simp only [GF]
    have ih := fun F => GF_out (b := b) (m := m) ls (k + 1) F (fun j l' hl hb => h (j + 1) l' (by simpa using hl) (by rwa [show k + (j + 1) = k + 1 + j by omega]))
    cases hb : b k with
    | true =>
      simp only [if_true]
      rw [ups_comm (h 0 l rfl hb)]
      exact ih _
    | false => simp only [Bool.false_eq_true, if_false]; exact ih _

def setB (b : Nat → Bool) (i : Nat) : Nat → Bool := fun j => if j = i then true else b j

theorem GF_set {α : Type} {b : Nat → Bool} {m : List (Nat × α)} : ∀ (ls : List (List (Nat × α))) (k i : Nat) (F : Nat → α), ls[i]? = some m → b (k + i) = false → (∀ j l, i < j → ls[j]? = some l → b (k + j) = true → Dj (m.map (·.1)) (l.map (·.1))) →
    GF (setB b (k + i)) k ls F = ups (GF b k ls F) m
  | [], _, _, _, h, _, _ => by simp at h
  | l :: ls, k, i, F, h, hb, hd => by
    cases i with
    | zero =>
      simp at h; subst h
      simp only [Nat.add_zero] at hb ⊢
      simp only [GF, hb, setB, if_true, Bool.false_eq_true, if_false]
      rw [← GF_out ls (k + 1) F (fun j l' hl hbj => hd (j + 1) l' (by omega) (by simpa using hl) (by rwa [show k + (j + 1) = k + 1 + j by omega]))]
      funext t
      refine GF_congr_at ls (k + 1) _ _ rfl (fun j l' hl => .inl ?_)
      simp only [setB]
      rw [if_neg (by omega)]
    | succ i =>
      simp at h
      have ih := fun F => GF_set (b := b) ls (k + 1) i F h (by rwa [show k + 1 + i = k + (i + 1) by omega]) (fun j l' hij hl hbj => hd (j + 1) l' (by omega) (by simpa using hl) (by rwa [show k + (j + 1) = k + 1 + j by omega]))
      rw [show k + 1 + i = k + (i + 1) by omega] at ih
      simp only [GF]
      rw [show setB b (k + (i + 1)) k = b k by simp [setB]]
      exact ih _

def FF {α : Type} (ls : List (List (Nat × α))) (F : Nat → α) : Nat → α := ls.foldl ups F

theorem GF_take {α : Type} : ∀ (ls : List (List (Nat × α))) (k i : Nat) (F : Nat → α), GF (fun j => decide (j < k + i)) k ls F = FF (ls.take i) F
  | [], _, _, _ => by simp [GF, FF]
  | l :: ls, k, 0, F => by
    simp only [GF, Nat.add_zero, Nat.lt_irrefl, decide_false, Bool.false_eq_true, if_false, List.take_zero]
    have := GF_take ls (k + 1) 0 F
    rw [List.take_zero] at this
    rw [← this]
    funext t
    refine GF_congr_at ls (k + 1) _ _ rfl (fun j l' hl => .inl ?_)
    simp; omega
  | l :: ls, k, i + 1, F => by
    simp only [GF, List.take_succ_cons]
    rw [if_pos (by simp), show k + (i + 1) = k + 1 + i by omega, GF_take ls (k + 1) i]
    rfl

/-! ### What an operation looks at -/
def refsT : AV → List Nat
  | .sl r _ _ _ => [r]
  | .pt r _ _ => [r]
  | _ => []
def reach (H : Nat → Option Rows) : Nat → AV → List Nat
  | 0, _ => []
  | n + 1, .sl r _ off len => r :: (match H r with
    | some rows => ((rows.drop off).take len).flatMap fun row => row.flatMap (reach H n)
    | none => [])
  | n + 1, .pt r i j => r :: (match H r with
    | some rows => match rows[i]? with
      | some row => (row.drop j).flatMap (reach H n)
      | none => []
    | none => [])
  | n + 1, .agg cs => cs.flatMap (reach H n)
  | n + 1, .tup cs => cs.flatMap (reach H n)
  | n + 1, .fn _ cs => cs.flatMap (reach H n)
  | _ + 1, _ => []
def rds (op : AOp) (g : AX → AV) (H : Nat → Option Rows) : List Nat := match op with
  | .call _ args => args.flatMap fun x => reach H 6 (g x)
  | .callv x args => reach H 7 (g x) ++ args.flatMap fun x => reach H 6 (g x)
  | op => (opAX op).flatMap fun x => refsT (g x)

theorem fillA_congr {g g' : AX → AV} : ∀ (ps : List (Nat × Nat × AX)) (z : List AV), (∀ x ∈ ps.map (·.2.2), g' x = g x) → fillA g' z ps = fillA g z ps
  | [], z, _ => rfl
  | (o, s, x) :: ps, z, h => by
    simp only [fillA]
    rw [h x (by simp)]
    split
    · split
      · exact fillA_congr ps _ (fun y hy => h y (by simp only [List.map_cons, List.mem_cons]; exact .inr hy))
      · rfl
    · rfl
theorem fillS_congr {g g' : AX → AV} {sz : Nat} : ∀ (ps : List (Nat × AX)) (z : Rows), (∀ x ∈ ps.map (·.2), g' x = g x) → fillS g' sz z ps = fillS g sz z ps
  | [], z, _ => rfl
  | (i, x) :: ps, z, h => by
    simp only [fillS]
    rw [h x (by simp)]
    split
    · split
      · exact fillS_congr ps _ (fun y hy => h y (by simp only [List.map_cons, List.mem_cons]; exact .inr hy))
      · rfl
    · rfl

theorem rowsOf_congr {H H' : Nat → Option Rows} {sz : Nat} {v : AV} (h : ∀ r ∈ refsT v, H' r = H r) : rowsOf H' sz v = rowsOf H sz v := by
  cases v <;> simp only [rowsOf]
  rename_i r s off len
  rw [h r (by simp [refsT])]

theorem ev_congr {g g' : AX → AV} {H H' : Nat → Option Rows} {nr : Nat} (op : AOp) (hg : ∀ x ∈ opAX op, g' x = g x) (hH : ∀ x ∈ opAX op, ∀ r ∈ refsT (g x), H' r = H r) : ev g' H' nr op = ev g H nr op := by
  cases op
  case build z parts => simp only [ev]; rw [fillA_congr parts z hg]
  case bsl sz z n parts => simp only [ev]; rw [fillS_congr parts _ hg]
  case mkf f caps =>
    simp only [ev]
    rw [List.map_congr_left (l := caps) hg]
  case slc sz x lo hi =>
    have h1 := hg x (by simp [opAX])
    have h2 : ∀ d, bound g' d lo = bound g d lo := by
      intro d
      cases lo with
      | none => rfl
      | some y => simp only [bound]; rw [hg y (by simp [opAX])]
    have h3 : ∀ d, bound g' d hi = bound g d hi := by
      intro d
      cases hi with
      | none => rfl
      | some y => simp only [bound]; rw [hg y (by simp [opAX])]
    simp only [ev, h1, h2, h3]
    cases hx : g x with
    | sl r s off len => simp only []; rw [hH x (by simp [opAX]) r (by simp [refsT, hx])]
    | _ => rfl
  case slc3 sz x lo hi mx =>
    have h1 := hg x (by simp [opAX])
    have h2 : ∀ d, bound g' d lo = bound g d lo := by
      intro d
      cases lo with
      | none => rfl
      | some y => simp only [bound]; rw [hg y (by simp [opAX])]
    have h3 : ∀ d, bound g' d (some hi) = bound g d (some hi) := by
      intro d
      simp only [bound]; rw [hg hi (by simp [opAX])]
    have h4 : ∀ d, bound g' d (some mx) = bound g d (some mx) := by
      intro d
      simp only [bound]; rw [hg mx (by simp [opAX])]
    simp only [ev, h1, h2, h3, h4]
    cases hx : g x with
    | sl r s off len => simp only []; rw [hH x (by simp [opAX]) r (by simp [refsT, hx])]
    | _ => rfl
  case ld ag sz x =>
    have h1 := hg x (by simp [opAX])
    simp only [ev, h1]
    cases hx : g x with
    | pt r i j => simp only []; rw [hH x (by simp [opAX]) r (by simp [refsT, hx])]
    | _ => rfl
  case st sz p x =>
    have h1 := hg p (by simp [opAX])
    have h2 := hg x (by simp [opAX])
    simp only [ev, h1, h2]
    cases hx : g p with
    | pt r i j => simp only []; rw [hH p (by simp [opAX]) r (by simp [refsT, hx])]
    | _ => rfl
  case app sz bytes z x y =>
    have h1 := hg x (by simp [opAX])
    have h2 := hg y (by simp [opAX])
    simp only [ev, h1, h2]
    rw [rowsOf_congr (hH y (by simp [opAX]))]
    split
    · cases hx : g x with
      | sl r s off len => simp only []; rw [hH x (by simp [opAX]) r (by simp [refsT, hx])]
      | _ => rfl
    · rfl
  case cpy sz x y =>
    have h1 := hg x (by simp [opAX])
    have h2 := hg y (by simp [opAX])
    simp only [ev, h1, h2]
    rw [rowsOf_congr (hH y (by simp [opAX]))]
    cases hx : g x with
    | sl r s off len =>
      have h3 := hH x (by simp [opAX]) r (by simp [refsT, hx])
      cases rowsOf H sz (g y) with
      | none => rfl
      | some src => simp only [h3]
    | _ => rfl
  case clr sz z x =>
    have h1 := hg x (by simp [opAX])
    simp only [ev, h1]
    cases hx : g x with
    | sl r s off len => simp only []; rw [hH x (by simp [opAX]) r (by simp [refsT, hx])]
    | _ => rfl
  case alloc z => rfl
  case call f args => rfl
  case callv x args => rfl
  all_goals (simp only [opAX, List.mem_cons, List.not_mem_nil, or_false, forall_eq_or_imp, forall_eq] at hg; first | simp only [ev, hg] | (obtain ⟨h1, h2⟩ := hg; simp only [ev, h1, h2]) | (obtain ⟨h1, h2, h3⟩ := hg; simp only [ev, h1, h2, h3]) | rfl)

theorem dr_congr {H H' : Nat → Option Rows} : ∀ (n : Nat) (x : AV), (∀ r ∈ reach H n x, H' r = H r) → dr H' n x = dr H n x
  | 0, _, _ => rfl
  | n + 1, .undef, _ => rfl
  | n + 1, .bool _, _ => rfl
  | n + 1, .int _ _, _ => rfl
  | n + 1, .str _, _ => rfl
  | n + 1, .nilS, _ => rfl
  | n + 1, .nilP, _ => rfl
  | n + 1, .nilF, _ => rfl
  | n + 1, .vw _ _, _ => rfl
  | n + 1, .vp _, _ => rfl
  | n + 1, .agg cs, h => by
    simp only [dr]
    rw [List.map_congr_left (fun x hx => dr_congr n x (fun r hr => h r (by simp only [reach]; exact List.mem_flatMap.2 ⟨x, hx, hr⟩)))]
  | n + 1, .tup cs, h => by
    simp only [dr]
    rw [List.map_congr_left (fun x hx => dr_congr n x (fun r hr => h r (by simp only [reach]; exact List.mem_flatMap.2 ⟨x, hx, hr⟩)))]
  | n + 1, .fn _ cs, h => by
    simp only [dr]
    rw [List.map_congr_left (fun x hx => dr_congr n x (fun r hr => h r (by simp only [reach]; exact List.mem_flatMap.2 ⟨x, hx, hr⟩)))]
  | n + 1, .sl r s off len, h => by
    simp only [reach] at h
    have h0 := h r (by simp)
    simp only [dr, h0]
    cases hr : H r with
    | none => rfl
    | some rows =>
      simp only [hr] at h
      simp only
      congr 1
      refine List.map_congr_left (fun row hrow => List.map_congr_left (fun x hx => dr_congr n x (fun q hq => h q ?_)))
      exact List.mem_cons_of_mem _ (List.mem_flatMap.2 ⟨row, hrow, List.mem_flatMap.2 ⟨x, hx, hq⟩⟩)
  | n + 1, .pt r i j, h => by
    simp only [reach] at h
    have h0 := h r (by simp)
    simp only [dr, h0]
    cases hr : H r with
    | none => rfl
    | some rows =>
      simp only [hr] at h
      simp only
      cases hi : rows[i]? with
      | none => rfl
      | some row =>
        simp only [hi] at h
        simp only
        congr 1
        refine List.map_congr_left (fun x hx => dr_congr n x (fun q hq => h q ?_))
        exact List.mem_cons_of_mem _ (List.mem_flatMap.2 ⟨x, hx, hq⟩)

theorem gT_congr {T T' : Nat → AV} {l : List AX} (h : ∀ t ∈ l.flatMap axT, T' t = T t) : ∀ x ∈ l, gT T' x = gT T x := by
  intro x hx
  cases x with
  | t n => exact h n (List.mem_flatMap.2 ⟨_, hx, by simp [axT]⟩)
  | c v => rfl

theorem res_congr {P : Program} {op : AOp} {T T' : Nat → AV} {H H' : Nat → Option Rows} {nr : Nat} {v : AV} {u : List (Nat × Option Rows)} {k : Nat}
    (hT : ∀ t ∈ (opAX op).flatMap axT, T' t = T t) (hH : ∀ r ∈ rds op (gT T) H, H' r = H r) (h : Res P op T H nr v u k) : Res P op T' H' nr v u k := by
  have hg := gT_congr hT
  unfold Res at h ⊢
  split at h
  · rename_i f args
    have e1 : args.map (gT T') = args.map (gT T) := List.map_congr_left hg
    have e2 : (args.map (gT T)).map (dr H' 6) = (args.map (gT T)).map (dr H 6) := by
      refine List.map_congr_left (fun x hx => ?_)
      obtain ⟨y, hy, rfl⟩ := List.mem_map.1 hx
      exact dr_congr 6 _ (fun r hr => hH r (List.mem_flatMap.2 ⟨y, hy, hr⟩))
    simp only [e1, e2]
    exact h
  · rename_i x args
    have e0 : gT T' x = gT T x := hg x (by simp [opAX])
    have e1 : args.map (gT T') = args.map (gT T) := List.map_congr_left (fun y hy => hg y (by simp [opAX, hy]))
    simp only [e0, e1]
    split at h
    · rename_i f caps hx
      have e2 : (args.map (gT T) ++ caps).map (dr H' 6) = (args.map (gT T) ++ caps).map (dr H 6) := by
        refine List.map_congr_left (fun y hy => ?_)
        rcases List.mem_append.1 hy with hy | hy
        · obtain ⟨z, hz, rfl⟩ := List.mem_map.1 hy
          exact dr_congr 6 _ (fun r hr => hH r (by simp only [rds]; exact List.mem_append.2 (.inr (List.mem_flatMap.2 ⟨z, hz, hr⟩))))
        · exact dr_congr 6 _ (fun r hr => hH r (by
            simp only [rds, hx]
            exact List.mem_append.2 (.inl (List.mem_flatMap.2 ⟨y, hy, hr⟩))))
      simp only [e2]
      exact h
    · exact h
  · rename_i hn1 hn2
    have : rds op (gT T) H = (opAX op).flatMap fun x => refsT (gT T x) := by
      unfold rds
      split
      · exact absurd rfl (hn1 _ _)
      · exact absurd rfl (hn2 _ _)
      · rfl
    rw [this] at hH
    rw [ev_congr op hg (fun x hx r hr => hH r (List.mem_flatMap.2 ⟨x, hx, hr⟩))]
    exact h
end Go.Proofs.Yteoonedddgiacaa.Ab
