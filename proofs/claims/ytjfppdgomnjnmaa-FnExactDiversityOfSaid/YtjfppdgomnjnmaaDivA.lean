/- Types in order and what is counted of each (plain). -/
import Derived.Test.YtjfppdgomnjnmaaFndI
import Derived.Test.YtjfppdgomnjnmaaStrA
namespace Go.Proofs.Ytjfppdgomnjnmaa.Fnd
open Go Go.Proofs.Ytjfppdgomnjnmaa.Ab Go.Proofs.Ytjfppdgomnjnmaa.Il
set_option maxRecDepth 10000
set_option linter.unusedSimpArgs false
set_option linter.unusedVariables false

theorem bl_trans : ∀ (x y z : List UInt8), Op.bytesLess x y = true → Op.bytesLess y z = true → Op.bytesLess x z = true
  | _, [], _, h, _ => by cases ‹List UInt8› <;> simp [Op.bytesLess] at h
  | [], b :: y, [], _, h => by simp [Op.bytesLess] at h
  | [], b :: y, c :: z, _, _ => by simp [Op.bytesLess]
  | a :: x, b :: y, [], _, h => by simp [Op.bytesLess] at h
  | a :: x, b :: y, c :: z, h1, h2 => by
    have ih := bl_trans x y z
    simp only [Op.bytesLess, Bool.or_eq_true, Bool.and_eq_true, decide_eq_true_eq, beq_iff_eq, UInt8.lt_iff_toNat_lt, ← UInt8.toNat_inj] at h1 h2 ⊢
    rcases h1 with h1 | ⟨h1, h1'⟩ <;> rcases h2 with h2 | ⟨h2, h2'⟩
    · left; omega
    · left; omega
    · left; omega
    · right; exact ⟨by omega, ih h1' h2'⟩
theorem sL_trans {a b c : ByteArray} (h1 : sL a b) (h2 : sL b c) : sL a c := bl_trans _ _ _ h1 h2
theorem sL_irr (a : ByteArray) : ¬ sL a a := by rcases sL_tri a a with ⟨_, h, _⟩ | ⟨h, _, _⟩ | ⟨h, _, _⟩ <;> exact h
/-- How many come before s. -/
def lowN (s : ByteArray) : List ByteArray → Nat
  | [] => 0
  | a :: l => if sL a s then lowN s l + 1 else 0
theorem lowN_le (s : ByteArray) : ∀ T, lowN s T ≤ T.length
  | [] => Nat.le_refl _
  | a :: l => by
    have := lowN_le s l
    rw [lowN, List.length_cons]; split <;> omega
theorem lowN_lt (s : ByteArray) : ∀ (T : List ByteArray) (j : Nat), j < lowN s T → sL (T.getD j default) s
  | [], j, h => absurd h (Nat.not_lt_zero _)
  | a :: l, j, h => by
    rw [lowN] at h
    split at h
    · rename_i ha
      cases j with
      | zero => exact ha
      | succ j => exact lowN_lt s l j (by omega)
    · omega
theorem lowN_at (s : ByteArray) : ∀ (T : List ByteArray), lowN s T < T.length → ¬ sL (T.getD (lowN s T) default) s
  | [], h => absurd h (Nat.not_lt_zero _)
  | a :: l, h => by
    by_cases ha : sL a s
    · have e : lowN s (a :: l) = lowN s l + 1 := by rw [lowN, if_pos ha]
      rw [e] at h ⊢
      exact lowN_at s l (by simpa using h)
    · have e : lowN s (a :: l) = 0 := by rw [lowN, if_neg ha]
      rw [e]; exact ha
theorem lowN_eq {s : ByteArray} {T : List ByteArray} {i : Nat} (h1 : i ≤ T.length) (h2 : ∀ j, j < i → sL (T.getD j default) s) (h3 : i < T.length → ¬ sL (T.getD i default) s) : i = lowN s T := by
  rcases Nat.lt_trichotomy i (lowN s T) with h | h | h
  · exact absurd (lowN_lt s T i h) (h3 (Nat.lt_of_lt_of_le h (lowN_le s T)))
  · exact h
  · exact absurd (h2 _ h) (lowN_at s T (by omega))
/-- Whether s is there already. -/
def isIn (T : List ByteArray) (s : ByteArray) : Prop := lowN s T < T.length ∧ T.getD (lowN s T) default = s
instance (T : List ByteArray) (s : ByteArray) : Decidable (isIn T s) := inferInstanceAs (Decidable (_ ∧ _))
def putT (T : List ByteArray) (s : ByteArray) : List ByteArray := if isIn T s then T else T.take (lowN s T) ++ [s] ++ T.drop (lowN s T)
theorem putT_y {T : List ByteArray} {s : ByteArray} (h : isIn T s) : putT T s = T := if_pos h
theorem putT_n {T : List ByteArray} {s : ByteArray} (h : ¬ isIn T s) : putT T s = T.take (lowN s T) ++ [s] ++ T.drop (lowN s T) := if_neg h
theorem putT_len (T : List ByteArray) (s : ByteArray) : (putT T s).length ≤ T.length + 1 := by
  have := lowN_le s T
  by_cases h : isIn T s
  · rw [putT_y h]; omega
  · rw [putT_n h]; simp; omega
theorem getD_mem {α : Type} [Inhabited α] {l : List α} {i : Nat} (h : i < l.length) : l.getD i default ∈ l := by
  rw [List.getD_eq_getElem?_getD, List.getElem?_eq_getElem h]; exact List.getElem_mem h
theorem mem_putT (T : List ByteArray) (s : ByteArray) : s ∈ putT T s := by
  by_cases h : isIn T s
  · rw [putT_y h]
    have := getD_mem h.1
    rwa [h.2] at this
  · rw [putT_n h]; simp
theorem putT_old {T : List ByteArray} {s x : ByteArray} (hx : x ∈ T) : x ∈ putT T s := by
  by_cases h : isIn T s
  · rw [putT_y h]; exact hx
  · rw [putT_n h]
    rw [← List.take_append_drop (lowN s T) T] at hx
    simp only [List.mem_append] at hx ⊢
    rcases hx with h | h
    · exact .inl (.inl h)
    · exact .inr h
theorem putT_new {T : List ByteArray} {s x : ByteArray} (hx : x ∈ putT T s) : x = s ∨ x ∈ T := by
  by_cases h : isIn T s
  · rw [putT_y h] at hx; exact .inr hx
  · rw [putT_n h] at hx
    simp only [List.mem_append, List.mem_singleton] at hx
    rcases hx with (h | h) | h
    · exact .inr (List.mem_of_mem_take h)
    · exact .inl h
    · exact .inr (List.mem_of_mem_drop h)
def Asc (T : List ByteArray) : Prop := T.Pairwise fun a b => sL a b
theorem Asc.nodup {T : List ByteArray} (h : Asc T) : T.Nodup := h.imp fun {a b} hab e => by subst e; exact sL_irr _ hab
theorem mem_lt {s x : ByteArray} {T : List ByteArray} (h : x ∈ T.take (lowN s T)) : sL x s := by
  obtain ⟨j, hj, rfl⟩ := List.getElem_of_mem h
  have hj2 := hj
  rw [List.length_take] at hj2
  have := lowN_lt s T j (by omega)
  rw [List.getElem_take]
  rwa [List.getD_eq_getElem?_getD, List.getElem?_eq_getElem (by omega)] at this
theorem mem_gt {s x : ByteArray} {T : List ByteArray} (hA : Asc T) (hn : ¬ isIn T s) (h : x ∈ T.drop (lowN s T)) : sL s x := by
  have hlt : lowN s T < T.length := by
    rcases Nat.lt_or_ge (lowN s T) T.length with h1 | h1
    · exact h1
    · rw [List.drop_eq_nil_of_le h1] at h; cases h
  have h1 := lowN_at s T hlt
  have h2 : ¬ T.getD (lowN s T) default = s := fun e => hn ⟨hlt, e⟩
  have h3 : sL s (T.getD (lowN s T) default) := by
    rcases sL_tri s (T.getD (lowN s T) default) with ⟨a, _, _⟩ | ⟨_, a, _⟩ | ⟨_, _, a⟩
    · exact a
    · exact absurd a h1
    · exact absurd a.symm h2
  have e : T.getD (lowN s T) default = T[lowN s T] := by simp [List.getD_eq_getElem?_getD, List.getElem?_eq_getElem hlt]
  rw [e] at h3
  rw [List.drop_eq_getElem_cons hlt] at h
  rcases List.mem_cons.1 h with rfl | h
  · exact h3
  · have hd : Asc (T.drop (lowN s T)) := List.Pairwise.sublist (List.drop_sublist _ _) hA
    rw [List.drop_eq_getElem_cons hlt] at hd
    exact sL_trans h3 ((List.pairwise_cons.1 hd).1 x h)
theorem asc_put {T : List ByteArray} {s : ByteArray} (hA : Asc T) : Asc (putT T s) := by
  by_cases h : isIn T s
  · rw [putT_y h]; exact hA
  · rw [putT_n h]
    have h1 : Asc (T.take (lowN s T)) := List.Pairwise.sublist (List.take_sublist _ _) hA
    have h2 : Asc (T.drop (lowN s T)) := List.Pairwise.sublist (List.drop_sublist _ _) hA
    have h3 : ∀ x, x ∈ T.take (lowN s T) → sL x s := fun x hx => mem_lt hx
    have h4 : ∀ x, x ∈ T.drop (lowN s T) → sL s x := fun x hx => mem_gt hA h hx
    refine List.pairwise_append.2 ⟨List.pairwise_append.2 ⟨h1, List.pairwise_singleton _ _, fun a ha b hb => ?_⟩, h2, fun a ha b hb => ?_⟩
    · rw [List.mem_singleton] at hb; subst hb; exact h3 a ha
    · rcases List.mem_append.1 ha with ha | ha
      · exact sL_trans (h3 a ha) (h4 b hb)
      · rw [List.mem_singleton] at ha; subst ha; exact h4 b hb
/-- All types of the first i finds. -/
def typs (xs : List Fd) : Nat → List ByteArray
  | 0 => []
  | i + 1 => putT (typs xs i) (xs.getD i default).t
theorem typs_len (xs : List Fd) : ∀ i, (typs xs i).length ≤ i
  | 0 => Nat.le_refl _
  | i + 1 => by
    have h1 := typs_len xs i
    have h2 := putT_len (typs xs i) (xs.getD i default).t
    rw [typs]; omega
theorem asc_typs (xs : List Fd) : ∀ i, Asc (typs xs i)
  | 0 => List.Pairwise.nil
  | i + 1 => asc_put (asc_typs xs i)
theorem mem_typs {xs : List Fd} {j : Nat} : ∀ i, j < i → (xs.getD j default).t ∈ typs xs i
  | 0, h => absurd h (Nat.not_lt_zero _)
  | i + 1, h => by
    rw [typs]
    by_cases e : j = i
    · subst e; exact mem_putT _ _
    · exact putT_old (mem_typs i (by omega))
theorem typs_sz {xs : List Fd} (hs : szB xs) : ∀ i, i ≤ xs.length → ∀ x ∈ typs xs i, x.size ≤ 1048576
  | 0, _, x, hx => by cases hx
  | i + 1, hi, x, hx => by
    rcases putT_new hx with rfl | h
    · exact hs i (by omega)
    · exact typs_sz hs i (by omega) x h
/-! ### Counting -/
open Classical in
/-- The count of a type in a context: the last of its finds. -/
noncomputable def cntL (c : Int) (uy : ByteArray) (xs : List Fd) : Nat → Int
  | 0 => 0
  | i + 1 => if (xs.getD i default).c = c ∧ (xs.getD i default).t = uy then (xs.getD i default).n else cntL c uy xs i
theorem cntL_y {c : Int} {uy : ByteArray} {xs : List Fd} {i : Nat} (h : (xs.getD i default).c = c) (h2 : (xs.getD i default).t = uy) : cntL c uy xs (i + 1) = (xs.getD i default).n := by rw [cntL, if_pos ⟨h, h2⟩]
theorem cntL_n {c : Int} {uy : ByteArray} {xs : List Fd} {i : Nat} (h : ¬ ((xs.getD i default).c = c ∧ (xs.getD i default).t = uy)) : cntL c uy xs (i + 1) = cntL c uy xs i := by rw [cntL, if_neg h]
theorem cntL_0 {c : Int} {uy : ByteArray} {xs : List Fd} : ∀ i, (∀ j, j < i → ¬ ((xs.getD j default).c = c ∧ (xs.getD j default).t = uy)) → cntL c uy xs i = 0
  | 0, _ => rfl
  | i + 1, h => by rw [cntL_n (h i (by omega))]; exact cntL_0 i (fun j hj => h j (by omega))
theorem cntL_b {c : Int} {uy : ByteArray} {xs : List Fd} (hG : GoodF xs) : ∀ i, i ≤ xs.length → 0 ≤ cntL c uy xs i ∧ cntL c uy xs i ≤ 10000
  | 0, _ => by simp [cntL]
  | i + 1, hi => by
    have h1 := cntL_b (c := c) (uy := uy) hG i (by omega)
    have h2 := (hG.b (i := i) (by omega)).2.2.1
    rw [cntL]; split
    · omega
    · exact h1
theorem bef_trans {a b d : Fd} (h1 : befF a b) (h2 : befF b d) : befF a d := by
  rcases h1 with h1 | ⟨h1, h1'⟩ <;> rcases h2 with h2 | ⟨h2, h2'⟩
  · exact .inl (by omega)
  · exact .inl (by omega)
  · exact .inl (by omega)
  · exact .inr ⟨by omega, sL_trans h1' h2'⟩
theorem bef_lt {xs : List Fd} (hG : GoodF xs) : ∀ (d i : Nat), i + d + 1 < xs.length → befF (xs.getD i default) (xs.getD (i + d + 1) default)
  | 0, i, hi => (hG.2 (i + 1) hi).2 (by omega)
  | d + 1, i, hi => bef_trans (bef_lt hG d i (by omega)) ((hG.2 (i + (d + 1) + 1) hi).2 (by omega))
theorem uniq {xs : List Fd} (hG : GoodF xs) {i j : Nat} (hj : j < i) (hi : i < xs.length) (h : (xs.getD j default).c = (xs.getD i default).c) : (xs.getD j default).t ≠ (xs.getD i default).t := by
  have := bef_lt hG (i - j - 1) j (by omega)
  rw [show j + (i - j - 1) + 1 = i by omega] at this
  rcases this with h1 | ⟨_, h1⟩
  · omega
  · intro e
    rw [e] at h1
    exact sL_irr _ h1
theorem sum_upd {f g : ByteArray → Int} {t : ByteArray} : ∀ (T : List ByteArray), T.Nodup → t ∈ T → (∀ x, x ≠ t → g x = f x) → (T.map g).sum = (T.map f).sum + (g t - f t)
  | [], _, ht, _ => by cases ht
  | a :: l, hn, ht, h => by
    rw [List.nodup_cons] at hn
    rw [List.map_cons, List.map_cons, List.sum_cons, List.sum_cons]
    by_cases e : a = t
    · subst e
      have : l.map g = l.map f := List.map_congr_left fun x hx => h x (fun e => hn.1 (e ▸ hx))
      rw [this]; omega
    · have ht2 : t ∈ l := by
        rcases List.mem_cons.1 ht with h | h
        · exact absurd h.symm e
        · exact h
      rw [sum_upd l hn.2 ht2 h, h a e]; omega
/-- The sum over the types is the sum over the finds of the context. -/
theorem sum_all {c : Int} {xs : List Fd} (hG : GoodF xs) (φ : Int → Int) (h0 : φ 0 = 0) : ∀ i, i ≤ xs.length → ((typs xs xs.length).map fun uy => φ (cntL c uy xs i)).sum = sI (fun f => f.c = c) (fun f => φ f.n) xs i
  | 0, _ => by
    have : ∀ T : List ByteArray, (T.map fun uy => φ (cntL c uy xs 0)).sum = 0 := by
      intro T
      induction T with
      | nil => rfl
      | cons a l ih => rw [List.map_cons, List.sum_cons, ih]; simp only [cntL]; omega
    rw [this]; rfl
  | i + 1, hi => by
    have ih := sum_all (c := c) hG φ h0 i (by omega)
    by_cases hc : (xs.getD i default).c = c
    · rw [sI_y (p := fun f => f.c = c) hc, ← ih]
      have hz : cntL c (xs.getD i default).t xs i = 0 := cntL_0 i (fun j hj h => uniq hG hj (by omega) (by rw [h.1, hc]) h.2)
      rw [sum_upd (f := fun uy => φ (cntL c uy xs i)) (t := (xs.getD i default).t) _ (asc_typs xs _).nodup (mem_typs _ (by omega)) (fun x hx => by
        rw [cntL_n (fun h => hx h.2.symm)])]
      rw [cntL_y hc rfl, hz, h0]; omega
    · rw [sI_n (p := fun f => f.c = c) hc, ← ih]
      congr 1
      refine List.map_congr_left fun x _ => ?_
      rw [cntL_n (fun h => hc h.1)]
def sm (ws : List Int) : Nat → Int
  | 0 => 0
  | i + 1 => sm ws i + ws.getD i default
theorem sm_take (ws : List Int) : ∀ i, i ≤ ws.length → sm ws i = (ws.take i).sum
  | 0, _ => by simp [sm]
  | i + 1, h => by
    have e : (ws.take i ++ [ws[i]'h]).sum = (ws.take i).sum + ws[i]'h := by
      induction ws.take i with
      | nil => simp
      | cons a l ih => rw [List.cons_append, List.sum_cons, List.sum_cons, ih]; omega
    rw [sm, sm_take ws i (by omega), List.take_succ_eq_append_getElem h, e]
    simp [List.getD_eq_getElem?_getD, List.getElem?_eq_getElem (show i < ws.length from h)]
theorem sm_bd {ws : List Int} {B : Int} (hb : ∀ j, j < ws.length → 0 ≤ ws.getD j default ∧ ws.getD j default ≤ B) : ∀ i, i ≤ ws.length → 0 ≤ sm ws i ∧ sm ws i ≤ i * B
  | 0, _ => by simp [sm]
  | i + 1, h => by
    have h1 := sm_bd hb i (by omega)
    have h2 := hb i (by omega)
    have e : ((i + 1 : Nat) : Int) * B = i * B + B := by rw [Int.natCast_add, Int.add_mul]; simp
    rw [sm]; omega
/-- The counts of all types. -/
noncomputable def cnts (c : Int) (xs : List Fd) : List Int := (typs xs xs.length).map fun uy => cntL c uy xs xs.length
def φ2 (v : Int) : Int := v * (v - 1)
theorem cnts_len (c : Int) (xs : List Fd) : (cnts c xs).length = (typs xs xs.length).length := by simp [cnts]
theorem cnts_b {c : Int} {xs : List Fd} (hG : GoodF xs) : ∀ j, j < (cnts c xs).length → 0 ≤ (cnts c xs).getD j default ∧ (cnts c xs).getD j default ≤ 10000 := fun j hj => by
  rw [cnts_len] at hj
  have e : (cnts c xs).getD j default = cntL c ((typs xs xs.length).getD j default) xs xs.length := by
    simp [cnts, List.getD_eq_getElem?_getD, List.getElem?_map, List.getElem?_eq_getElem hj]
  rw [e]
  exact cntL_b hG _ (Nat.le_refl _)
theorem cnts_sum {c : Int} {xs : List Fd} (hG : GoodF xs) : sm (cnts c xs) (cnts c xs).length = sI (fun f => f.c = c) Fd.n xs xs.length := by
  rw [sm_take _ _ (Nat.le_refl _), List.take_length]
  exact sum_all hG (fun v => v) rfl _ (Nat.le_refl _)
theorem cnts_sum2 {c : Int} {xs : List Fd} (hG : GoodF xs) : sm ((cnts c xs).map φ2) (cnts c xs).length = sI (fun f => f.c = c) (fun f => φ2 f.n) xs xs.length := by
  have : (cnts c xs).length = ((cnts c xs).map φ2).length := by simp
  rw [this, sm_take _ _ (Nat.le_refl _), List.take_length]
  have e : (cnts c xs).map φ2 = (typs xs xs.length).map fun uy => φ2 (cntL c uy xs xs.length) := by unfold cnts; rw [List.map_map]; rfl
  rw [e]
  exact sum_all hG φ2 rfl _ (Nat.le_refl _)
theorem φ2_b {n : Int} (h0 : 0 ≤ n) (h1 : n ≤ 10000) : 0 ≤ φ2 n ∧ φ2 n ≤ 100000000 := by
  unfold φ2
  by_cases h : n = 0
  · subst h; decide
  · exact ⟨Int.mul_nonneg h0 (by omega), Int.le_trans (Int.mul_le_mul h1 (show n - 1 ≤ 10000 by omega) (by omega) (by decide)) (by decide)⟩
theorem sq_add (a n : Int) : φ2 (a + n) = φ2 a + φ2 n + 2 * (a * n) := by
  unfold φ2
  have := Int.mul_comm n a
  simp only [Int.mul_sub, Int.sub_mul, Int.add_mul, Int.mul_add, Int.mul_one]
  omega
theorem sq_le {c : Int} {xs : List Fd} (hG : GoodF xs) : ∀ i, i ≤ xs.length → 0 ≤ sI (fun f => f.c = c) Fd.n xs i ∧ sI (fun f => f.c = c) Fd.n xs i ≤ 10000 * i ∧ 0 ≤ sI (fun f => f.c = c) (fun f => φ2 f.n) xs i ∧ sI (fun f => f.c = c) (fun f => φ2 f.n) xs i ≤ φ2 (sI (fun f => f.c = c) Fd.n xs i)
  | 0, _ => by simp [sI, φ2]
  | i + 1, hi => by
    obtain ⟨a1, a2, a3, a4⟩ := sq_le (c := c) hG i (by omega)
    have h2 := (hG.b (i := i) (by omega)).2.2.1
    by_cases hc : (xs.getD i default).c = c
    · rw [sI_y (p := fun f => f.c = c) hc, sI_y (p := fun f => f.c = c) hc, sq_add]
      have h3 := φ2_b (n := (xs.getD i default).n) (by omega) (by omega)
      have h4 : 0 ≤ sI (fun f => f.c = c) Fd.n xs i * (xs.getD i default).n := Int.mul_nonneg a1 (by omega)
      omega
    · rw [sI_n (p := fun f => f.c = c) hc, sI_n (p := fun f => f.c = c) hc]; omega
end Go.Proofs.Ytjfppdgomnjnmaa.Fnd
