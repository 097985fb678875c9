/- Lists of boundaries and weights of models: plain facts. -/
import Derived.Test.YtnohaclnpbpjbaaDwaA
namespace Go.Proofs.Ytnohaclnpbpjbaa.Dst
open Go Go.Proofs.Ytnohaclnpbpjbaa.Ab Go.Proofs.Ytnohaclnpbpjbaa.Il
set_option maxRecDepth 10000
set_option linter.unusedSimpArgs false
set_option linter.unusedVariables false

theorem sm_ge {ws : List Int} (h : ∀ j, j < ws.length → 0 ≤ ws.getD j default) : ∀ i, i ≤ ws.length → ∀ j, j < i → ws.getD j default ≤ sm ws i ∧ 0 ≤ sm ws i
  | 0, _, j, hj => absurd hj (Nat.not_lt_zero _)
  | i + 1, hi, j, hj => by
    have hi0 := h i (by omega)
    have h0 : 0 ≤ sm ws i := by
      cases i with
      | zero => exact Int.le_refl _
      | succ k => exact (sm_ge h (k + 1) (by omega) 0 (by omega)).2
    have e : sm ws (i + 1) = sm ws i + ws.getD i default := rfl
    refine ⟨?_, by omega⟩
    rcases Nat.lt_or_ge j i with g | g
    · have := (sm_ge h i (by omega) j g).1
      omega
    · obtain rfl : j = i := by omega
      omega
theorem GoodD.pos {d : Ds} (h : GoodD d) : 1 ≤ total d := by
  have h0 : 0 < d.ws.length := by have := h.1.1; omega
  have := (sm_ge (fun j hj => (h.2.2.2.1 j hj).1) d.ws.length (Nat.le_refl _) 0 h0).1
  have h2 := h.2.2.1.1
  unfold total; omega
theorem le_tdiv {w t : Int} (ht : 1 ≤ t) (h0 : 0 ≤ w) (h : ¬ w > (1000000000000000 : Int).tdiv t) : w * t ≤ 1000000000000000 := by
  rw [Int.tdiv_eq_ediv_of_nonneg (by omega)] at h
  have h1 : w ≤ 1000000000000000 / t := Int.not_lt.1 h
  exact Int.le_trans (Int.mul_le_mul_of_nonneg_right h1 (by omega)) (Int.ediv_mul_le _ (by omega))

/-! ### Folds by number -/
def fd {S : Type} (g : Nat → S → S) : Nat → S → S
  | 0, s => s
  | m + 1, s => g m (fd g m s)
theorem foldl_take {α S : Type} (g : S → α → S) (l : List α) (s : S) {i : Nat} (h : i < l.length) : (l.take (i + 1)).foldl g s = g ((l.take i).foldl g s) l[i] := by
  rw [List.take_succ_eq_append_getElem h, List.foldl_append]; rfl

/-! ### Lists of boundaries -/
def gN (b : List Nat) (k : Nat) : Nat := b.getD k 0
def ci (b : List Nat) : List Int := b.map fun u : Nat => (u : Int)
theorem ci_len (b : List Nat) : (ci b).length = b.length := by simp [ci]
theorem ci_get (b : List Nat) (k : Nat) : (ci b).getD k default = ((gN b k : Nat) : Int) := by
  unfold gN ci
  by_cases h : k < b.length
  · simp [List.getD_eq_getElem?_getD, List.getElem?_map, List.getElem?_eq_getElem h]
  · simp only [List.getD_eq_getElem?_getD, List.getElem?_map, List.getElem?_eq_none (Nat.not_lt.1 h)]; rfl
theorem ci_app (b : List Nat) (u : Nat) : ci (b ++ [u]) = ci b ++ [(u : Int)] := by simp [ci]
theorem ci_set (b : List Nat) (i u : Nat) : (ci b).set i (u : Int) = ci (b.set i u) := by simp [ci, List.map_set]
structure GoodB (Y n : Nat) (b : List Nat) : Prop where
  len : b.length = n
  lt : ∀ j, j < n → gN b j < Y
  mono : ∀ j, j + 1 < n → gN b j ≤ gN b (j + 1)
def fr (b : List Nat) : Nat := gN b (b.length - 1)
def eE (Y : Nat) (b : List Nat) : List (List Nat) := (List.range (Y - fr b)).map fun j => b ++ [fr b + j]
def bL (Y : Nat) : Nat → List (List Nat)
  | 0 => [[]]
  | k + 1 => (bL Y k).flatMap (eE Y)
def bx (Y : Nat) : Nat → List Nat → List (List Nat)
  | 0, b => [b]
  | d + 1, b => (List.range (Y - fr b)).flatMap fun j => bx Y d (b ++ [fr b + j])
theorem fr_app (b : List Nat) (u : Nat) : fr (b ++ [u]) = u := by
  simp [fr, gN, List.getD_eq_getElem?_getD]
theorem bx_succ (Y : Nat) : ∀ d b, bx Y (d + 1) b = (bx Y d b).flatMap (eE Y)
  | 0, b => by
    show (List.range (Y - fr b)).flatMap (fun j => [b ++ [fr b + j]]) = [b].flatMap (eE Y)
    simp only [List.flatMap_cons, List.flatMap_nil, List.append_nil, eE]
    exact List.map_eq_flatMap.symm
  | d + 1, b => by
    have ih := fun j => bx_succ Y d (b ++ [fr b + j])
    show (List.range (Y - fr b)).flatMap (fun j => bx Y (d + 1) (b ++ [fr b + j])) = ((List.range (Y - fr b)).flatMap fun j => bx Y d (b ++ [fr b + j])).flatMap (eE Y)
    rw [List.flatMap_assoc]
    simp only [ih]
theorem bx_bL (Y : Nat) : ∀ d, bx Y d [] = bL Y d
  | 0 => rfl
  | d + 1 => by rw [bx_succ, bx_bL Y d]; rfl
theorem gN_app_lt {b : List Nat} {u j : Nat} (h : j < b.length) : gN (b ++ [u]) j = gN b j := by
  simp [gN, List.getD_eq_getElem?_getD, List.getElem?_append_left h]
theorem gN_app_eq {b : List Nat} {u : Nat} : gN (b ++ [u]) b.length = u := by simp [gN, List.getD_eq_getElem?_getD]
theorem good_app {Y n : Nat} {b : List Nat} (h : GoodB Y n b) {j : Nat} (hj : j < Y - fr b) : GoodB Y (n + 1) (b ++ [fr b + j]) := by
  have hl := h.len
  refine ⟨by simp [hl], fun k hk => ?_, fun k hk => ?_⟩
  · rcases Nat.lt_or_ge k n with g | g
    · rw [gN_app_lt (by omega)]; exact h.lt k g
    · obtain rfl : k = b.length := by omega
      rw [gN_app_eq]; omega
  · rcases Nat.lt_or_ge (k + 1) n with g | g
    · rw [gN_app_lt (by omega), gN_app_lt (by omega)]; exact h.mono k g
    · obtain rfl : n = k + 1 := by omega
      have e : fr b = gN b k := by rw [fr, hl]; rfl
      rw [gN_app_lt (by omega), ← hl, gN_app_eq]
      omega
theorem bL_good {Y : Nat} : ∀ k, ∀ b ∈ bL Y k, GoodB Y k b
  | 0, b, hb => by
    obtain rfl : b = [] := by simpa [bL] using hb
    exact ⟨rfl, fun j hj => absurd hj (Nat.not_lt_zero _), fun j hj => absurd hj (Nat.not_lt_zero _)⟩
  | k + 1, b, hb => by
    obtain ⟨a, ha, hb2⟩ := List.mem_flatMap.1 hb
    obtain ⟨j, hj, rfl⟩ := List.mem_map.1 hb2
    exact good_app (bL_good k a ha) (List.mem_range.1 hj)
theorem eE_len (Y : Nat) (b : List Nat) : (eE Y b).length = Y - fr b := by simp [eE]
theorem fm_len {Y : Nat} : ∀ l : List (List Nat), (l.flatMap (eE Y)).length ≤ l.length * Y
  | [] => by simp
  | b :: l => by
    have ih := fm_len (Y := Y) l
    rw [List.flatMap_cons, List.length_append, eE_len, List.length_cons, Nat.succ_mul]
    omega
theorem bL_len {Y : Nat} (hY : Y ≤ 20) {k : Nat} (hk : k ≤ 3) : (bL Y k).length ≤ 8000 := by
  have h1 : (bL Y 1).length ≤ 20 := by
    have := fm_len (Y := Y) (bL Y 0)
    have e : (bL Y 0).length = 1 := rfl
    rw [e] at this
    have e2 : bL Y 1 = (bL Y 0).flatMap (eE Y) := rfl
    rw [e2]; omega
  have h2 : (bL Y 2).length ≤ 400 := by
    have := fm_len (Y := Y) (bL Y 1)
    have e2 : bL Y 2 = (bL Y 1).flatMap (eE Y) := rfl
    have := Nat.mul_le_mul h1 hY
    rw [e2]; omega
  have h3 : (bL Y 3).length ≤ 8000 := by
    have := fm_len (Y := Y) (bL Y 2)
    have e2 : bL Y 3 = (bL Y 2).flatMap (eE Y) := rfl
    have := Nat.mul_le_mul h2 hY
    rw [e2]; omega
  match k, hk with
  | 0, _ => simp [bL]
  | 1, _ => omega
  | 2, _ => omega
  | 3, _ => omega
/-- What stands after i lists have been drawn out, and c of the next. -/
def nx (Y : Nat) (out : List (List Nat)) (i c : Nat) : List (List Nat) := (out.take i).flatMap (eE Y) ++ (eE Y (out.getD i [])).take c
theorem nx_0 (Y : Nat) (out : List (List Nat)) : nx Y out 0 0 = [] := by simp [nx]
theorem nx_c {Y : Nat} {out : List (List Nat)} {i c : Nat} (h : c < Y - fr (out.getD i [])) : nx Y out i (c + 1) = nx Y out i c ++ [out.getD i [] ++ [fr (out.getD i []) + c]] := by
  unfold nx
  rw [List.append_assoc]
  congr 1
  have h2 : c < (eE Y (out.getD i [])).length := by rw [eE_len]; exact h
  rw [List.take_succ_eq_append_getElem h2]
  simp [eE]
theorem nx_i {Y : Nat} {out : List (List Nat)} {i : Nat} (h : i < out.length) : nx Y out (i + 1) 0 = nx Y out i (Y - fr (out.getD i [])) := by
  unfold nx
  have h2 : (eE Y (out.getD i [])).take (Y - fr (out.getD i [])) = eE Y (out.getD i []) := List.take_of_length_le (by rw [eE_len]; exact Nat.le_refl _)
  have e : out.getD i [] = out[i] := by simp [List.getD_eq_getElem?_getD, List.getElem?_eq_getElem h]
  rw [h2, List.take_succ_eq_append_getElem h, List.flatMap_append, e]
  simp
theorem nx_end (Y : Nat) (out : List (List Nat)) : nx Y out out.length 0 = out.flatMap (eE Y) := by simp [nx]
theorem nx_le {Y : Nat} {out : List (List Nat)} {i c : Nat} (h : i < out.length) (hc : c ≤ Y - fr (out.getD i [])) : (nx Y out i c).length ≤ (out.flatMap (eE Y)).length := by
  have h1 : (out.take (i + 1)).flatMap (eE Y) ++ (out.drop (i + 1)).flatMap (eE Y) = out.flatMap (eE Y) := by
    rw [← List.flatMap_append, List.take_append_drop]
  have h2 := congrArg List.length h1
  rw [List.length_append] at h2
  have h3 := nx_i (Y := Y) h
  have h4 : nx Y out (i + 1) 0 = (out.take (i + 1)).flatMap (eE Y) := by simp [nx]
  rw [← h4, h3] at h2
  have h5 : (nx Y out i c).length ≤ (nx Y out i (Y - fr (out.getD i []))).length := by
    unfold nx
    simp only [List.length_append, List.length_take]
    omega
  omega

/-! ### The implementation's recursion -/
section
variable {σ : Type} (step : σ → List Nat → σ) (Y : Nat)
def exB : Nat → Nat → Nat → List Nat × σ → List Nat × σ
  | 0, _, _, st => (st.1, step st.2 st.1)
  | d + 1, i, f, st => fd (fun j t => exB d (i + 1) (f + j) (t.1.set i (f + j), t.2)) (Y - f) st
variable {step Y}
theorem exB_fold : ∀ (d i : Nat) (ys : List Nat) (s : σ), ys.length = i + d →
    (exB step Y d i (fr (ys.take i)) (ys, s)).2 = (bx Y d (ys.take i)).foldl step s ∧ (exB step Y d i (fr (ys.take i)) (ys, s)).1.length = i + d ∧ (exB step Y d i (fr (ys.take i)) (ys, s)).1.take i = ys.take i
  | 0, i, ys, s, hl => by
    have e : ys.take i = ys := List.take_of_length_le (by omega)
    refine ⟨?_, hl, rfl⟩
    show step s ys = [ys.take i].foldl step s
    rw [e]; rfl
  | d + 1, i, ys, s, hl => by
    have IH := exB_fold d (i + 1)
    generalize hb : ys.take i = b at *
    have key : ∀ k, (fd (fun j t => exB step Y d (i + 1) (fr b + j) (t.1.set i (fr b + j), t.2)) k (ys, s)).2 = ((List.range k).flatMap fun j => bx Y d (b ++ [fr b + j])).foldl step s ∧ (fd (fun j t => exB step Y d (i + 1) (fr b + j) (t.1.set i (fr b + j), t.2)) k (ys, s)).1.length = i + (d + 1) ∧ (fd (fun j t => exB step Y d (i + 1) (fr b + j) (t.1.set i (fr b + j), t.2)) k (ys, s)).1.take i = b := by
      intro k
      induction k with
      | zero => exact ⟨rfl, hl, hb⟩
      | succ k ih =>
        obtain ⟨i1, i2, i3⟩ := ih
        rw [fd]
        generalize fd (fun j t => exB step Y d (i + 1) (fr b + j) (t.1.set i (fr b + j), t.2)) k (ys, s) = t at *
        have hbl : b.length = i := by rw [← i3, List.length_take]; omega
        have e1 : (t.1.set i (fr b + k)).take (i + 1) = b ++ [fr b + k] := by
          rw [List.take_succ_eq_append_getElem (by simp; omega), List.take_set_of_le (Nat.le_refl i), i3]
          simp
        obtain ⟨q1, q2, q3⟩ := IH (t.1.set i (fr b + k)) t.2 (by simp; omega)
        rw [e1, fr_app] at q1 q2 q3
        refine ⟨?_, by omega, ?_⟩
        · rw [q1, i1, List.range_succ, List.flatMap_append, List.foldl_append]
          simp
        · have := congrArg (List.take i) q3
          rw [List.take_take, Nat.min_eq_left (Nat.le_succ i)] at this
          rw [this, ← hbl]; simp
    exact key (Y - fr b)
end
theorem exB_all {σ : Type} {step : σ → List Nat → σ} {Y : Nat} (d : Nat) (s : σ) : (exB step Y d 0 0 (List.replicate d 0, s)).2 = (bL Y d).foldl step s := by
  have := (exB_fold (step := step) (Y := Y) d 0 (List.replicate d 0) s (by simp)).1
  rw [← bx_bL]
  exact this

/-! ### Sums over years -/
def sp (g : Nat → Int) (a : Nat) : Nat → Int
  | 0 => 0
  | n + 1 => sp g a n + g (a + n)
theorem sp_nn {g : Nat → Int} {a : Nat} (h : ∀ y, 0 ≤ g y) : ∀ n, 0 ≤ sp g a n
  | 0 => Int.le_refl _
  | n + 1 => by
    have := sp_nn (a := a) h n
    have := h (a + n)
    rw [sp]; omega
theorem sp_mono {g k : Nat → Int} {a : Nat} (h : ∀ y, g y ≤ k y) : ∀ n, sp g a n ≤ sp k a n
  | 0 => Int.le_refl _
  | n + 1 => by
    have := sp_mono (a := a) h n
    have := h (a + n)
    rw [sp, sp]; omega
theorem sp_ge {g : Nat → Int} {a : Nat} (h : ∀ y, 0 ≤ g y) : ∀ n j, j < n → g (a + j) ≤ sp g a n
  | 0, j, hj => absurd hj (Nat.not_lt_zero _)
  | n + 1, j, hj => by
    have h0 := sp_nn (a := a) h n
    have h1 := h (a + n)
    rw [sp]
    rcases Nat.lt_or_ge j n with g1 | g1
    · have := sp_ge (a := a) h n j g1
      omega
    · obtain rfl : j = n := by omega
      omega
def lG (Y : Nat) (g : Nat → Int) : List Int := (List.range Y).map g
theorem lG_len (Y : Nat) (g : Nat → Int) : (lG Y g).length = Y := by simp [lG]
theorem lG_get {Y : Nat} {g : Nat → Int} {j : Nat} (h : j < Y) : (lG Y g).getD j default = g j := by
  simp [lG, List.getD_eq_getElem?_getD, List.getElem?_map, List.getElem?_range h]
theorem sl_get {ws : List Int} {a n j : Nat} (h : j < n) : ((ws.drop a).take n).getD j default = ws.getD (a + j) default := by
  simp [List.getD_eq_getElem?_getD, List.getElem?_take, h, List.getElem?_drop]
theorem sm_sl {Y : Nat} {g : Nat → Int} {a n : Nat} (h : a + n ≤ Y) : ∀ k, k ≤ n → sm (((lG Y g).drop a).take n) k = sp g a k
  | 0, _ => rfl
  | k + 1, hk => by
    rw [sm, sp, sm_sl h k (by omega), sl_get (by omega), lG_get (by omega)]
theorem sm_mn {ws : List Int} {B : Int} (hb : bnd ws B) (i : Nat) : ∀ d, i + d ≤ ws.length → sm ws i ≤ sm ws (i + d)
  | 0, _ => Int.le_refl _
  | d + 1, h => by
    have h1 := sm_mn hb i d (by omega)
    have h2 := (hb (i + d) (by omega)).1
    show _ ≤ sm ws (i + d) + ws.getD (i + d) default
    omega
/-- An offset, held within a list. -/
def clp (d : Ds) (z : Int) : Nat := (min z d.ws.length).toNat
theorem clp_le (d : Ds) (z : Int) : clp d z ≤ d.ws.length := by unfold clp; omega
theorem at_clp (d : Ds) (z : Int) : atY d (d.f + z) = sm d.ws (clp d (z + 1)) - sm d.ws (clp d z) := by
  by_cases h : inD d (d.f + z)
  · rw [atY, if_pos h]
    unfold inD at h
    have e1 : clp d (z + 1) = clp d z + 1 := by unfold clp; omega
    have e2 : (d.f + z - d.f).toNat = clp d z := by unfold clp; omega
    rw [e1, e2, sm]; omega
  · rw [atY, if_neg h]
    unfold inD at h
    have e1 : clp d (z + 1) = clp d z := by unfold clp; omega
    rw [e1]; omega
theorem sp_at (d : Ds) (c : Int) (a : Nat) : ∀ n, sp (fun y => atY d (c + y)) a n = sm d.ws (clp d (c + a + n - d.f)) - sm d.ws (clp d (c + a - d.f))
  | 0 => by
    rw [sp, show c + (a : Int) + ((0 : Nat) : Int) - d.f = c + a - d.f by omega]; omega
  | n + 1 => by
    rw [sp, sp_at d c a n, show c + ((a + n : Nat) : Int) = d.f + (c + a + n - d.f) by omega, at_clp, show c + (a : Int) + (n : Int) - d.f + 1 = c + a + ((n + 1 : Nat) : Int) - d.f by omega]
    omega
theorem sp_at_le {d : Ds} (hG : GoodD d) (c : Int) (a n : Nat) : sp (fun y => atY d (c + y)) a n ≤ total d := by
  rw [sp_at]
  have h1 := clp_le d (c + a + n - d.f)
  have h2 := sm_mn hG.bnd (clp d (c + a + n - d.f)) (d.ws.length - clp d (c + a + n - d.f)) (by omega)
  rw [show clp d (c + a + n - d.f) + (d.ws.length - clp d (c + a + n - d.f)) = d.ws.length by omega] at h2
  have h3 := (sm_b hG.bnd (clp d (c + a - d.f)) (clp_le _ _)).1
  unfold total
  omega
end Go.Proofs.Ytnohaclnpbpjbaa.Dst
