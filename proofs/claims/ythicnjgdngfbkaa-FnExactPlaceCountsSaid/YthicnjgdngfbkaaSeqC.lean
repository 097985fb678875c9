/- Sequences: the sets that stand first, the rank, the sequence with a rank. -/
import Derived.Test.YthicnjgdngfbkaaSeqA
namespace Go.Proofs.Ythicnjgdngfbkaa.Rec
open Go Go.Proofs.Ythicnjgdngfbkaa.Ab Go.Proofs.Ythicnjgdngfbkaa.Il
set_option maxRecDepth 10000
set_option maxHeartbeats 8000000
set_option linter.unusedSimpArgs false
set_option linter.unusedVariables false

theorem lt_up' {P : Nat → Prop} {i : Nat} (h : ∀ j, j < i → P j) (h2 : P i) : ∀ j, j < i + 1 → P j := by
  intro j hj
  rcases Nat.lt_or_ge j i with hji | hji
  · exact h j hji
  · obtain rfl : j = i := by omega
    exact h2
noncomputable def sqI (r : Rc) (ls : List Int) (q : Nat) : Nat := (idx r (ls.getD q default)).toNat
noncomputable def sqS (r : Rc) (ls : List Int) : Nat → Nat
  | 0 => 0
  | q + 1 => sqS r ls q ||| 2 ^ sqI r ls q
def okQ (r : Rc) (ls : List Int) (q : Nat) : Prop := 0 ≤ idx r (ls.getD q default) ∧ rdy r.cs.length (later r) (sqS r ls q) (sqI r ls q)
def isSeq (r : Rc) (ls : List Int) : Prop := (∀ q, q < ls.length → okQ r ls q) ∧ ls.length = r.cs.length
theorem sqI_lt {r : Rc} {ls : List Int} {q : Nat} (h : okQ r ls q) : sqI r ls q < r.cs.length := by
  have := idx_b r (ls.getD q default)
  have := h.1
  unfold sqI; omega
theorem sqI_eq {r : Rc} {ls : List Int} {q : Nat} (h : okQ r ls q) : idx r (ls.getD q default) = ((sqI r ls q : Nat) : Int) := (Int.toNat_of_nonneg h.1).symm
theorem sqS_lt {r : Rc} {ls : List Int} : ∀ q, (∀ j, j < q → okQ r ls j) → sqS r ls q < 2 ^ r.cs.length
  | 0, _ => Nat.pow_pos (by decide)
  | q + 1, h => or_lt (sqS_lt q (fun j hj => h j (by omega))) (sqI_lt (h q (by omega)))
theorem sqS_pc {r : Rc} {ls : List Int} : ∀ q, (∀ j, j < q → okQ r ls j) → pcB (sqS r ls q) r.cs.length = q
  | 0, _ => by
    have : ∀ k, pcB 0 k = 0 := fun k => by
      induction k with
      | zero => rfl
      | succ k ih => rw [pcB, ih]; simp
    exact this _
  | q + 1, h => by
    have hq := h q (by omega)
    rw [sqS, pcB_or hq.2.1, sqS_pc q (fun j hj => h j (by omega)), if_pos (sqI_lt hq)]

/-! ### The rank -/
noncomputable def rkQ (r : Rc) (ls : List Int) (q : Nat) : Nat := sumTo (gS r.cs.length (later r) (sqS r ls q)) (sqI r ls q)
noncomputable def rk (r : Rc) (ls : List Int) : Nat → Nat
  | 0 => 0
  | q + 1 => rk r ls q + rkQ r ls q
theorem rkQ_le {r : Rc} {ls : List Int} (h10 : r.cs.length ≤ 10) {q : Nat} (h : okQ r ls q) : rkQ r ls q ≤ 100000000000 := sumTo_b h10 _ (Nat.le_of_lt (sqI_lt h))
theorem rk_le {r : Rc} {ls : List Int} (h10 : r.cs.length ≤ 10) : ∀ q, (∀ j, j < q → okQ r ls j) → rk r ls q ≤ q * 100000000000
  | 0, _ => by simp [rk]
  | q + 1, h => by
    have h1 := rk_le h10 q (fun j hj => h j (by omega))
    have h2 := rkQ_le h10 (h q (by omega))
    rw [rk, Nat.succ_mul]; omega
/-- What is still to come of a sequence's rank is less than the ways to go on. -/
theorem rk_lt {r : Rc} {ls : List Int} (h : isSeq r ls) : ∀ d q, q + d = r.cs.length → rk r ls r.cs.length < rk r ls q + cnt r.cs.length (later r) (sqS r ls q)
  | 0, q, e => by
    have hp := sqS_pc (r := r) (ls := ls) q (fun j hj => h.1 j (by have := h.2; omega))
    have e2 : q = r.cs.length := by omega
    rw [cnt, hp, e2, Nat.sub_self]
    show _ < _ + 1
    omega
  | d + 1, q, e => by
    have hl := h.2
    have hq := h.1 q (by omega)
    have ih := rk_lt h d (q + 1) (by omega)
    have hi := sqI_lt hq
    have hS := sqS_lt (r := r) (ls := ls) q (fun j hj => h.1 j (by omega))
    have hp := sqS_pc (r := r) (ls := ls) q (fun j hj => h.1 j (by omega))
    have hne : sqS r ls q ≠ 2 ^ r.cs.length - 1 := fun e3 => by
      rw [e3, pcB_top _ _ (Nat.le_refl _)] at hp; omega
    rw [cnt_rec hS hne]
    rw [rk, sqS] at ih
    have hm := sumTo_mono (f := gS r.cs.length (later r) (sqS r ls q)) (m := sqI r ls q + 1) (r.cs.length - (sqI r ls q + 1))
    rw [show sqI r ls q + 1 + (r.cs.length - (sqI r ls q + 1)) = r.cs.length by omega] at hm
    have e4 : sumTo (gS r.cs.length (later r) (sqS r ls q)) (sqI r ls q + 1) = rkQ r ls q + cnt r.cs.length (later r) (sqS r ls q ||| 2 ^ sqI r ls q) := by
      show sumTo _ _ + gS _ _ _ _ = _
      rw [gS, if_pos hq.2]; rfl
    omega
theorem rk_cnt {r : Rc} {ls : List Int} (h : isSeq r ls) : rk r ls r.cs.length < cnt r.cs.length (later r) 0 := by
  have := rk_lt h r.cs.length 0 (by omega)
  rw [rk, Nat.zero_add] at this
  exact this

/-! ### The sequence with a rank -/
/-- The next one: the first that leaves the rank within its own ways. -/
noncomputable def pk (n : Nat) (W : Nat → Nat → Bool) (S x : Nat) : Nat := (ixN (fun i => x < sumTo (gS n W S) (i + 1)) n).toNat
theorem pk_sp {n S x : Nat} {W : Nat → Nat → Bool} (h : x < sumTo (gS n W S) n) : pk n W S x < n ∧ x < sumTo (gS n W S) (pk n W S x + 1) ∧ ∀ j, j < pk n W S x → sumTo (gS n W S) (j + 1) ≤ x := by
  have hn : 0 < n := by
    cases n with
    | zero => simp [sumTo] at h
    | succ n => omega
  rcases ixN_p (fun i => x < sumTo (gS n W S) (i + 1)) n with ⟨_, g⟩ | ⟨m, e, g1, g2, g3⟩
  · have : ¬ x < sumTo (gS n W S) (n - 1 + 1) := g (n - 1) (by omega)
    rw [show n - 1 + 1 = n by omega] at this
    exact absurd h this
  · have : pk n W S x = m := by unfold pk; rw [e]; rfl
    rw [this]
    exact ⟨g1, g2, fun j hj => Nat.not_lt.1 (g3 j hj)⟩
theorem pk_le {n S x : Nat} {W : Nat → Nat → Bool} (h : x < sumTo (gS n W S) n) : sumTo (gS n W S) (pk n W S x) ≤ x := by
  obtain ⟨h1, h2, h3⟩ := pk_sp h
  rcases Nat.eq_zero_or_pos (pk n W S x) with e | e
  · rw [e]; exact Nat.zero_le _
  · have := h3 (pk n W S x - 1) (by omega)
    rwa [show pk n W S x - 1 + 1 = pk n W S x by omega] at this
theorem pk_rdy {n S x : Nat} {W : Nat → Nat → Bool} (h : x < sumTo (gS n W S) n) : rdy n W S (pk n W S x) ∧ x - sumTo (gS n W S) (pk n W S x) < cnt n W (S ||| 2 ^ pk n W S x) := by
  obtain ⟨h1, h2, h3⟩ := pk_sp h
  have h4 := pk_le h
  have e : sumTo (gS n W S) (pk n W S x + 1) = sumTo (gS n W S) (pk n W S x) + gS n W S (pk n W S x) := rfl
  by_cases hr : rdy n W S (pk n W S x)
  · refine ⟨hr, ?_⟩
    have e2 : gS n W S (pk n W S x) = cnt n W (S ||| 2 ^ pk n W S x) := if_pos hr
    omega
  · have e2 : gS n W S (pk n W S x) = 0 := if_neg hr
    omega
/-- The set and the rest of the rank after a number of steps. -/
noncomputable def atS (n : Nat) (W : Nat → Nat → Bool) (x : Nat) : Nat → Nat × Nat
  | 0 => (0, x)
  | j + 1 => ((atS n W x j).1 ||| 2 ^ pk n W (atS n W x j).1 (atS n W x j).2, (atS n W x j).2 - sumTo (gS n W (atS n W x j).1) (pk n W (atS n W x j).1 (atS n W x j).2))
noncomputable def atP (n : Nat) (W : Nat → Nat → Bool) (x j : Nat) : Nat := pk n W (atS n W x j).1 (atS n W x j).2
theorem atS_ok {n x : Nat} {W : Nat → Nat → Bool} (h : x < cnt n W 0) : ∀ j, j ≤ n → (atS n W x j).1 < 2 ^ n ∧ pcB (atS n W x j).1 n = j ∧ (atS n W x j).2 < cnt n W (atS n W x j).1
  | 0, _ => ⟨Nat.pow_pos (by decide), by
      have : ∀ k, pcB 0 k = 0 := fun k => by
        induction k with
        | zero => rfl
        | succ k ih => rw [pcB, ih]; simp
      exact this _, h⟩
  | j + 1, hj => by
    obtain ⟨h1, h2, h3⟩ := atS_ok h j (by omega)
    have hne : (atS n W x j).1 ≠ 2 ^ n - 1 := fun e3 => by
      rw [e3, pcB_top _ _ (Nat.le_refl _)] at h2; omega
    rw [cnt_rec h1 hne] at h3
    obtain ⟨g1, g2⟩ := pk_rdy h3
    obtain ⟨g3, _, _⟩ := pk_sp h3
    refine ⟨or_lt h1 g3, ?_, g2⟩
    show pcB (_ ||| _) n = _
    rw [pcB_or g1.1, h2, if_pos g3]
theorem atS_lt {n x j : Nat} {W : Nat → Nat → Bool} (h : x < cnt n W 0) (hj : j < n) : (atS n W x j).2 < sumTo (gS n W (atS n W x j).1) n := by
  obtain ⟨h1, h2, h3⟩ := atS_ok h j (by omega)
  have hne : (atS n W x j).1 ≠ 2 ^ n - 1 := fun e3 => by
    rw [e3, pcB_top _ _ (Nat.le_refl _)] at h2; omega
  rwa [cnt_rec h1 hne] at h3
noncomputable def atL (r : Rc) (x j : Nat) : List Int := (List.range j).map fun q => (r.cs.getD (atP r.cs.length (later r) x q) default).n
theorem atL_len (r : Rc) (x j : Nat) : (atL r x j).length = j := by simp [atL]
theorem atL_succ (r : Rc) (x j : Nat) : atL r x (j + 1) = atL r x j ++ [(r.cs.getD (atP r.cs.length (later r) x j) default).n] := by simp [atL, List.range_succ]
end Go.Proofs.Ythicnjgdngfbkaa.Rec
