/- Weights of events and of lists of boundaries: plain facts. -/
import Derived.Test.YtnohaclnpbpjbaaPmA
import Derived.Test.YtnohaclnpbpjbaaPmT
namespace Go.Proofs.Ytnohaclnpbpjbaa.Dst
open Go Go.Proofs.Ytnohaclnpbpjbaa.Ab Go.Proofs.Ytnohaclnpbpjbaa.Il
set_option maxRecDepth 10000
set_option linter.unusedSimpArgs false
set_option linter.unusedVariables false

/-! ### What must hold -/
def fac (Y : Int) (x : Ev) : Int := 100 * Y * total x.d
def prE (Y : Int) (xs : List Ev) : Nat → Int
  | 0 => 1
  | i + 1 => prE Y xs i * fac Y (xs.getD i default)
def okE (m : Md) (xs : List Ev) (i : Nat) : Prop := (0 ≤ (xs.getD i default).p ∧ (xs.getD i default).p ≤ m.p - 1) ∧ GoodD (xs.getD i default).d ∧ (0 ≤ (xs.getD i default).o ∧ (xs.getD i default).o ≤ 100) ∧ ¬ prE m.y xs i > (1000000000000000 : Int).tdiv (fac m.y (xs.getD i default))
def GoodM (m : Md) (xs : List Ev) : Prop := (1 ≤ m.y ∧ m.y ≤ 20) ∧ (-20000 ≤ m.f ∧ m.f + m.y - 1 ≤ 2100) ∧ (1 ≤ m.p ∧ m.p ≤ 2) ∧ xs.length ≤ 4 ∧ ∀ i, i < xs.length → okE m xs i
theorem fac_b {Y : Int} {x : Ev} (hY : 1 ≤ Y ∧ Y ≤ 20) (hG : GoodD x.d) : 100 ≤ fac Y x ∧ fac Y x ≤ 120000000000 := by
  have h1 := hG.pos
  have h2 := hG.total_b.2
  unfold fac
  have a1 := Int.mul_le_mul (show (100 : Int) ≤ 100 * Y by omega) h1 (by omega) (by omega)
  have a2 := Int.mul_le_mul (show 100 * Y ≤ 2000 by omega) h2 (by omega) (by omega)
  omega
theorem prE_b {m : Md} {xs : List Ev} (hY : 1 ≤ m.y ∧ m.y ≤ 20) : ∀ i, (∀ j, j < i → okE m xs j) → 1 ≤ prE m.y xs i ∧ prE m.y xs i ≤ 1000000000000000
  | 0, _ => by simp [prE]
  | i + 1, h => by
    obtain ⟨h1, h2⟩ := prE_b hY i (fun j hj => h j (by omega))
    obtain ⟨g1, g2, g3, g4⟩ := h i (by omega)
    have hf := fac_b (x := xs.getD i default) hY g2
    refine ⟨?_, le_tdiv (by omega) (by omega) g4⟩
    rw [prE]
    have := Int.mul_le_mul h1 (show (1 : Int) ≤ fac m.y (xs.getD i default) by omega) (by omega) (by omega)
    omega

/-! ### Weights of an event -/
def ew (m : Md) (x : Ev) (q : Bool) (y : Nat) : Int := x.o * total x.d + if q then 0 else (100 - x.o) * m.y * atY x.d (m.f + y)
theorem ew_nn {m : Md} {x : Ev} (hY : 1 ≤ m.y) (hG : GoodD x.d) (ho : 0 ≤ x.o ∧ x.o ≤ 100) (q : Bool) (y : Nat) : 0 ≤ ew m x q y := by
  have h1 : 0 ≤ x.o * total x.d := Int.mul_nonneg ho.1 hG.total_b.1
  have h2 : 0 ≤ (100 - x.o) * m.y * atY x.d (m.f + y) := Int.mul_nonneg (Int.mul_nonneg (by omega) (by omega)) (hG.at_b _).1
  unfold ew
  split <;> omega
theorem sp_ew (m : Md) (x : Ev) (a : Nat) : ∀ n, sp (ew m x false) a n = n * (x.o * total x.d) + (100 - x.o) * m.y * sp (fun y => atY x.d (m.f + y)) a n
  | 0 => by simp [sp]
  | n + 1 => by
    rw [sp, sp, sp_ew m x a n, Int.mul_add, Int.natCast_add, Int.add_mul]
    simp only [ew, Bool.false_eq_true, if_false]
    generalize (100 - x.o) * m.y * sp (fun y => atY x.d (m.f + ↑y)) a n = A
    generalize (n : Int) * (x.o * total x.d) = B
    generalize x.o * total x.d = C
    generalize (100 - x.o) * m.y * atY x.d (m.f + ((a + n : Nat) : Int)) = D
    omega
theorem ew_le {m : Md} {x : Ev} (hY : 1 ≤ m.y) (hG : GoodD x.d) (ho : 0 ≤ x.o ∧ x.o ≤ 100) (y : Nat) : ew m x true y ≤ ew m x false y := by
  have h2 : 0 ≤ (100 - x.o) * m.y * atY x.d (m.f + y) := Int.mul_nonneg (Int.mul_nonneg (by omega) (by omega)) (hG.at_b _).1
  simp only [ew, if_true, Bool.false_eq_true, if_false]
  omega
theorem sp_fac {m : Md} {x : Ev} (hY : 1 ≤ m.y) (hG : GoodD x.d) (ho : 0 ≤ x.o ∧ x.o ≤ 100) (q : Bool) (a n : Nat) (hn : (n : Int) ≤ m.y) : 0 ≤ sp (ew m x q) a n ∧ sp (ew m x q) a n ≤ fac m.y x := by
  refine ⟨sp_nn (ew_nn hY hG ho q) n, ?_⟩
  have h0 : sp (ew m x q) a n ≤ sp (ew m x false) a n := by
    cases q
    · exact Int.le_refl _
    · exact sp_mono (ew_le hY hG ho) n
  refine Int.le_trans h0 ?_
  rw [sp_ew]
  have hT := hG.total_b.1
  have h1 : (n : Int) * (x.o * total x.d) ≤ m.y * (x.o * total x.d) := Int.mul_le_mul_of_nonneg_right hn (Int.mul_nonneg ho.1 hT)
  have h2 : (100 - x.o) * m.y * sp (fun y => atY x.d (m.f + y)) a n ≤ (100 - x.o) * m.y * total x.d := Int.mul_le_mul_of_nonneg_left (sp_at_le hG m.f a n) (Int.mul_nonneg (by omega) (by omega))
  have e1 : m.y * (x.o * total x.d) = x.o * (m.y * total x.d) := Int.mul_left_comm _ _ _
  have e2 : (100 - x.o) * m.y * total x.d = 100 * (m.y * total x.d) - x.o * (m.y * total x.d) := by rw [Int.mul_assoc, Int.sub_mul]
  have e3 : fac m.y x = 100 * (m.y * total x.d) := by unfold fac; rw [Int.mul_assoc]
  rw [e3]
  rw [e1] at h1
  rw [e2] at h2
  omega

/-! ### Weights of a list of boundaries -/
def pE (xs : List Ev) (i : Nat) : Nat := (xs.getD i default).p.toNat
def spn (xs : List Ev) (g : Nat → Nat → Int) (b : List Nat) (i : Nat) : Int := sp (g i) (gN b (pE xs i)) (gN b (pE xs i + 1) + 1 - gN b (pE xs i))
def lw (xs : List Ev) (g : Nat → Nat → Int) (b : List Nat) (skip : Int) : Nat → Int
  | 0 => 1
  | i + 1 => if (i : Int) ≠ skip then lw xs g b skip i * spn xs g b i else lw xs g b skip i
/-- The weights of all events; of event k only the outlier part, if it is told. -/
def gE (m : Md) (xs : List Ev) (k : Int) (i : Nat) : Nat → Int := ew m (xs.getD i default) (decide ((i : Int) = k))
section
variable {m : Md} {xs : List Ev} {b : List Nat} {k : Int}
theorem b_in (hG : GoodM m xs) (hb : GoodB m.y.toNat (m.p.toNat + 1) b) {i : Nat} (hi : i < xs.length) : gN b (pE xs i) ≤ gN b (pE xs i + 1) ∧ gN b (pE xs i + 1) < m.y.toNat ∧ pE xs i + 1 < m.p.toNat + 1 ∧ (xs.getD i default).p = (pE xs i : Nat) := by
  obtain ⟨h1, h2, h3, h4, h5⟩ := hG
  obtain ⟨g1, _⟩ := h5 i hi
  have hp : pE xs i + 1 < m.p.toNat + 1 := by unfold pE; omega
  exact ⟨hb.mono _ hp, hb.lt _ hp, hp, by unfold pE; omega⟩
theorem spn_b (hG : GoodM m xs) (hb : GoodB m.y.toNat (m.p.toNat + 1) b) {i : Nat} (hi : i < xs.length) (k : Int) : 0 ≤ spn xs (gE m xs k) b i ∧ spn xs (gE m xs k) b i ≤ fac m.y (xs.getD i default) := by
  obtain ⟨a1, a2, _, _⟩ := b_in hG hb hi
  have hY := hG.1
  obtain ⟨g1, g2, g3, _⟩ := hG.2.2.2.2 i hi
  exact sp_fac hY.1 g2 g3 _ _ _ (by omega)
theorem lw_b (hG : GoodM m xs) (hb : GoodB m.y.toNat (m.p.toNat + 1) b) (k skip : Int) : ∀ i, i ≤ xs.length → 0 ≤ lw xs (gE m xs k) b skip i ∧ lw xs (gE m xs k) b skip i ≤ prE m.y xs i
  | 0, _ => by simp [lw, prE]
  | i + 1, hi => by
    obtain ⟨h1, h2⟩ := lw_b hG hb k skip i (by omega)
    have s := spn_b hG hb (i := i) (by omega) k
    have hpr := prE_b hG.1 i (fun j hj => hG.2.2.2.2 j (by omega))
    obtain ⟨g1, g2, g3, _⟩ := hG.2.2.2.2 i (by omega)
    have hf := fac_b (x := xs.getD i default) hG.1 g2
    rw [lw, prE]
    split
    · exact ⟨Int.mul_nonneg h1 s.1, Int.mul_le_mul h2 s.2 s.1 (by omega)⟩
    · refine ⟨h1, Int.le_trans h2 ?_⟩
      have : prE m.y xs i * 1 ≤ prE m.y xs i * fac m.y (xs.getD i default) := Int.mul_le_mul_of_nonneg_left (by omega) (by omega)
      omega
theorem lw_15 (hG : GoodM m xs) (hb : GoodB m.y.toNat (m.p.toNat + 1) b) (k skip : Int) {i : Nat} (hi : i ≤ xs.length) : 0 ≤ lw xs (gE m xs k) b skip i ∧ lw xs (gE m xs k) b skip i ≤ 1000000000000000 := by
  have h1 := lw_b hG hb k skip i hi
  have h2 := prE_b hG.1 i (fun j hj => hG.2.2.2.2 j (by omega))
  omega
theorem lw_skip {g h : Nat → Nat → Int} {s : Int} : ∀ i : Nat, (∀ j : Nat, j < i → (j : Int) ≠ s → g j = h j) → lw xs g b s i = lw xs h b s i
  | 0, _ => rfl
  | i + 1, H => by
    rw [lw, lw, lw_skip i (fun j hj => H j (by omega))]
    split
    · rename_i e
      unfold spn
      rw [H i (Nat.lt_succ_self i) e]
    · rfl
theorem lw_none {g : Nat → Nat → Int} {s s' : Int} : ∀ i : Nat, (∀ j : Nat, j < i → (j : Int) ≠ s) → (∀ j : Nat, j < i → (j : Int) ≠ s') → lw xs g b s i = lw xs g b s' i
  | 0, _, _ => rfl
  | i + 1, H, H' => by
    rw [lw, lw, lw_none i (fun j hj => H j (by omega)) (fun j hj => H' j (by omega)), if_pos (H i (by omega)), if_pos (H' i (by omega))]
/-- One event set aside. -/
theorem lw_one {g : Nat → Nat → Int} {e : Nat} : ∀ i, e < i → lw xs g b (-1) i = lw xs g b (e : Int) i * spn xs g b e
  | 0, h => absurd h (Nat.not_lt_zero _)
  | i + 1, h => by
    rw [lw, lw, if_pos (by omega)]
    by_cases q : e = i
    · subst q
      rw [if_neg (by simp), lw_none e (s := -1) (s' := (e : Int)) (fun j hj => by omega) (fun j hj => by omega)]
    · rw [if_pos (show (i : Int) ≠ (e : Int) by omega), lw_one (e := e) i (by omega), Int.mul_assoc, Int.mul_assoc, Int.mul_comm (spn xs g b e)]
/-- The others' weight, times all that the one may weigh. -/
theorem lw_fac (hG : GoodM m xs) (hb : GoodB m.y.toNat (m.p.toNat + 1) b) (k : Int) {e : Nat} (he : e < xs.length) : lw xs (gE m xs k) b (e : Int) xs.length * fac m.y (xs.getD e default) ≤ 1000000000000000 := by
  have key : ∀ i, e < i → i ≤ xs.length → lw xs (gE m xs k) b (e : Int) i * fac m.y (xs.getD e default) ≤ prE m.y xs i := by
    intro i
    induction i with
    | zero => intro h; exact absurd h (Nat.not_lt_zero _)
    | succ i ih =>
      intro h1 h2
      have hl := lw_b hG hb k (e : Int) i (by omega)
      have hf := fac_b (x := xs.getD e default) hG.1 (hG.2.2.2.2 e he).2.1
      have hpr := prE_b hG.1 i (fun j hj => hG.2.2.2.2 j (by omega))
      rw [lw, prE]
      by_cases q : e = i
      · subst q
        rw [if_neg (by simp)]
        exact Int.mul_le_mul_of_nonneg_right hl.2 (by omega)
      · rw [if_pos (show (i : Int) ≠ (e : Int) by omega)]
        have s := spn_b hG hb (i := i) (by omega) k
        have := ih (by omega) (by omega)
        rw [Int.mul_assoc, Int.mul_comm (spn _ _ _ _), ← Int.mul_assoc]
        exact Int.mul_le_mul this s.2 s.1 (by omega)
  have h1 := key xs.length he (Nat.le_refl _)
  have h2 := prE_b hG.1 xs.length (fun j hj => hG.2.2.2.2 j hj)
  omega
theorem gE_m1 {i : Nat} : gE m xs (-1) i = ew m (xs.getD i default) false := by
  unfold gE
  rw [decide_eq_false (by omega)]
end
end Go.Proofs.Ytnohaclnpbpjbaa.Dst
