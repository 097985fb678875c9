/- Placing a row of samples: products of weights (plain). -/
import Derived.Test.YtkkcplcgafndgaaCalB
import Derived.Test.YtkkcplcgafndgaaDwaA
namespace Go.Proofs.Ytkkcplcgafndgaa.Cal
open Go Go.Proofs.Ytkkcplcgafndgaa Go.Proofs.Ytkkcplcgafndgaa.Ab Go.Proofs.Ytkkcplcgafndgaa.Il Go.Proofs.Ytkkcplcgafndgaa.Msr Go.Proofs.Ytkkcplcgafndgaa.Dst
set_option maxRecDepth 10000
set_option linter.unusedSimpArgs false
set_option linter.unusedVariables false

theorem rnd_b2 {n d : Int} (h1 : -50000 ≤ n) (h2 : n ≤ 50000) (h3 : 1 ≤ d) (h4 : d ≤ 1000) : -101000 ≤ rnd n d ∧ rnd n d ≤ 101000 := by
  unfold rnd
  split
  · have := tdiv_b (a := -2 * n + d) (b := 2 * d) (m := 101000) (by omega) (by omega) (by omega)
    omega
  · have := tdiv_b (a := 2 * n + d) (b := 2 * d) (m := 101000) (by omega) (by omega) (by omega)
    omega
theorem err_b2 {xs : List CP} {year : Int} (hG : Good xs) (hy : inYears xs year) : errAt xs year ≤ 110000 := by
  obtain ⟨i1, i2, i3, i4⟩ := ix_ok hG hy
  unfold errAt
  generalize ix xs year = i at *
  have g1 := hG.at i2
  have g0 := hG.at (i := i - 1) (by omega)
  have gg := hG.gap i2 (by omega)
  have b2 := mul_b (a := (xs.getD i default).e - (xs.getD (i - 1) default).e) (b := year - yr xs (i - 1)) (A := 1000) (B := 50) (by omega) (by omega) (by omega) (by omega)
  have r2 := rnd_b2 (n := ((xs.getD i default).e - (xs.getD (i - 1) default).e) * (year - yr xs (i - 1))) (d := yr xs i - yr xs (i - 1)) (by omega) (by omega) (by omega) (by omega)
  omega
theorem wgt_b2 {xs : List CP} {m : Ms} (hG : Good xs) (hm : okM m) (year : Int) : 0 ≤ wgt xs m year ∧ wgt xs m year ≤ 1000000 := by
  unfold wgt
  split
  · rename_i hy
    have h := err_b2 hG hy
    have h2 := hm.2
    omega
  · decide
/-- The product of the first weights. -/
def pw (xs : List CP) (ms : List Ms) (gs : List Int) (y : Int) : Nat → Int
  | 0 => 1
  | i + 1 => pw xs ms gs y i * wgt xs (ms.getD i default) (y + sm gs i)
/-- No product on the way is too great. -/
def okY (xs : List CP) (ms : List Ms) (gs : List Int) (y : Int) : Prop := ∀ j, j ≤ ms.length → pw xs ms gs y j ≤ 1000000000000
open Classical in
noncomputable def wY (xs : List CP) (ms : List Ms) (gs : List Int) (y : Int) : Int := if okY xs ms gs y then pw xs ms gs y ms.length else 0
theorem pw_nn {xs : List CP} {ms : List Ms} {gs : List Int} {y : Int} (hG : Good xs) (hm : ∀ j, j < ms.length → okM (ms.getD j default)) : ∀ i, i ≤ ms.length → 0 ≤ pw xs ms gs y i
  | 0, _ => by simp [pw]
  | i + 1, hi => Int.mul_nonneg (pw_nn hG hm i (by omega)) (wgt_b2 hG (hm i (by omega)) _).1
theorem pw_b {xs : List CP} {ms : List Ms} {gs : List Int} {y : Int} (hG : Good xs) (hm : ∀ j, j < ms.length → okM (ms.getD j default)) {i : Nat} (hi : i < ms.length) (h : pw xs ms gs y i ≤ 1000000000000) : 0 ≤ pw xs ms gs y i * wgt xs (ms.getD i default) (y + sm gs i) ∧ pw xs ms gs y i * wgt xs (ms.getD i default) (y + sm gs i) ≤ 1000000000000000000 := by
  have h1 := pw_nn (gs := gs) (y := y) hG hm i (by omega)
  have h2 := wgt_b2 hG (hm i hi) (y + sm gs i)
  exact ⟨Int.mul_nonneg h1 h2.1, Int.le_trans (Int.mul_le_mul h h2.2 h2.1 (by decide)) (by decide)⟩
theorem wY_b {xs : List CP} {ms : List Ms} {gs : List Int} (hG : Good xs) (hm : ∀ j, j < ms.length → okM (ms.getD j default)) (y : Int) : 0 ≤ wY xs ms gs y ∧ wY xs ms gs y ≤ 1000000000000 := by
  classical
  unfold wY
  split
  · rename_i h
    exact ⟨pw_nn hG hm _ (Nat.le_refl _), h _ (Nat.le_refl _)⟩
  · decide
theorem sm_tk (gs : List Int) {i : Nat} (h : i ≤ gs.length) : ∀ k, k ≤ i → sm (gs.take i) k = sm gs k
  | 0, _ => rfl
  | k + 1, hk => by
    rw [sm, sm, sm_tk gs h k (by omega)]
    congr 1
    simp [List.getD_eq_getElem?_getD, List.getElem?_take, show k < i by omega]
end Go.Proofs.Ytkkcplcgafndgaa.Cal
