/- The mean of measurements: both sides give what 'mean' says, for every list of at most 1048576 measurements. -/
import Derived.Test.YtkbgadipkihifaaMsrC
namespace Go.Proofs.Ytkbgadipkihifaa.Msr
open Go Go.Proofs.Ytkbgadipkihifaa.Ab
attribute [local irreducible] wpO wpC wpDr wpQ wpG stepA seqQ blkQ Ret ev
set_option maxRecDepth 10000
set_option linter.unusedSimpArgs false
set_option linter.unusedVariables false

def wgt (p : Ms) : Int := (1000000 + p.e * p.e - 1).tdiv (p.e * p.e)
def sumA (xs : List Ms) : Nat → Int
  | 0 => 0
  | i + 1 => sumA xs i + (xs.getD i default).a * wgt (xs.getD i default)
def sumW (xs : List Ms) : Nat → Int
  | 0 => 0
  | i + 1 => sumW xs i + wgt (xs.getD i default)
def er (all : Int) : Nat → Int → Int
  | 0, e => e
  | n + 1, e => if e * e * all < 1000000 then er all n (e + 1) else e

theorem sq_ok {p : Ms} (h : okM p) : 1 ≤ p.e * p.e ∧ p.e * p.e ≤ 1000000 := by
  obtain ⟨_, h1, h2⟩ := h
  constructor
  · have := Int.mul_le_mul h1 h1 (by omega) (by omega); omega
  · have := Int.mul_le_mul h2 h2 (by omega) (by omega); omega
theorem wgt_ok {p : Ms} (h : okM p) : 1 ≤ wgt p ∧ wgt p ≤ 1000000 := by
  obtain ⟨h1, h2⟩ := sq_ok h
  unfold wgt
  rw [Int.tdiv_eq_ediv_of_nonneg (by omega)]
  constructor
  · exact (Int.le_ediv_iff_mul_le (by omega)).2 (by omega)
  · refine Int.le_of_lt_add_one (Int.ediv_lt_of_lt_mul (by omega) ?_)
    have := Int.mul_le_mul_of_nonneg_left h1 (show (0 : Int) ≤ 1000000 by omega)
    omega
theorem prod_ok {p : Ms} (h : okM p) : 0 ≤ p.a * wgt p ∧ p.a * wgt p ≤ 60000000000 := by
  obtain ⟨h1, h2⟩ := wgt_ok h
  obtain ⟨⟨h3, h4⟩, _⟩ := h
  refine ⟨Int.mul_nonneg h3 (by omega), ?_⟩
  have := Int.mul_le_mul h4 h2 (by omega) (by omega)
  omega
theorem sums_ok (xs : List Ms) (hA : ∀ j, j < xs.length → okM (xs.getD j default)) : ∀ i, i ≤ xs.length → (i : Int) ≤ sumW xs i ∧ sumW xs i ≤ 1000000 * i ∧ 0 ≤ sumA xs i ∧ sumA xs i ≤ 60000000000 * i
  | 0, _ => by simp [sumW, sumA]
  | i + 1, h => by
    obtain ⟨h1, h2, h3, h4⟩ := sums_ok xs hA i (by omega)
    have h5 := wgt_ok (hA i (by omega))
    have h6 := prod_ok (hA i (by omega))
    simp only [sumW, sumA]
    omega
end Go.Proofs.Ytkbgadipkihifaa.Msr
