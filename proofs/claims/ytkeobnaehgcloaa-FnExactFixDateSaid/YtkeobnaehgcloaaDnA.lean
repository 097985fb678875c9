/- Distributions in lists: shapes; what a record with distributions must be; weights of datings. -/
import Derived.Test.YtkeobnaehgcloaaNstA
import Derived.Test.YtkeobnaehgcloaaDwaA
import Derived.Test.YtkeobnaehgcloaaRecB
namespace Go.Proofs.Ytkeobnaehgcloaa.Dst
open Go Go.Proofs.Ytkeobnaehgcloaa.Ab Go.Proofs.Ytkeobnaehgcloaa.Il
set_option maxRecDepth 10000
set_option maxHeartbeats 8000000
set_option linter.unusedSimpArgs false
set_option linter.unusedVariables false

instance : Inhabited Ds := ⟨⟨0, []⟩⟩
structure Dn where
  b : Bool
  d : Ds
instance : Inhabited Dn := ⟨⟨false, default⟩⟩
def hD : Hol Dn where
  g := fun x v => [.int .i64 x.d.f, v]
  w := fun x => x.d.ws
  sh := fun n x v => rfl
  rn := fun π x v => rfl
  dr := fun H m x v => rfl
  mem := fun x v y hy => by
    simp only [List.mem_cons, List.not_mem_nil, or_false] at hy
    rcases hy with rfl | rfl
    · exact .inl rfl
    · exact .inr rfl
/-- An element of a list of distributions, by content. -/
def nD (x : Dn) : List AV := dRow x.b x.d
theorem cR_nD (xs : List Dn) : xs.map (cR hD true) = (xs.map fun x => Dn.mk true x.d).map nD := by rw [List.map_map]; rfl
def tD (xs : List Dn) : List Dn := xs.map fun x => ⟨true, x.d⟩
theorem tD_len (xs : List Dn) : (tD xs).length = xs.length := by simp [tD]
theorem tD_d (xs : List Dn) (i : Nat) : ((tD xs).getD i default).d = (xs.getD i default).d := by
  by_cases h : i < xs.length
  · simp [tD, List.getD_eq_getElem?_getD, List.getElem?_map, List.getElem?_eq_getElem h]
  · simp [tD, List.getD_eq_getElem?_getD, List.getElem?_map, List.getElem?_eq_none (by omega : xs.length ≤ i)]
theorem tD_tD (xs : List Dn) : tD (tD xs) = tD xs := by simp [tD]
theorem nD_get {xs : List Dn} {i : Nat} (h : i < xs.length) : (xs.map nD)[i]? = some (nD (xs.getD i default)) := by
  simp [List.getElem?_map, List.getElem?_eq_getElem h, List.getD_eq_getElem?_getD]
def LenN (xs : List Dn) (B : Nat) : Prop := ∀ i, i < xs.length → (xs.getD i default).d.ws.length ≤ B
theorem LenN.t {xs : List Dn} {B : Nat} (h : LenN xs B) : LenN (tD xs) B := fun i hi => by rw [tD_d]; exact h i (by rwa [tD_len] at hi)

/-! ### The size -/
def szN (xs : List Dn) (l : Int) : Nat → Int
  | 0 => l
  | i + 1 => szN xs l i - ((xs.getD i default).d.ws.length : Int)
theorem szN_le (xs : List Dn) (l : Int) : ∀ i, szN xs l i ≤ l
  | 0 => Int.le_refl _
  | i + 1 => by
    have := szN_le xs l i
    rw [szN]; omega
theorem szN_mono (xs : List Dn) (l : Int) (i : Nat) : ∀ d, szN xs l (i + d) ≤ szN xs l i
  | 0 => Int.le_refl _
  | d + 1 => by
    have := szN_mono xs l i d
    show szN xs l (i + d) - _ ≤ _
    omega
theorem szN_len {xs : List Dn} {l : Int} {n : Nat} (h : 0 ≤ szN xs l n) {i : Nat} (hi : i < n) : ((xs.getD i default).d.ws.length : Int) ≤ l := by
  have h1 := szN_mono xs l (i + 1) (n - (i + 1))
  rw [show i + 1 + (n - (i + 1)) = n by omega] at h1
  have h2 := szN_le xs l i
  rw [szN] at h1
  omega
def szD (l : Int) (xs : List Dn) : Int := if l - xs.length < 0 then -1 else if szN xs (l - xs.length) xs.length < 0 then -1 else szN xs (l - xs.length) xs.length
theorem szD_ok {xs : List Dn} {l : Int} (h : 0 ≤ szD l xs) : (xs.length : Int) ≤ l ∧ (∀ i, i < xs.length → ((xs.getD i default).d.ws.length : Int) ≤ l) ∧ szD l xs ≤ l := by
  unfold szD at h ⊢
  by_cases h1 : l - (xs.length : Int) < 0
  · rw [if_pos h1] at h; omega
  · rw [if_neg h1] at h ⊢
    by_cases h2 : szN xs (l - xs.length) xs.length < 0
    · rw [if_pos h2] at h; omega
    · rw [if_neg h2] at h ⊢
      have h3 := szN_le xs (l - xs.length) xs.length
      exact ⟨by omega, fun i hi => by have := szN_len h hi; omega, by omega⟩

/-! ### What must hold -/
def mny (xs : List Dn) : Nat → Int
  | 0 => 1
  | i + 1 => mny xs i * ((xs.getD i default).d.ws.length : Int)
def wgt (xs : List Dn) : Nat → Int
  | 0 => 1
  | i + 1 => wgt xs i * total (xs.getD i default).d
def okN (xs : List Dn) (i : Nat) : Prop := GoodD (xs.getD i default).d ∧ ¬ mny xs (i + 1) > 5000 ∧ ¬ wgt xs i > (1000000000000000 : Int).tdiv (total (xs.getD i default).d)
theorem sm_ge {ws : List Int} (h : ∀ j, j < ws.length → 0 ≤ ws.getD j default) : ∀ i, i ≤ ws.length → ∀ j, j < i → ws.getD j default ≤ sm ws i ∧ 0 ≤ sm ws i
  | 0, _, j, hj => absurd hj (Nat.not_lt_zero _)
  | i + 1, hi, j, hj => by
    have hi0 := h i (by omega)
    have h0 : 0 ≤ sm ws i := by
      cases i with
      | zero => exact Int.le_refl _
      | succ k => exact (sm_ge h (k + 1) (by omega) 0 (by omega)).2
    have e : sm ws (i + 1) = sm ws i + ws.getD i default := rfl
    refine ⟨?_, by omega⟩
    rcases Nat.lt_or_ge j i with g | g
    · have := (sm_ge h i (by omega) j g).1
      omega
    · obtain rfl : j = i := by omega
      omega
theorem GoodD.pos {d : Ds} (h : GoodD d) : 1 ≤ total d := by
  have h0 : 0 < d.ws.length := by have := h.1.1; omega
  have := (sm_ge (fun j hj => (h.2.2.2.1 j hj).1) d.ws.length (Nat.le_refl _) 0 h0).1
  have h2 := h.2.2.1.1
  unfold total; omega
theorem GoodD.at_le {d : Ds} (h : GoodD d) (y : Int) : atY d y ≤ total d := by
  unfold atY
  by_cases e : inD d y
  · rw [if_pos e]
    have e1 := e.1
    have e2 := e.2
    exact (sm_ge (fun j hj => (h.2.2.2.1 j hj).1) d.ws.length (Nat.le_refl _) (y - d.f).toNat (by omega)).1
  · rw [if_neg e]
    exact h.total_b.1
theorem le_tdiv {w t : Int} (ht : 1 ≤ t) (h0 : 0 ≤ w) (h : ¬ w > (1000000000000000 : Int).tdiv t) : w * t ≤ 1000000000000000 := by
  rw [Int.tdiv_eq_ediv_of_nonneg (by omega)] at h
  have h1 : w ≤ 1000000000000000 / t := Int.not_lt.1 h
  exact Int.le_trans (Int.mul_le_mul_of_nonneg_right h1 (by omega)) (Int.ediv_mul_le _ (by omega))
theorem okN_b {xs : List Dn} : ∀ i, (∀ j, j < i → okN xs j) → (1 ≤ mny xs i ∧ mny xs i ≤ 5000) ∧ 1 ≤ wgt xs i ∧ wgt xs i ≤ 1000000000000000
  | 0, _ => by simp [mny, wgt]
  | i + 1, h => by
    obtain ⟨⟨h1, h2⟩, h3, h4⟩ := okN_b i (fun j hj => h j (by omega))
    obtain ⟨g1, g2, g3⟩ := h i (by omega)
    have hl := g1.1.1
    have ht := g1.pos
    refine ⟨⟨?_, by omega⟩, ?_, ?_⟩
    · rw [mny]
      have hl2 : (1 : Int) ≤ ((xs.getD i default).d.ws.length : Int) := by omega
      have := Int.mul_le_mul h1 hl2 (by omega) (by omega)
      omega
    · rw [wgt]
      have := Int.mul_le_mul h3 ht (by omega) (by omega)
      omega
    · rw [wgt]
      exact le_tdiv ht (by omega) g3

/-! ### The weight of a dating -/
def prd (xs : List Dn) (ys : List Int) : Nat → Int
  | 0 => 1
  | i + 1 => prd xs ys i * atY (xs.getD i default).d (ys.getD i default)
theorem prd_b {xs : List Dn} {ys : List Int} : ∀ i, (∀ j, j < i → okN xs j) → 0 ≤ prd xs ys i ∧ prd xs ys i ≤ wgt xs i
  | 0, _ => by simp [prd, wgt]
  | i + 1, h => by
    obtain ⟨h1, h2⟩ := prd_b (ys := ys) i (fun j hj => h j (by omega))
    have g := (h i (by omega)).1
    have a1 := (g.at_b (ys.getD i default)).1
    have a2 := g.at_le (ys.getD i default)
    have hw := (okN_b i (fun j hj => h j (by omega))).2.1
    rw [prd, wgt]
    exact ⟨Int.mul_nonneg h1 a1, Int.mul_le_mul h2 a2 a1 (by omega)⟩
end Go.Proofs.Ytkeobnaehgcloaa.Dst
