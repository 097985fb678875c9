/- Reduced weights: what a distribution is made of, as plain facts. -/
import Derived.Test.YtkkcplcgafndgaaDwaA
import Derived.Test.YtkkcplcgafndgaaAb1
namespace Go.Proofs.Ytkkcplcgafndgaa.Dst
open Go Go.Proofs.Ytkkcplcgafndgaa.Ab Go.Proofs.Ytkkcplcgafndgaa.Il
set_option linter.unusedSimpArgs false
set_option linter.unusedVariables false

abbrev at' (ws : List Int) (i : Nat) : Int := ws.getD i default
/-- From where to where the weights stand. -/
structure Trim (ws : List Int) (fr to : Nat) : Prop where
  le : fr ≤ to
  lt : to ≤ ws.length
  lo : ∀ j, j < fr → at' ws j = 0
  hi : ∀ j, to ≤ j → j < ws.length → at' ws j = 0
  ends : (fr < to ∧ at' ws fr ≠ 0 ∧ at' ws (to - 1) ≠ 0) ∨ (fr = ws.length ∧ to = ws.length)

theorem least {p : Nat → Prop} : ∀ n, p n → ∃ m, p m ∧ m ≤ n ∧ ∀ k, k < m → ¬ p k := by
  intro n
  induction n using Nat.strongRecOn with
  | _ n ih =>
    intro hn
    by_cases h : ∃ k, k < n ∧ p k
    · obtain ⟨k, h1, h2⟩ := h
      obtain ⟨m, h3, h4, h5⟩ := ih k h1 h2
      exact ⟨m, h3, by omega, h5⟩
    · exact ⟨n, hn, Nat.le_refl _, fun k hk hp => h ⟨k, hk, hp⟩⟩
theorem trim_ex (ws : List Int) : ∃ fr to, Trim ws fr to := by
  by_cases hz : ∃ j, j < ws.length ∧ at' ws j ≠ 0
  · obtain ⟨j, hj, hn⟩ := hz
    obtain ⟨fr, ⟨a1, a2⟩, a3, a4⟩ := least (p := fun i => i < ws.length ∧ at' ws i ≠ 0) j ⟨hj, hn⟩
    obtain ⟨q, ⟨b1, b2⟩, b3, b4⟩ := least (p := fun i => i < ws.length ∧ at' ws (ws.length - 1 - i) ≠ 0) (ws.length - 1 - j) ⟨by omega, by rw [show ws.length - 1 - (ws.length - 1 - j) = j by omega]; exact hn⟩
    have hle : fr ≤ ws.length - 1 - q := by
      rcases Nat.lt_or_ge (ws.length - 1 - q) fr with h | h
      · exact absurd ⟨by omega, b2⟩ (a4 _ h)
      · exact h
    refine ⟨fr, ws.length - q, ⟨by omega, by omega, fun j hj => ?_, fun j h1 h2 => ?_, .inl ⟨by omega, a2, ?_⟩⟩⟩
    · refine Classical.byContradiction fun h => a4 j hj ⟨by omega, h⟩
    · refine Classical.byContradiction fun h => b4 (ws.length - 1 - j) (by omega) ⟨by omega, ?_⟩
      rw [show ws.length - 1 - (ws.length - 1 - j) = j by omega]; exact h
    · rw [show ws.length - q - 1 = ws.length - 1 - q by omega]; exact b2
  · have hz' : ∀ j, j < ws.length → at' ws j = 0 := fun j hj => Classical.byContradiction fun h => hz ⟨j, hj, h⟩
    exact ⟨ws.length, ws.length, ⟨Nat.le_refl _, Nat.le_refl _, hz', fun j h1 h2 => by omega, .inr ⟨rfl, rfl⟩⟩⟩

theorem gd_zero {ws : List Int} {a : Nat} : ∀ b, a ≤ b → (∀ j, a ≤ j → j < b → at' ws j = 0) → gd ws b = gd ws a
  | 0, h, _ => by rw [show a = 0 by omega]
  | b + 1, h, hz => by
    rcases Nat.lt_or_ge a (b + 1) with h1 | h1
    · have ih := gd_zero b (by omega) (fun j h2 h3 => hz j h2 (by omega))
      simp only [gd]
      have := hz b (by omega) (by omega)
      unfold at' at this
      rw [this, ih, Int.gcd_zero_right]
      simp
    · rw [show a = b + 1 by omega]
theorem gd_eq0 {ws : List Int} : ∀ i, gd ws i = 0 → ∀ j, j < i → at' ws j = 0
  | 0, _, j, h => absurd h (Nat.not_lt_zero _)
  | i + 1, hg, j, h => by
    simp only [gd] at hg
    rw [Int.gcd_eq_zero_iff] at hg
    rcases Nat.lt_or_ge j i with h1 | h1
    · exact gd_eq0 i (by omega) j h1
    · rw [show j = i by omega]; exact hg.2
theorem Trim.gd0 {ws : List Int} {fr to : Nat} (h : Trim ws fr to) : gd ws fr = 0 := by
  have := gd_zero (ws := ws) (a := 0) fr (Nat.zero_le _) (fun j _ hj => h.lo j hj)
  exact this
theorem Trim.gdE {ws : List Int} {fr to : Nat} (h : Trim ws fr to) : gd ws to = gd ws ws.length := (gd_zero ws.length h.lt (fun j h1 h2 => h.hi j h1 h2)).symm
theorem Trim.none {ws : List Int} {fr to : Nat} (h : Trim ws fr to) : gd ws ws.length = 0 ↔ fr = to := by
  constructor
  · intro hg
    rcases h.ends with ⟨h1, h2, _⟩ | ⟨h1, h2⟩
    · exact absurd (gd_eq0 _ hg fr (by have := h.lt; omega)) h2
    · omega
  · intro he
    rw [← h.gdE, ← he]; exact h.gd0

/-- The weights, divided by their divisor. -/
def ow (ws : List Int) (g : Int) (fr : Nat) : Nat → List Int
  | 0 => []
  | k + 1 => ow ws g fr k ++ [(at' ws (fr + k)).tdiv g]
theorem ow_len (ws : List Int) (g : Int) (fr : Nat) : ∀ k, (ow ws g fr k).length = k
  | 0 => rfl
  | k + 1 => by simp [ow, ow_len ws g fr k]
noncomputable def trF (ws : List Int) : Nat := Classical.choose (trim_ex ws)
noncomputable def trT (ws : List Int) : Nat := Classical.choose (Classical.choose_spec (trim_ex ws))
theorem tr (ws : List Int) : Trim ws (trF ws) (trT ws) := Classical.choose_spec (Classical.choose_spec (trim_ex ws))
noncomputable def mkO (first : Int) (ws : List Int) : Ds := ⟨first + trF ws, ow ws (gd ws ws.length : Int) (trF ws) (trT ws - trF ws)⟩
/-- Whether a distribution comes of these weights. -/
def mkOK (first : Int) (ws : List Int) : Prop := gd ws ws.length ≠ 0 ∧ GoodD (mkO first ws)
theorem quo_b {x g B : Int} (h0 : 0 ≤ x) (h1 : x ≤ B) (hg : 1 ≤ g) : 0 ≤ x.tdiv g ∧ x.tdiv g ≤ B := by
  rw [Int.tdiv_eq_ediv_of_nonneg h0]
  exact ⟨Int.ediv_nonneg h0 (by omega), Int.le_trans (Int.ediv_le_self g h0) h1⟩
end Go.Proofs.Ytkkcplcgafndgaa.Dst
