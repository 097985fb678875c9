/- Lists without an element; numbers put into ascending numbers (plain). -/
import Derived.Test.YteoonedddgiacaaIntA
namespace Go.Proofs.Yteoonedddgiacaa.Rec
open Go Go.Proofs.Yteoonedddgiacaa.Ab Go.Proofs.Yteoonedddgiacaa.Il
set_option maxRecDepth 10000
set_option linter.unusedSimpArgs false
set_option linter.unusedVariables false

/-- Without element k. -/
def del {α : Type} (es : List α) (k : Nat) : List α := es.take k ++ es.drop (k + 1)
theorem del_len {α : Type} {es : List α} {k : Nat} (h : k < es.length) : (del es k).length = es.length - 1 := by simp [del]; omega
theorem del_get {α : Type} [Inhabited α] {es : List α} {k : Nat} (h : k < es.length) (j : Nat) : (del es k).getD j default = if j < k then es.getD j default else es.getD (j + 1) default := by
  unfold del
  rw [List.getD_eq_getElem?_getD, List.getElem?_append]
  have hl : (es.take k).length = k := by simp; omega
  rw [hl]
  split
  · rename_i hj
    rw [List.getElem?_take, if_pos hj, ← List.getD_eq_getElem?_getD]
  · rename_i hj
    rw [List.getElem?_drop, show k + 1 + (j - k) = j + 1 by omega, ← List.getD_eq_getElem?_getD]
/-! ### Putting into ascending numbers -/
def lowI (s : Int) : List Int → Nat
  | [] => 0
  | a :: l => if a < s then lowI s l + 1 else 0
theorem lowI_le (s : Int) : ∀ T, lowI s T ≤ T.length
  | [] => Nat.le_refl _
  | a :: l => by
    have := lowI_le s l
    rw [lowI, List.length_cons]; split <;> omega
theorem lowI_lt (s : Int) : ∀ (T : List Int) (j : Nat), j < lowI s T → T.getD j default < s
  | [], j, h => absurd h (Nat.not_lt_zero _)
  | a :: l, j, h => by
    rw [lowI] at h
    split at h
    · rename_i ha
      cases j with
      | zero => exact ha
      | succ j => exact lowI_lt s l j (by omega)
    · omega
theorem lowI_at (s : Int) : ∀ (T : List Int), lowI s T < T.length → ¬ T.getD (lowI s T) default < s
  | [], h => absurd h (Nat.not_lt_zero _)
  | a :: l, h => by
    by_cases ha : a < s
    · have e : lowI s (a :: l) = lowI s l + 1 := by rw [lowI, if_pos ha]
      rw [e] at h ⊢
      exact lowI_at s l (by simpa using h)
    · have e : lowI s (a :: l) = 0 := by rw [lowI, if_neg ha]
      rw [e]; exact ha
theorem lowI_eq {s : Int} {T : List Int} {i : Nat} (h1 : i ≤ T.length) (h2 : ∀ j, j < i → T.getD j default < s) (h3 : i < T.length → ¬ T.getD i default < s) : i = lowI s T := by
  rcases Nat.lt_trichotomy i (lowI s T) with h | h | h
  · exact absurd (lowI_lt s T i h) (h3 (Nat.lt_of_lt_of_le h (lowI_le s T)))
  · exact h
  · exact absurd (h2 _ h) (lowI_at s T (by omega))
def isII (T : List Int) (s : Int) : Prop := lowI s T < T.length ∧ T.getD (lowI s T) default = s
instance (T : List Int) (s : Int) : Decidable (isII T s) := inferInstanceAs (Decidable (_ ∧ _))
def putI (T : List Int) (s : Int) : List Int := if isII T s then T else T.take (lowI s T) ++ [s] ++ T.drop (lowI s T)
theorem putI_y {T : List Int} {s : Int} (h : isII T s) : putI T s = T := if_pos h
theorem putI_n {T : List Int} {s : Int} (h : ¬ isII T s) : putI T s = T.take (lowI s T) ++ [s] ++ T.drop (lowI s T) := if_neg h
theorem getD_memI {l : List Int} {i : Nat} (h : i < l.length) : l.getD i default ∈ l := by
  rw [List.getD_eq_getElem?_getD, List.getElem?_eq_getElem h]; exact List.getElem_mem h
theorem lowI_all {T : List Int} {s : Int} (h : ∀ x ∈ T, x < s) : lowI s T = T.length :=
  (lowI_eq (Nat.le_refl _) (fun j hj => h _ (getD_memI hj)) (fun h => absurd h (Nat.lt_irrefl _))).symm
theorem putI_app {T : List Int} {s : Int} (h : ∀ x ∈ T, x < s) : putI T s = T ++ [s] := by
  have e := lowI_all h
  rw [putI_n (fun h2 => by have := h2.1; omega), e]
  simp
theorem putI_in {T : List Int} {s : Int} (h : ∀ x ∈ T, x < s) : putI (T ++ [s]) s = T ++ [s] := by
  have e : lowI s (T ++ [s]) = T.length := (lowI_eq (by simp) (fun j hj => by
    rw [List.getD_eq_getElem?_getD, List.getElem?_append_left hj, ← List.getD_eq_getElem?_getD]
    exact h _ (getD_memI hj)) (fun _ => by simp [List.getD_eq_getElem?_getD])).symm
  exact putI_y ⟨by rw [e]; simp, by rw [e]; simp [List.getD_eq_getElem?_getD]⟩
end Go.Proofs.Yteoonedddgiacaa.Rec
