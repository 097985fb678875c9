/- Chance of an outlier: bounds of the sums (plain). -/
import Derived.Test.YtnohaclnpbpjbaaPmI
namespace Go.Proofs.Ytnohaclnpbpjbaa.Dst
open Go Go.Proofs.Ytnohaclnpbpjbaa.Ab Go.Proofs.Ytnohaclnpbpjbaa.Il
set_option maxRecDepth 10000
set_option linter.unusedSimpArgs false
set_option linter.unusedVariables false
section
variable {m : Md} {xs : List Ev}
theorem fW_sp {e : Nat} (he : e < xs.length) (b : List Nat) : fW m xs (e : Int) b = lw xs (gE m xs (-1)) b (e : Int) xs.length * sp (ew m (xs.getD e default) true) (gN b (pE xs e)) (gN b (pE xs e + 1) + 1 - gN b (pE xs e)) := by
  unfold fW
  rw [lw_one (e := e) xs.length he, lw_skip (g := gE m xs (e : Int)) (h := gE m xs (-1)) (s := (e : Int)) xs.length (fun j _ hj => by
    rw [gE_m1, gE, decide_eq_false hj])]
  unfold spn
  rw [gE, decide_eq_true rfl]
theorem fW_sp1 {e : Nat} (he : e < xs.length) (b : List Nat) : fW m xs (-1) b = lw xs (gE m xs (-1)) b (e : Int) xs.length * sp (ew m (xs.getD e default) false) (gN b (pE xs e)) (gN b (pE xs e + 1) + 1 - gN b (pE xs e)) := by
  unfold fW
  rw [lw_one (e := e) xs.length he]
  unfold spn
  rw [gE_m1]
theorem fW_b (hG : GoodM m xs) {e : Nat} (he : e < xs.length) {b : List Nat} (hb : GoodB m.y.toNat (m.p.toNat + 1) b) : 0 ≤ fW m xs (e : Int) b ∧ fW m xs (e : Int) b ≤ fW m xs (-1) b ∧ fW m xs (-1) b ≤ 1000000000000000 := by
  have h1 := lw_15 hG hb (e : Int) (-1) (Nat.le_refl xs.length)
  have h2 := lw_15 hG hb (-1) (-1) (Nat.le_refl xs.length)
  have h3 := lw_15 hG hb (-1) (e : Int) (Nat.le_refl xs.length)
  obtain ⟨_, g2, g3, _⟩ := hG.2.2.2.2 e he
  refine ⟨h1.1, ?_, h2.2⟩
  rw [fW_sp he, fW_sp1 he]
  exact Int.mul_le_mul_of_nonneg_left (sp_mono (fun y => ew_le hG.1.1 g2 g3 y) _) h3.1
theorem tS_up {k : Int} {i : Nat} (h : i < (aL m).length) : tS m xs k (i + 1) = aW (fW m xs k) (tS m xs k i) ((aL m).getD i []) := by
  unfold tS
  rw [foldl_take _ _ _ h]
  simp [List.getD_eq_getElem?_getD, List.getElem?_eq_getElem h]
theorem tS_b (hG : GoodM m xs) {e : Nat} (he : e < xs.length) : ∀ i, i ≤ (aL m).length → 0 ≤ tS m xs (e : Int) i ∧ tS m xs (e : Int) i ≤ tS m xs (-1) i ∧ tS m xs (-1) i ≤ 1000000000000000 * i
  | 0, _ => by simp [tS]
  | i + 1, hi => by
    obtain ⟨a1, a2, a3⟩ := tS_b hG he i (by omega)
    have h8 := aL_len hG
    obtain ⟨f1, f2, f3⟩ := fW_b hG he (aL_good (m := m) (i := i) (by omega))
    rw [tS_up (by omega), tS_up (by omega)]
    unfold aW
    generalize fW m xs (e : Int) ((aL m).getD i []) = u at *
    generalize fW m xs (-1) ((aL m).getD i []) = v at *
    generalize tS m xs (e : Int) i = p at *
    generalize tS m xs (-1) i = q at *
    have hi8 : i < 8000 := by omega
    have e1 : IntKind.i64.wrap (p + u) = p + u := by rw [IntKind.wrap_i64]; omega
    have e2 : IntKind.i64.wrap (q + v) = q + v := by rw [IntKind.wrap_i64]; omega
    rw [e1, e2]
    omega
theorem tS_all (hG : GoodM m xs) {e : Nat} (he : e < xs.length) : 0 ≤ tS m xs (e : Int) (aL m).length ∧ tS m xs (e : Int) (aL m).length ≤ tS m xs (-1) (aL m).length ∧ tS m xs (-1) (aL m).length ≤ 8000000000000000000 := by
  obtain ⟨a1, a2, a3⟩ := tS_b hG he _ (Nat.le_refl _)
  have h8 := aL_len hG
  exact ⟨a1, a2, by omega⟩
end
end Go.Proofs.Ytnohaclnpbpjbaa.Dst
