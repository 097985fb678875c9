/- Arguments of a law as values by content, one lemma for each kind of type. -/
import Derived.Test.YteoonedddgiacaaAbV
import Derived.OpenShut
namespace Go.Proofs.Yteoonedddgiacaa.Ab
open Go Go.RowKit Go.WideShapes
set_option linter.unusedSimpArgs false
set_option linter.unusedVariables false

section
variable {H : Type} {enc : TypeId × Value → H} {P : Program} {W : World} {base : Nat} {sp : Nat → Bool} {held : Bool} {n : Nat} {t : TypeId} {v : Value} {d : DataW H} {p : List MemPlace}

theorem arg_int {k : IntKind} (ht : P.underlying t = some (.int k)) (hs : supp P n t = true) (hw : Value.okWide P W .any base t v) (h : DataW.Trod enc P W 0 sp held t v d p) : ∃ x, V (cxW W) (.int k x) v ∧ (Lit.int k x).wf = true := by
  obtain ⟨row, g1, _, g3⟩ := arg_V hs h
  obtain ⟨m, rfl⟩ := okWide_int ht hw
  cases n with
  | zero => exact g3.elim
  | succ n =>
    unfold TY at g3
    rw [ht] at g3
    obtain ⟨x, rfl, g4⟩ := g3
    refine ⟨m, rfl, ?_⟩
    simp only [Value.cells] at g1
    obtain ⟨u, us, e1, e2, e3⟩ := g1
    simp at e1
    obtain ⟨rfl, rfl⟩ := e1
    cases e2
    exact g4
theorem arg_bool (ht : P.underlying t = some .bool) (hw : Value.okWide P W .any base t v) : ∃ x, V (cxW W) (.bool x) v := by
  obtain ⟨b, rfl⟩ := okWide_bool ht hw
  exact ⟨b, rfl⟩
theorem arg_str (ht : P.underlying t = some .string) (hs : supp P n t = true) (hw : Value.okWide P W .any base t v) (h : DataW.Trod enc P W 0 sp held t v d p) : ∃ x, V (cxW W) (.str x) v ∧ x.size ≤ Go.maxLen := by
  obtain ⟨row, g1, _, g3⟩ := arg_V hs h
  obtain ⟨m, rfl⟩ := okWide_string ht hw
  cases n with
  | zero => exact g3.elim
  | succ n =>
    unfold TY at g3
    rw [ht] at g3
    obtain ⟨x, rfl, g4⟩ := g3
    refine ⟨m, rfl, ?_⟩
    simp only [Value.cells] at g1
    obtain ⟨u, us, e1, e2, e3⟩ := g1
    simp at e1
    obtain ⟨rfl, rfl⟩ := e1
    cases e2
    exact g4
theorem arg_sl {e : TypeId} (ht : P.underlying t = some (.slice e)) (hs : supp P (n + 1) t = true) (hw : Value.okWide P W .any base t v) (h : DataW.Trod enc P W 0 sp held t v d p) :
    ∃ nn es, V (cxW W) (.vw nn es) v ∧ es.length ≤ Go.maxLen ∧ ∀ r ∈ es, TY P n e r := by
  obtain ⟨row, g1, _, g3⟩ := arg_V hs h
  obtain ⟨a, len, cap, rfl⟩ := okWide_slice ht hw
  unfold TY at g3
  rw [ht] at g3
  obtain ⟨nn, es, rfl, g4, g5⟩ := g3
  refine ⟨nn, es, ?_, g4, g5⟩
  simp only [Value.cells] at g1
  obtain ⟨u, us, e1, e2, e3⟩ := g1
  simp at e1
  obtain ⟨rfl, rfl⟩ := e1
  exact e2
theorem arg_st {fs : Array Field} (ht : P.underlying t = some (.struct fs)) (hs : supp P (n + 1) t = true) (hw : Value.okWide P W .any base t v) (h : DataW.Trod enc P W 0 sp held t v d p) :
    ∃ row, V (cxW W) (.agg row) v ∧ TYs (TY P n) fs.toList row := by
  obtain ⟨row, g1, g2, g3⟩ := arg_V hs h
  simp only [Value.okWide, ht] at hw
  obtain ⟨cs, rfl, _, _⟩ := hw
  unfold TY at g3
  rw [ht] at g3
  simp only [Value.cells] at g1 g2
  exact ⟨row, ⟨cs, rfl, g1, g2⟩, g3⟩
theorem VL_1 {c : Cx} {x : AV} {v : Value} (h : V c x v) : VL c [x] #[v].toList := ⟨v, [], rfl, h, rfl⟩
theorem VL_2 {c : Cx} {x y : AV} {v u : Value} (h : V c x v) (h2 : V c y u) : VL c [x, y] #[v, u].toList := ⟨v, [u], rfl, h, u, [], rfl, h2, rfl⟩
theorem VL_3 {c : Cx} {x y z : AV} {v u w : Value} (h : V c x v) (h2 : V c y u) (h3 : V c z w) : VL c [x, y, z] #[v, u, w].toList := ⟨v, [u, w], rfl, h, u, [w], rfl, h2, w, [], rfl, h3, rfl⟩
theorem VL_4 {c : Cx} {x y z a : AV} {v u w b : Value} (h : V c x v) (h2 : V c y u) (h3 : V c z w) (h4 : V c a b) : VL c [x, y, z, a] #[v, u, w, b].toList := ⟨v, [u, w, b], rfl, h, u, [w, b], rfl, h2, w, [b], rfl, h3, b, [], rfl, h4, rfl⟩
end
end Go.Proofs.Yteoonedddgiacaa.Ab
