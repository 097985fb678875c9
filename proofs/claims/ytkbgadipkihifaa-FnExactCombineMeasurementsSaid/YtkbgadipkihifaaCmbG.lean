/- 'laws.FnExactCombineMeasurements' returns true for every input, and the input reads behind the call as it read before. No condition. -/
import Derived.Test.YtkbgadipkihifaaRows
import Derived.Test.YtkbgadipkihifaaCmbD
import Derived.Test.YtkbgadipkihifaaAbU
import Derived.ProofKit
import Derived.OpenShut
import Derived.ChangeOld
import Derived.SizedLaws
namespace Go.Proofs.Ytkbgadipkihifaa.Msr
open Go.ChangeShapes Go.WideShapes Go.ChangeAt Go.RowKit Go.Proofs.Ytkbgadipkihifaa.Ab
set_option linter.unusedVariables false

theorem own : ownKnob Try.prog.godebug = none := by kernel_rfl
theorem laidOut : laidOutB Try.prog = true := by kernel_rfl

theorem ty_point {row : List AV} (h : TY Try.prog 2 63 row) : ∃ p : Ms, row = msRow p := by
  simp only [TY, Try.underlying63, Try.underlying3, TYs] at h
  obtain ⟨_, _, rfl, ⟨a, rfl, _⟩, _, _, rfl, ⟨e, rfl, _⟩, rfl⟩ := h
  exact ⟨⟨a, e⟩, rfl⟩
theorem ty_curve {row : List AV} (h : TY Try.prog 3 29 row) : ∃ (nn : Bool) (xs : List Ms), row = [.vw nn (xs.map msRow)] ∧ xs.length ≤ Go.maxLen := by
  unfold TY at h
  rw [Try.underlying29] at h
  obtain ⟨nn, es, rfl, h1, h2⟩ := h
  obtain ⟨xs, rfl⟩ := rows_of es (fun r hr => ty_point (h2 r hr))
  exact ⟨nn, xs, rfl, by simpa using h1⟩

set_option maxRecDepth 100000 in
theorem combineMeasurements_lifted (os : Os) (started : os.Started) (H : Type) (enc : TypeId × Value → H) :
    ReturnsInHanded {} Try.checked os 4 .any (Rows.fnExactCombineMeasurementsSpec.pre6 enc Try.prog Try.f4 Rows.fnExactCombineMeasurementsRow.domain false) (Rows.fnExactCombineMeasurementsSpec.post enc Try.prog Try.f4 false true false false) := by
  refine returnsInHanded_of_change_sized (C := Try.checked) own started (by kernel_rfl) Try.func4
    (ChangeSpec.witness6 (enc := enc) (C := Try.checked) false ⟨#[], #[.slice none 0 0], []⟩ 8 (by kernel_rfl) (by kernel_rfl) (by kernel_rfl) (by kernel_rfl)) ?_
  intro W base args ds gs before hval0 hW hcnd hsz0 _
  have hval : ∀ (j : Nat) t v, Try.f4.params[j]? = some t → args[j]? = some v → Value.okWide Try.prog W .any base t v := hval0
  have hW' := hW
  obtain ⟨p, q, hA0, hV, rfl, hfz, hnd⟩ := hW
  have hA : DataW.TrodAll enc Try.prog W 0 (fun _ => true) true Try.f4.params.toList args.toList ds p := hA0
  rw [Try.params4] at hA hval
  obtain ⟨v0, vs0, d0, ds0, p0, q0, hargs, rfl, rfl, h0, r0⟩ := trodAll_cons hA
  obtain ⟨rfl, rfl, rfl⟩ := trodAll_nil r0
  obtain rfl : args = #[v0] := by cases args; simp_all
  obtain ⟨rfl, rfl⟩ := trodVars_none hV
  obtain ⟨a0, len0, cap0, rfl⟩ := okWide_slice Try.underlying29 (hval 0 29 v0 rfl rfl)
  have lt0 : ∀ x ∈ p0, x.block < W.heap.size := by obtain ⟨m, hm⟩ := h0; exact DataW.trod_lt m _ _ _ hm
  obtain ⟨row, g1, _, g3⟩ := arg_V (n := 3) (by kernel_rfl) h0
  obtain ⟨nn, xs, rfl, hlen⟩ := ty_curve g3
  clear hA0 hval0 hsz0
  refine (con_true (con4 nn xs (by simpa [Go.maxLen] using hlen)) (W := W) (cargs := #[.slice a0 len0 cap0]) (by simpa [Value.cells] using g1)).mono fun e W' ⟨he, bel⟩ => ?_
  subst he
  exact ⟨_, rfl, _, _, _, [], _, [], hW', trodAll_mk1 (shut_bool Try.underlying4 _), (trodAll_cons_mk (Below.trod laidOut (by kernel_rfl) (of_decide_eq_true (by kernel_rfl)) h0 bel lt0) trodAll_mk0), rfl, bel.frame _, fun h => by cases h⟩

theorem combineMeasurements_holds : Rows.FnExactCombineMeasurementsSaid :=
  OpenClaim.holds_of_wide 4 Try.f4 rfl rfl rfl rfl rfl rfl rfl ⟨rfl, rfl, rfl, rfl, rfl⟩ rfl rfl rfl rfl rfl (by kernel_rfl) Try.func4 (by kernel_rfl)
    (of_decide_eq_true (by kernel_rfl)) (by unfold Func.isWrapper; first | (rw [if_pos (by decide +kernel)]; kernel_rfl) | (rw [if_neg (by decide +kernel)]; exact ⟨rfl, rfl⟩))
    (fun os started H enc _ => combineMeasurements_lifted os started H enc)
#print axioms combineMeasurements_holds
end Go.Proofs.Ytkbgadipkihifaa.Msr
