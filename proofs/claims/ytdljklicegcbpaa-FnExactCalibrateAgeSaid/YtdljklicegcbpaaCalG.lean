/- 'laws.FnExactCalibrateAge' returns true for every input, and the input reads behind the call as it read before. No condition. -/
import Derived.Test.YtdljklicegcbpaaRows
import Derived.Test.YtdljklicegcbpaaCalC
import Derived.ProofKit
import Derived.OpenShut
import Derived.ChangeOld
import Derived.SizedLaws
namespace Go.Proofs.Ytdljklicegcbpaa.CalG
open Go.ChangeShapes Go.WideShapes Go.ChangeAt Go.RowKit Go.Proofs.Ytdljklicegcbpaa Go.Proofs.Ytdljklicegcbpaa.Ab Go.Proofs.Ytdljklicegcbpaa.Msr
set_option linter.unusedVariables false

theorem own : ownKnob Try.prog.godebug = none := by kernel_rfl
theorem laidOut : laidOutB Try.prog = true := by kernel_rfl

theorem ty_point {row : List AV} (h : TY Try.prog 5 87 row) : ∃ p : CP, row = cpRow p := by
  simp only [TY, Try.underlying87, Try.underlying3, TYs] at h
  obtain ⟨_, _, rfl, ⟨y, rfl, _⟩, _, _, rfl, ⟨a, rfl, _⟩, _, _, rfl, ⟨e, rfl, _⟩, rfl⟩ := h
  exact ⟨⟨y, a, e⟩, rfl⟩
theorem ty_meas {row : List AV} {n : Nat} {fs : Array Field} (hf : Try.prog.underlying 53 = some (.struct fs)) (h : TYs (TY Try.prog (n + 1)) fs.toList row) : ∃ m : Ms, row = msRow m := by
  rw [Try.underlying53] at hf
  cases hf
  simp only [TYs, TY, Try.underlying3] at h
  obtain ⟨r1, r2, rfl, ⟨a, rfl, _⟩, r3, r4, rfl, ⟨e, rfl, _⟩, rfl⟩ := h
  exact ⟨⟨a, e⟩, rfl⟩
set_option maxRecDepth 100000 in
theorem calibrateAge_lifted (os : Os) (started : os.Started) (H : Type) (enc : TypeId × Value → H) :
    ReturnsInHanded {} Try.checked os 14 .any (Rows.fnExactCalibrateAgeSpec.pre6 enc Try.prog Try.f14 Rows.fnExactCalibrateAgeRow.domain false) (Rows.fnExactCalibrateAgeSpec.post enc Try.prog Try.f14 false true false false) := by
  refine returnsInHanded_of_change_sized (C := Try.checked) own started (by kernel_rfl) Try.func14
    (ChangeSpec.witness6 (enc := enc) (C := Try.checked) false ⟨#[], #[.slice none 0 0, .agg #[.int .i64 0, .int .i64 0]], []⟩ 8 (by kernel_rfl) (by kernel_rfl) (by kernel_rfl) (by kernel_rfl)) ?_
  intro W base args ds gs before hval0 hW hcnd hsz0 _
  have hval : ∀ (j : Nat) t v, Try.f14.params[j]? = some t → args[j]? = some v → Value.okWide Try.prog W .any base t v := hval0
  have hW' := hW
  obtain ⟨p, q, hA0, hV, rfl, hfz, hnd⟩ := hW
  have hA : DataW.TrodAll enc Try.prog W 0 (fun _ => true) true Try.f14.params.toList args.toList ds p := hA0
  rw [Try.params14] at hA hval
  obtain ⟨v0, vs0, d0, ds0, p0, q0, hargs0, rfl, rfl, h0, r0⟩ := trodAll_cons hA
  obtain ⟨v1, vs1, d1, ds1, p1, q1, hargs1, rfl, rfl, h1, r1⟩ := trodAll_cons r0
  obtain ⟨rfl, rfl, rfl⟩ := trodAll_nil r1
  subst hargs1
  obtain rfl : args = #[v0, v1] := by cases args; simp_all
  obtain ⟨rfl, rfl⟩ := trodVars_none hV
  have lt0 : ∀ x ∈ p0, x.block < W.heap.size := by obtain ⟨m, hm⟩ := h0; exact DataW.trod_lt m _ _ _ hm
  obtain ⟨nn0, es0, V0, hl0, hr0⟩ := arg_sl (n := 5) Try.underlying51 (by kernel_rfl) (hval 0 51 v0 rfl rfl) h0
  have lt1 : ∀ x ∈ p1, x.block < W.heap.size := by obtain ⟨m, hm⟩ := h1; exact DataW.trod_lt m _ _ _ hm
  obtain ⟨row1, V1, ty1⟩ := arg_st (n := 5) Try.underlying53 (by kernel_rfl) (hval 1 53 v1 rfl rfl) h1
  clear hA0 hval0 hsz0
  obtain ⟨xs, rfl⟩ := rows_of es0 (fun r hr => ty_point (hr0 r hr))
  obtain ⟨m, rfl⟩ := ty_meas Try.underlying53 ty1
  refine (con_true (Cal.con14 nn0 xs (by simpa [Go.maxLen] using hl0) m) (W := W) (cargs := #[v0, v1]) (VL_2 V0 V1)).mono fun e W' ⟨he, bel⟩ => ?_
  subst he
  exact ⟨_, rfl, _, _, _, [], _, [], hW', trodAll_mk1 (shut_bool Try.underlying4 _), (trodAll_cons_mk (Below.trod laidOut (by kernel_rfl) (of_decide_eq_true (by kernel_rfl)) h0 bel lt0) (trodAll_cons_mk (Below.trod laidOut (by kernel_rfl) (of_decide_eq_true (by kernel_rfl)) h1 bel lt1) trodAll_mk0)), rfl, bel.frame _, fun h => by cases h⟩
theorem calibrateAge_holds : Rows.FnExactCalibrateAgeSaid :=
  OpenClaim.holds_of_wide 14 Try.f14 rfl rfl rfl rfl rfl rfl rfl ⟨rfl, rfl, rfl, rfl, rfl⟩ rfl rfl rfl rfl rfl (by kernel_rfl) Try.func14 (by kernel_rfl)
    (of_decide_eq_true (by kernel_rfl)) (by unfold Func.isWrapper; first | (rw [if_pos (by decide +kernel)]; kernel_rfl) | (rw [if_neg (by decide +kernel)]; exact ⟨rfl, rfl⟩))
    (fun os started H enc _ => calibrateAge_lifted os started H enc)
#print axioms calibrateAge_holds
end Go.Proofs.Ytdljklicegcbpaa.CalG
