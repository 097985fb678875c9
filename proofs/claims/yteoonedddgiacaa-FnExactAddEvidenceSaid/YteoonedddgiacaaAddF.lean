/- 'laws.FnExactAddEvidence' returns true for every input: both sides agree, nothing is shared, and the input reads behind the call as it read before. No condition. -/
import Derived.Test.YteoonedddgiacaaRows
import Derived.Test.YteoonedddgiacaaAddE
import Derived.ProofKit
import Derived.OpenShut
import Derived.ChangeOld
import Derived.SizedLaws
namespace Go.Proofs.Yteoonedddgiacaa.AddF
open Go.ChangeShapes Go.WideShapes Go.ChangeAt Go.RowKit Go.Proofs.Yteoonedddgiacaa Go.Proofs.Yteoonedddgiacaa.Ab Go.Proofs.Yteoonedddgiacaa.Il Go.Proofs.Yteoonedddgiacaa.Rec
set_option linter.unusedVariables false
set_option maxRecDepth 100000

theorem own : ownKnob Try.prog.godebug = none := by kernel_rfl
theorem laidOut : laidOutB Try.prog = true := by kernel_rfl

theorem ty_ctx {row : List AV} {n : Nat} (h : TY Try.prog (n + 2) 79 row) : ∃ f : Rec.Cn, row = cRow f := by
  simp only [TY, Try.underlying79, Try.underlying3, TYs] at h
  obtain ⟨_, _, rfl, ⟨c, rfl, _⟩, _, _, rfl, ⟨r, rfl, _⟩, rfl⟩ := h
  exact ⟨⟨c, r⟩, rfl⟩
theorem ty_rel {row : List AV} {n : Nat} (h : TY Try.prog (n + 2) 83 row) : ∃ f : Rec.Rl, row = xRow f := by
  simp only [TY, Try.underlying83, Try.underlying3, TYs] at h
  obtain ⟨_, _, rfl, ⟨c, rfl, _⟩, _, _, rfl, ⟨r, rfl, _⟩, rfl⟩ := h
  exact ⟨⟨c, r⟩, rfl⟩
theorem ty_ctxs {row : List AV} {n : Nat} (h : TY Try.prog (n + 3) 22 row) : ∃ nn, ∃ xs : List Rec.Cn, row = [.vw nn (xs.map cRow)] ∧ xs.length ≤ Go.maxLen := by
  unfold TY at h
  rw [Try.underlying22] at h
  obtain ⟨nn, es, rfl, h1, h2⟩ := h
  obtain ⟨xs, rfl⟩ := rows_of es (fun r hr => ty_ctx (h2 r hr))
  exact ⟨nn, xs, rfl, by simpa using h1⟩
theorem ty_rels {row : List AV} {n : Nat} (h : TY Try.prog (n + 3) 23 row) : ∃ nn, ∃ xs : List Rec.Rl, row = [.vw nn (xs.map xRow)] ∧ xs.length ≤ Go.maxLen := by
  unfold TY at h
  rw [Try.underlying23] at h
  obtain ⟨nn, es, rfl, h1, h2⟩ := h
  obtain ⟨xs, rfl⟩ := rows_of es (fun r hr => ty_rel (h2 r hr))
  exact ⟨nn, xs, rfl, by simpa using h1⟩
theorem ty_rec {row : List AV} {n : Nat} {fs : Array Field} (hf : Try.prog.underlying 25 = some (.struct fs)) (h : TYs (TY Try.prog (n + 3)) fs.toList row) : ∃ a b, ∃ r : Rec.Rc, row = rRow a b r ∧ r.cs.length ≤ Go.maxLen ∧ r.xs.length ≤ Go.maxLen := by
  rw [Try.underlying25] at hf
  cases hf
  simp only [TYs] at h
  obtain ⟨r1, r2, rfl, h1, r3, r4, rfl, h2, rfl⟩ := h
  obtain ⟨a, cs, rfl, l1⟩ := ty_ctxs h1
  obtain ⟨b, xs, rfl, l2⟩ := ty_rels h2
  exact ⟨a, b, ⟨cs, xs⟩, rfl, l1, l2⟩
theorem ty_dated {row : List AV} (h : TY Try.prog 5 30 row) : ∃ f : Rec.Dt, row = tRow f := by
  simp only [TY, Try.underlying30, Try.underlying28, Try.underlying3, TYs] at h
  obtain ⟨_, _, rfl, ⟨c, rfl, _⟩, _, _, rfl, ⟨_, _, rfl, ⟨f, rfl, _⟩, _, _, rfl, ⟨t, rfl, _⟩, rfl⟩, rfl⟩ := h
  exact ⟨⟨c, f, t⟩, rfl⟩
theorem ty_dated2 {row : List AV} {n : Nat} {fs : Array Field} (hf : Try.prog.underlying 30 = some (.struct fs)) (h : TYs (TY Try.prog (n + 2)) fs.toList row) : ∃ f : Rec.Dt, row = tRow f := by
  rw [Try.underlying30] at hf
  cases hf
  simp only [TY, Try.underlying28, Try.underlying3, TYs] at h
  obtain ⟨_, _, rfl, ⟨c, rfl, _⟩, _, _, rfl, ⟨_, _, rfl, ⟨f, rfl, _⟩, _, _, rfl, ⟨t, rfl, _⟩, rfl⟩, rfl⟩ := h
  exact ⟨⟨c, f, t⟩, rfl⟩
set_option maxRecDepth 100000 in
theorem addEvidence_lifted (os : Os) (started : os.Started) (H : Type) (enc : TypeId × Value → H) :
    ReturnsInHanded {} Try.checked os 3 .any (Rows.fnExactAddEvidenceSpec.pre6 enc Try.prog Try.f3 Rows.fnExactAddEvidenceRow.domain false) (Rows.fnExactAddEvidenceSpec.post enc Try.prog Try.f3 false true false false) := by
  refine returnsInHanded_of_change_sized (C := Try.checked) own started (by kernel_rfl) Try.func3
    (ChangeSpec.witness6 (enc := enc) (C := Try.checked) false ⟨#[], #[.agg #[.slice none 0 0, .slice none 0 0], .slice none 0 0, .agg #[.int .i64 0, .int .i64 0, .int .i64 0]], []⟩ 8 (by kernel_rfl) (by kernel_rfl) (by kernel_rfl) (by kernel_rfl)) ?_
  intro W base args ds gs before hval0 hW hcnd hsz0 _
  have hval : ∀ (j : Nat) t v, Try.f3.params[j]? = some t → args[j]? = some v → Value.okWide Try.prog W .any base t v := hval0
  have hW' := hW
  obtain ⟨p, q, hA0, hV, rfl, hfz, hnd⟩ := hW
  have hA : DataW.TrodAll enc Try.prog W 0 (fun _ => true) true Try.f3.params.toList args.toList ds p := hA0
  rw [Try.params3] at hA hval
  obtain ⟨v0, vs0, d0, ds0, p0, q0, hargs0, rfl, rfl, h0, r0⟩ := trodAll_cons hA
  obtain ⟨v1, vs1, d1, ds1, p1, q1, hargs1, rfl, rfl, h1, r1⟩ := trodAll_cons r0
  obtain ⟨v2, vs2, d2, ds2, p2, q2, hargs2, rfl, rfl, h2, r2⟩ := trodAll_cons r1
  obtain ⟨rfl, rfl, rfl⟩ := trodAll_nil r2
  subst hargs2
  subst hargs1
  obtain rfl : args = #[v0, v1, v2] := by cases args; simp_all
  obtain ⟨rfl, rfl⟩ := trodVars_none hV
  have lt0 : ∀ x ∈ p0, x.block < W.heap.size := by obtain ⟨m, hm⟩ := h0; exact DataW.trod_lt m _ _ _ hm
  obtain ⟨row0, V0, ty0⟩ := arg_st (n := 5) Try.underlying25 (by kernel_rfl) (hval 0 25 v0 rfl rfl) h0
  have lt1 : ∀ x ∈ p1, x.block < W.heap.size := by obtain ⟨m, hm⟩ := h1; exact DataW.trod_lt m _ _ _ hm
  obtain ⟨nn1, es1, V1, hl1, hr1⟩ := arg_sl (n := 5) Try.underlying26 (by kernel_rfl) (hval 1 26 v1 rfl rfl) h1
  have lt2 : ∀ x ∈ p2, x.block < W.heap.size := by obtain ⟨m, hm⟩ := h2; exact DataW.trod_lt m _ _ _ hm
  obtain ⟨row2, V2, ty2⟩ := arg_st (n := 5) Try.underlying30 (by kernel_rfl) (hval 2 30 v2 rfl rfl) h2
  clear hA0 hval0 hsz0
  obtain ⟨a, b, r, rfl, l1, l2⟩ := ty_rec Try.underlying25 ty0
  obtain ⟨es, rfl⟩ := rows_of es1 (fun r hr => ty_dated (hr1 r hr))
  obtain ⟨x, rfl⟩ := ty_dated2 Try.underlying30 ty2
  refine (con_true (con3 a b nn1 r es x (by simpa [Go.maxLen] using l1) (by simpa [Go.maxLen] using l2) (by simpa [Go.maxLen] using hl1)) (W := W) (cargs := #[v0, v1, v2]) (VL_3 V0 V1 V2)).mono fun e W' ⟨he, bel⟩ => ?_
  subst he
  exact ⟨_, rfl, _, _, _, [], _, [], hW', trodAll_mk1 (shut_bool Try.underlying4 _), (trodAll_cons_mk (Below.trod laidOut (by kernel_rfl) (of_decide_eq_true (by kernel_rfl)) h0 bel lt0) (trodAll_cons_mk (Below.trod laidOut (by kernel_rfl) (of_decide_eq_true (by kernel_rfl)) h1 bel lt1) (trodAll_cons_mk (Below.trod laidOut (by kernel_rfl) (of_decide_eq_true (by kernel_rfl)) h2 bel lt2) trodAll_mk0))), rfl, bel.frame _, fun h => by cases h⟩
theorem addEvidence_holds : Rows.FnExactAddEvidenceSaid :=
  OpenClaim.holds_of_wide 3 Try.f3 rfl rfl rfl rfl rfl rfl rfl ⟨rfl, rfl, rfl, rfl, rfl⟩ rfl rfl rfl rfl rfl (by kernel_rfl) Try.func3 (by kernel_rfl)
    (of_decide_eq_true (by kernel_rfl)) (by unfold Func.isWrapper; first | (rw [if_pos (by decide +kernel)]; kernel_rfl) | (rw [if_neg (by decide +kernel)]; exact ⟨rfl, rfl⟩))
    (fun os started H enc _ => addEvidence_lifted os started H enc)
#print axioms addEvidence_holds
end Go.Proofs.Yteoonedddgiacaa.AddF
