/- 'laws.FnExactPlaceCounts', 'laws.FnExactPlaceRange' and 'laws.FnExactCountBefore' return true for every input, and the input reads behind the call as it read before. No condition. -/
import Derived.Test.YthicnjgdngfbkaaRows
import Derived.Test.YthicnjgdngfbkaaSeqQ
import Derived.ProofKit
import Derived.OpenShut
import Derived.ChangeOld
import Derived.SizedLaws
namespace Go.Proofs.Ythicnjgdngfbkaa.SeqS
open Go.ChangeShapes Go.WideShapes Go.ChangeAt Go.RowKit Go.Proofs.Ythicnjgdngfbkaa Go.Proofs.Ythicnjgdngfbkaa.Ab Go.Proofs.Ythicnjgdngfbkaa.Il Go.Proofs.Ythicnjgdngfbkaa.Rec
set_option linter.unusedVariables false
set_option linter.unusedSimpArgs false
set_option maxRecDepth 100000

theorem own : ownKnob Try.prog.godebug = none := by kernel_rfl
theorem laidOut : laidOutB Try.prog = true := by kernel_rfl

theorem ty_ctx {row : List AV} {n : Nat} (h : TY Try.prog (n + 2) 89 row) : ∃ f : Rec.Cn, row = cRow f := by
  simp only [TY, Try.underlying89, Try.underlying3, TYs] at h
  obtain ⟨_, _, rfl, ⟨c, rfl, _⟩, _, _, rfl, ⟨r, rfl, _⟩, rfl⟩ := h
  exact ⟨⟨c, r⟩, rfl⟩
theorem ty_rel {row : List AV} {n : Nat} (h : TY Try.prog (n + 2) 91 row) : ∃ f : Rec.Rl, row = xRow f := by
  simp only [TY, Try.underlying91, Try.underlying3, TYs] at h
  obtain ⟨_, _, rfl, ⟨c, rfl, _⟩, _, _, rfl, ⟨r, rfl, _⟩, rfl⟩ := h
  exact ⟨⟨c, r⟩, rfl⟩
theorem ty_ctxs {row : List AV} {n : Nat} (h : TY Try.prog (n + 3) 22 row) : ∃ nn, ∃ xs : List Rec.Cn, row = [.vw nn (xs.map cRow)] ∧ xs.length ≤ Go.maxLen := by
  unfold TY at h
  rw [Try.underlying22] at h
  obtain ⟨nn, es, rfl, h1, h2⟩ := h
  obtain ⟨xs, rfl⟩ := rows_of es (fun r hr => ty_ctx (h2 r hr))
  exact ⟨nn, xs, rfl, by simpa using h1⟩
theorem ty_rels {row : List AV} {n : Nat} (h : TY Try.prog (n + 3) 23 row) : ∃ nn, ∃ xs : List Rec.Rl, row = [.vw nn (xs.map xRow)] ∧ xs.length ≤ Go.maxLen := by
  unfold TY at h
  rw [Try.underlying23] at h
  obtain ⟨nn, es, rfl, h1, h2⟩ := h
  obtain ⟨xs, rfl⟩ := rows_of es (fun r hr => ty_rel (h2 r hr))
  exact ⟨nn, xs, rfl, by simpa using h1⟩
theorem ty_rec {row : List AV} {n : Nat} {fs : Array Field} (hf : Try.prog.underlying 25 = some (.struct fs)) (h : TYs (TY Try.prog (n + 3)) fs.toList row) : ∃ a b, ∃ r : Rec.Rc, row = rRow a b r ∧ r.cs.length ≤ Go.maxLen ∧ r.xs.length ≤ Go.maxLen := by
  rw [Try.underlying25] at hf
  cases hf
  simp only [TYs] at h
  obtain ⟨r1, r2, rfl, h1, r3, r4, rfl, h2, rfl⟩ := h
  obtain ⟨a, cs, rfl, l1⟩ := ty_ctxs h1
  obtain ⟨b, xs, rfl, l2⟩ := ty_rels h2
  exact ⟨a, b, ⟨cs, xs⟩, rfl, l1, l2⟩
set_option maxRecDepth 100000 in
theorem placeCounts_lifted (os : Os) (started : os.Started) (H : Type) (enc : TypeId × Value → H) :
    ReturnsInHanded {} Try.checked os 9 .any (Rows.fnExactPlaceCountsSpec.pre6 enc Try.prog Try.f9 Rows.fnExactPlaceCountsRow.domain false) (Rows.fnExactPlaceCountsSpec.post enc Try.prog Try.f9 false true false false) := by
  refine returnsInHanded_of_change_sized (C := Try.checked) own started (by kernel_rfl) Try.func9
    (ChangeSpec.witness6 (enc := enc) (C := Try.checked) false ⟨#[], #[.agg #[.slice none 0 0, .slice none 0 0], .int .i64 0], []⟩ 8 (by kernel_rfl) (by kernel_rfl) (by kernel_rfl) (by kernel_rfl)) ?_
  intro W base args ds gs before hval0 hW hcnd hsz0 _
  have hval : ∀ (j : Nat) t v, Try.f9.params[j]? = some t → args[j]? = some v → Value.okWide Try.prog W .any base t v := hval0
  have hW' := hW
  obtain ⟨p, q, hA0, hV, rfl, hfz, hnd⟩ := hW
  have hA : DataW.TrodAll enc Try.prog W 0 (fun _ => true) true Try.f9.params.toList args.toList ds p := hA0
  rw [Try.params9] at hA hval
  obtain ⟨v0, vs0, d0, ds0, p0, q0, hargs0, rfl, rfl, h0, r0⟩ := trodAll_cons hA
  obtain ⟨v1, vs1, d1, ds1, p1, q1, hargs1, rfl, rfl, h1, r1⟩ := trodAll_cons r0
  obtain ⟨rfl, rfl, rfl⟩ := trodAll_nil r1
  subst hargs1
  obtain rfl : args = #[v0, v1] := by cases args; simp_all
  obtain ⟨rfl, rfl⟩ := trodVars_none hV
  have lt0 : ∀ x ∈ p0, x.block < W.heap.size := by obtain ⟨m, hm⟩ := h0; exact DataW.trod_lt m _ _ _ hm
  obtain ⟨row0, V0, ty0⟩ := arg_st (n := 5) Try.underlying25 (by kernel_rfl) (hval 0 25 v0 rfl rfl) h0
  have lt1 : ∀ x ∈ p1, x.block < W.heap.size := by obtain ⟨m, hm⟩ := h1; exact DataW.trod_lt m _ _ _ hm
  obtain ⟨x1, V1, wf1⟩ := arg_int (n := 1) Try.underlying3 (by kernel_rfl) (hval 1 3 v1 rfl rfl) h1
  clear hA0 hval0 hsz0
  obtain ⟨a, b, r, rfl, l1, l2⟩ := ty_rec Try.underlying25 ty0
  refine (con_true (con9 a b r x1 (by simpa [Go.maxLen] using l1) (by simpa [Go.maxLen] using l2)) (W := W) (cargs := #[v0, v1]) (VL_2 V0 V1)).mono fun e W' ⟨he, bel⟩ => ?_
  subst he
  exact ⟨_, rfl, _, _, _, [], _, [], hW', trodAll_mk1 (shut_bool Try.underlying4 _), (trodAll_cons_mk (Below.trod laidOut (by kernel_rfl) (of_decide_eq_true (by kernel_rfl)) h0 bel lt0) (trodAll_cons_mk (Below.trod laidOut (by kernel_rfl) (of_decide_eq_true (by kernel_rfl)) h1 bel lt1) trodAll_mk0)), rfl, bel.frame _, fun h => by cases h⟩
theorem placeCounts_holds : Rows.FnExactPlaceCountsSaid :=
  OpenClaim.holds_of_wide 9 Try.f9 rfl rfl rfl rfl rfl rfl rfl ⟨rfl, rfl, rfl, rfl, rfl⟩ rfl rfl rfl rfl rfl (by kernel_rfl) Try.func9 (by kernel_rfl)
    (of_decide_eq_true (by kernel_rfl)) (by unfold Func.isWrapper; first | (rw [if_pos (by decide +kernel)]; kernel_rfl) | (rw [if_neg (by decide +kernel)]; exact ⟨rfl, rfl⟩))
    (fun os started H enc _ => placeCounts_lifted os started H enc)
#print axioms placeCounts_holds
set_option maxRecDepth 100000 in
theorem placeRange_lifted (os : Os) (started : os.Started) (H : Type) (enc : TypeId × Value → H) :
    ReturnsInHanded {} Try.checked os 4 .any (Rows.fnExactPlaceRangeSpec.pre6 enc Try.prog Try.f4 Rows.fnExactPlaceRangeRow.domain false) (Rows.fnExactPlaceRangeSpec.post enc Try.prog Try.f4 false true false false) := by
  refine returnsInHanded_of_change_sized (C := Try.checked) own started (by kernel_rfl) Try.func4
    (ChangeSpec.witness6 (enc := enc) (C := Try.checked) false ⟨#[], #[.agg #[.slice none 0 0, .slice none 0 0], .int .i64 0], []⟩ 8 (by kernel_rfl) (by kernel_rfl) (by kernel_rfl) (by kernel_rfl)) ?_
  intro W base args ds gs before hval0 hW hcnd hsz0 _
  have hval : ∀ (j : Nat) t v, Try.f4.params[j]? = some t → args[j]? = some v → Value.okWide Try.prog W .any base t v := hval0
  have hW' := hW
  obtain ⟨p, q, hA0, hV, rfl, hfz, hnd⟩ := hW
  have hA : DataW.TrodAll enc Try.prog W 0 (fun _ => true) true Try.f4.params.toList args.toList ds p := hA0
  rw [Try.params4] at hA hval
  obtain ⟨v0, vs0, d0, ds0, p0, q0, hargs0, rfl, rfl, h0, r0⟩ := trodAll_cons hA
  obtain ⟨v1, vs1, d1, ds1, p1, q1, hargs1, rfl, rfl, h1, r1⟩ := trodAll_cons r0
  obtain ⟨rfl, rfl, rfl⟩ := trodAll_nil r1
  subst hargs1
  obtain rfl : args = #[v0, v1] := by cases args; simp_all
  obtain ⟨rfl, rfl⟩ := trodVars_none hV
  have lt0 : ∀ x ∈ p0, x.block < W.heap.size := by obtain ⟨m, hm⟩ := h0; exact DataW.trod_lt m _ _ _ hm
  obtain ⟨row0, V0, ty0⟩ := arg_st (n := 5) Try.underlying25 (by kernel_rfl) (hval 0 25 v0 rfl rfl) h0
  have lt1 : ∀ x ∈ p1, x.block < W.heap.size := by obtain ⟨m, hm⟩ := h1; exact DataW.trod_lt m _ _ _ hm
  obtain ⟨x1, V1, wf1⟩ := arg_int (n := 1) Try.underlying3 (by kernel_rfl) (hval 1 3 v1 rfl rfl) h1
  clear hA0 hval0 hsz0
  obtain ⟨a, b, r, rfl, l1, l2⟩ := ty_rec Try.underlying25 ty0
  refine (con_true (con4 a b r x1 (by simpa [Go.maxLen] using l1) (by simpa [Go.maxLen] using l2)) (W := W) (cargs := #[v0, v1]) (VL_2 V0 V1)).mono fun e W' ⟨he, bel⟩ => ?_
  subst he
  exact ⟨_, rfl, _, _, _, [], _, [], hW', trodAll_mk1 (shut_bool Try.underlying4 _), (trodAll_cons_mk (Below.trod laidOut (by kernel_rfl) (of_decide_eq_true (by kernel_rfl)) h0 bel lt0) (trodAll_cons_mk (Below.trod laidOut (by kernel_rfl) (of_decide_eq_true (by kernel_rfl)) h1 bel lt1) trodAll_mk0)), rfl, bel.frame _, fun h => by cases h⟩
theorem placeRange_holds : Rows.FnExactPlaceRangeSaid :=
  OpenClaim.holds_of_wide 4 Try.f4 rfl rfl rfl rfl rfl rfl rfl ⟨rfl, rfl, rfl, rfl, rfl⟩ rfl rfl rfl rfl rfl (by kernel_rfl) Try.func4 (by kernel_rfl)
    (of_decide_eq_true (by kernel_rfl)) (by unfold Func.isWrapper; first | (rw [if_pos (by decide +kernel)]; kernel_rfl) | (rw [if_neg (by decide +kernel)]; exact ⟨rfl, rfl⟩))
    (fun os started H enc _ => placeRange_lifted os started H enc)
#print axioms placeRange_holds
set_option maxRecDepth 100000 in
theorem countBefore_lifted (os : Os) (started : os.Started) (H : Type) (enc : TypeId × Value → H) :
    ReturnsInHanded {} Try.checked os 5 .any (Rows.fnExactCountBeforeSpec.pre6 enc Try.prog Try.f5 Rows.fnExactCountBeforeRow.domain false) (Rows.fnExactCountBeforeSpec.post enc Try.prog Try.f5 false true false false) := by
  refine returnsInHanded_of_change_sized (C := Try.checked) own started (by kernel_rfl) Try.func5
    (ChangeSpec.witness6 (enc := enc) (C := Try.checked) false ⟨#[], #[.agg #[.slice none 0 0, .slice none 0 0], .int .i64 0, .int .i64 0], []⟩ 8 (by kernel_rfl) (by kernel_rfl) (by kernel_rfl) (by kernel_rfl)) ?_
  intro W base args ds gs before hval0 hW hcnd hsz0 _
  have hval : ∀ (j : Nat) t v, Try.f5.params[j]? = some t → args[j]? = some v → Value.okWide Try.prog W .any base t v := hval0
  have hW' := hW
  obtain ⟨p, q, hA0, hV, rfl, hfz, hnd⟩ := hW
  have hA : DataW.TrodAll enc Try.prog W 0 (fun _ => true) true Try.f5.params.toList args.toList ds p := hA0
  rw [Try.params5] at hA hval
  obtain ⟨v0, vs0, d0, ds0, p0, q0, hargs0, rfl, rfl, h0, r0⟩ := trodAll_cons hA
  obtain ⟨v1, vs1, d1, ds1, p1, q1, hargs1, rfl, rfl, h1, r1⟩ := trodAll_cons r0
  obtain ⟨v2, vs2, d2, ds2, p2, q2, hargs2, rfl, rfl, h2, r2⟩ := trodAll_cons r1
  obtain ⟨rfl, rfl, rfl⟩ := trodAll_nil r2
  subst hargs2
  subst hargs1
  obtain rfl : args = #[v0, v1, v2] := by cases args; simp_all
  obtain ⟨rfl, rfl⟩ := trodVars_none hV
  have lt0 : ∀ x ∈ p0, x.block < W.heap.size := by obtain ⟨m, hm⟩ := h0; exact DataW.trod_lt m _ _ _ hm
  obtain ⟨row0, V0, ty0⟩ := arg_st (n := 5) Try.underlying25 (by kernel_rfl) (hval 0 25 v0 rfl rfl) h0
  have lt1 : ∀ x ∈ p1, x.block < W.heap.size := by obtain ⟨m, hm⟩ := h1; exact DataW.trod_lt m _ _ _ hm
  obtain ⟨x1, V1, wf1⟩ := arg_int (n := 1) Try.underlying3 (by kernel_rfl) (hval 1 3 v1 rfl rfl) h1
  have lt2 : ∀ x ∈ p2, x.block < W.heap.size := by obtain ⟨m, hm⟩ := h2; exact DataW.trod_lt m _ _ _ hm
  obtain ⟨x2, V2, wf2⟩ := arg_int (n := 1) Try.underlying3 (by kernel_rfl) (hval 2 3 v2 rfl rfl) h2
  clear hA0 hval0 hsz0
  obtain ⟨a, b, r, rfl, l1, l2⟩ := ty_rec Try.underlying25 ty0
  refine (con_true (con5 a b r x1 x2 (by simpa [Go.maxLen] using l1) (by simpa [Go.maxLen] using l2)) (W := W) (cargs := #[v0, v1, v2]) (VL_3 V0 V1 V2)).mono fun e W' ⟨he, bel⟩ => ?_
  subst he
  exact ⟨_, rfl, _, _, _, [], _, [], hW', trodAll_mk1 (shut_bool Try.underlying4 _), (trodAll_cons_mk (Below.trod laidOut (by kernel_rfl) (of_decide_eq_true (by kernel_rfl)) h0 bel lt0) (trodAll_cons_mk (Below.trod laidOut (by kernel_rfl) (of_decide_eq_true (by kernel_rfl)) h1 bel lt1) (trodAll_cons_mk (Below.trod laidOut (by kernel_rfl) (of_decide_eq_true (by kernel_rfl)) h2 bel lt2) trodAll_mk0))), rfl, bel.frame _, fun h => by cases h⟩
theorem countBefore_holds : Rows.FnExactCountBeforeSaid :=
  OpenClaim.holds_of_wide 5 Try.f5 rfl rfl rfl rfl rfl rfl rfl ⟨rfl, rfl, rfl, rfl, rfl⟩ rfl rfl rfl rfl rfl (by kernel_rfl) Try.func5 (by kernel_rfl)
    (of_decide_eq_true (by kernel_rfl)) (by unfold Func.isWrapper; first | (rw [if_pos (by decide +kernel)]; kernel_rfl) | (rw [if_neg (by decide +kernel)]; exact ⟨rfl, rfl⟩))
    (fun os started H enc _ => countBefore_lifted os started H enc)
#print axioms countBefore_holds
end Go.Proofs.Ythicnjgdngfbkaa.SeqS
