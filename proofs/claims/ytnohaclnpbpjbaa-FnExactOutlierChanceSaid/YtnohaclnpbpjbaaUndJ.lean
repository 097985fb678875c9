/- 'laws.FnExactOutlierChance' returns true for every input: both sides agree, and the input reads behind the call as it read before. No condition. -/
import Derived.Test.YtnohaclnpbpjbaaRows
import Derived.Test.YtnohaclnpbpjbaaUndI
import Derived.ProofKit
import Derived.OpenShut
import Derived.ChangeOld
import Derived.SizedLaws
namespace Go.Proofs.Ytnohaclnpbpjbaa.UndJ
open Go.ChangeShapes Go.WideShapes Go.ChangeAt Go.RowKit Go.Proofs.Ytnohaclnpbpjbaa Go.Proofs.Ytnohaclnpbpjbaa.Ab Go.Proofs.Ytnohaclnpbpjbaa.Il
set_option linter.unusedVariables false
set_option linter.unusedSimpArgs false
set_option maxRecDepth 100000

theorem own : ownKnob Try.prog.godebug = none := by kernel_rfl
theorem laidOut : laidOutB Try.prog = true := by kernel_rfl

theorem ty_ws {row : List AV} {n : Nat} (h : TY Try.prog (n + 2) 35 row) : ∃ nn, ∃ ws : List Int, row = [.vw nn (ws.map iRow)] ∧ ws.length ≤ Go.maxLen := by
  unfold TY at h
  rw [Try.underlying35] at h
  obtain ⟨nn, es, rfl, h1, h2⟩ := h
  obtain ⟨xs, rfl⟩ := rows_of (f := iRow) es (fun r hr => by
    have h3 := h2 r hr
    simp only [TY, Try.underlying3] at h3
    obtain ⟨x, rfl, _⟩ := h3
    exact ⟨x, rfl⟩)
  exact ⟨nn, xs, rfl, by simpa using h1⟩
theorem ty_ds {row : List AV} {n : Nat} (h : TY Try.prog (n + 3) 66 row) : ∃ f nn, ∃ ws : List Int, row = [.int .i64 f, .vw nn (ws.map iRow)] ∧ ws.length ≤ Go.maxLen := by
  unfold TY at h
  rw [Try.underlying66] at h
  simp only [TYs] at h
  obtain ⟨r1, r2, rfl, h1, r3, r4, rfl, h2, rfl⟩ := h
  simp only [TY, Try.underlying3] at h1
  obtain ⟨x, rfl, _⟩ := h1
  obtain ⟨nn, ws, rfl, hl⟩ := ty_ws h2
  exact ⟨x, nn, ws, rfl, hl⟩
theorem ty_in {row : List AV} {n : Nat} (h : TY Try.prog (n + 1) 3 row) : ∃ z : Int, row = iRow z := by
  simp only [TY, Try.underlying3] at h
  obtain ⟨z, rfl, _⟩ := h
  exact ⟨z, rfl⟩
theorem ty_ev {row : List AV} {n : Nat} (h : TY Try.prog (n + 4) 93 row) : ∃ x : Dst.Ev, row = Dst.nE x ∧ x.d.ws.length ≤ Go.maxLen := by
  unfold TY at h
  rw [Try.underlying93] at h
  simp only [TYs] at h
  obtain ⟨r1, r2, rfl, h1, r3, r4, rfl, h2, r5, r6, rfl, h3, rfl⟩ := h
  obtain ⟨p, rfl⟩ := ty_in h1
  obtain ⟨f, nn, ws, rfl, hl⟩ := ty_ds h2
  obtain ⟨o, rfl⟩ := ty_in h3
  exact ⟨⟨nn, p, ⟨f, ws⟩, o⟩, rfl, hl⟩
theorem ty_evs {row : List AV} {n : Nat} (h : TY Try.prog (n + 5) 22 row) : ∃ nn, ∃ xs : List Dst.Ev, row = [.vw nn (xs.map Dst.nE)] ∧ xs.length ≤ Go.maxLen ∧ ∀ i, i < xs.length → (xs.getD i default).d.ws.length ≤ Go.maxLen := by
  unfold TY at h
  rw [Try.underlying22] at h
  obtain ⟨nn, es, rfl, h1, h2⟩ := h
  obtain ⟨ss, rfl⟩ := rows_of (f := fun x : { x : Dst.Ev // x.d.ws.length ≤ Go.maxLen } => Dst.nE x.1) es (fun r hr => by
    obtain ⟨x, h3, h4⟩ := ty_ev (h2 r hr)
    exact ⟨⟨x, h4⟩, h3⟩)
  refine ⟨nn, ss.map (·.1), by rw [List.map_map]; rfl, by simpa using h1, fun i hi => ?_⟩
  have hi2 : i < ss.length := by simpa using hi
  have e : (ss.map (·.1)).getD i default = (ss[i]).1 := by simp [List.getD_eq_getElem?_getD, List.getElem?_map, List.getElem?_eq_getElem hi2]
  rw [e]
  exact (ss[i]).2
theorem ty_md {row : List AV} {n : Nat} {fs : Array Field} (hf : Try.prog.underlying 24 = some (.struct fs)) (h : TYs (TY Try.prog (n + 5)) fs.toList row) : ∃ c, ∃ m : Dst.Md, ∃ xs : List Dst.Ev, row = Dst.mdR c m xs ∧ xs.length ≤ Go.maxLen ∧ ∀ i, i < xs.length → (xs.getD i default).d.ws.length ≤ Go.maxLen := by
  rw [Try.underlying24] at hf
  cases hf
  simp only [TYs] at h
  obtain ⟨r1, r2, rfl, h1, r3, r4, rfl, h2, r5, r6, rfl, h3, r7, r8, rfl, h4, rfl⟩ := h
  obtain ⟨f, rfl⟩ := ty_in h1
  obtain ⟨y, rfl⟩ := ty_in h2
  obtain ⟨p, rfl⟩ := ty_in h3
  obtain ⟨c, xs, rfl, l3, l4⟩ := ty_evs h4
  exact ⟨c, ⟨f, y, p⟩, xs, rfl, l3, l4⟩
set_option maxRecDepth 100000 in
theorem outlierChance_lifted (os : Os) (started : os.Started) (H : Type) (enc : TypeId × Value → H) :
    ReturnsInHanded {} Try.checked os 7 .any (Rows.fnExactOutlierChanceSpec.pre6 enc Try.prog Try.f7 Rows.fnExactOutlierChanceRow.domain false) (Rows.fnExactOutlierChanceSpec.post enc Try.prog Try.f7 false true false false) := by
  refine returnsInHanded_of_change_sized (C := Try.checked) own started (by kernel_rfl) Try.func7
    (ChangeSpec.witness6 (enc := enc) (C := Try.checked) false ⟨#[], #[.agg #[.int .i64 0, .int .i64 0, .int .i64 0, .slice none 0 0], .int .i64 0], []⟩ 8 (by kernel_rfl) (by kernel_rfl) (by kernel_rfl) (by kernel_rfl)) ?_
  intro W base args ds gs before hval0 hW hcnd hsz0 _
  have hval : ∀ (j : Nat) t v, Try.f7.params[j]? = some t → args[j]? = some v → Value.okWide Try.prog W .any base t v := hval0
  have hW' := hW
  obtain ⟨p, q, hA0, hV, rfl, hfz, hnd⟩ := hW
  have hA : DataW.TrodAll enc Try.prog W 0 (fun _ => true) true Try.f7.params.toList args.toList ds p := hA0
  rw [Try.params7] at hA hval
  obtain ⟨v0, vs0, d0, ds0, p0, q0, hargs0, rfl, rfl, h0, r0⟩ := trodAll_cons hA
  obtain ⟨v1, vs1, d1, ds1, p1, q1, hargs1, rfl, rfl, h1, r1⟩ := trodAll_cons r0
  obtain ⟨rfl, rfl, rfl⟩ := trodAll_nil r1
  subst hargs1
  obtain rfl : args = #[v0, v1] := by cases args; simp_all
  obtain ⟨rfl, rfl⟩ := trodVars_none hV
  have lt0 : ∀ x ∈ p0, x.block < W.heap.size := by obtain ⟨m, hm⟩ := h0; exact DataW.trod_lt m _ _ _ hm
  obtain ⟨row0, V0, ty0⟩ := arg_st (n := 5) Try.underlying24 (by kernel_rfl) (hval 0 24 v0 rfl rfl) h0
  have lt1 : ∀ x ∈ p1, x.block < W.heap.size := by obtain ⟨m, hm⟩ := h1; exact DataW.trod_lt m _ _ _ hm
  obtain ⟨x1, V1, wf1⟩ := arg_int (n := 1) Try.underlying3 (by kernel_rfl) (hval 1 3 v1 rfl rfl) h1
  clear hA0 hval0 hsz0
  obtain ⟨c, m, xs, rfl, l3, l4⟩ := ty_md Try.underlying24 ty0
  refine (con_true (Dst.con7 c m xs x1 (by simpa [Go.maxLen] using l3) l4) (W := W) (cargs := #[v0, v1]) (VL_2 V0 V1)).mono fun e W' ⟨he, bel⟩ => ?_
  subst he
  exact ⟨_, rfl, _, _, _, [], _, [], hW', trodAll_mk1 (shut_bool Try.underlying4 _), (trodAll_cons_mk (Below.trod laidOut (by kernel_rfl) (of_decide_eq_true (by kernel_rfl)) h0 bel lt0) (trodAll_cons_mk (Below.trod laidOut (by kernel_rfl) (of_decide_eq_true (by kernel_rfl)) h1 bel lt1) trodAll_mk0)), rfl, bel.frame _, fun h => by cases h⟩
theorem outlierChance_holds : Rows.FnExactOutlierChanceSaid :=
  OpenClaim.holds_of_wide 7 Try.f7 rfl rfl rfl rfl rfl rfl rfl ⟨rfl, rfl, rfl, rfl, rfl⟩ rfl rfl rfl rfl rfl (by kernel_rfl) Try.func7 (by kernel_rfl)
    (of_decide_eq_true (by kernel_rfl)) (by unfold Func.isWrapper; first | (rw [if_pos (by decide +kernel)]; kernel_rfl) | (rw [if_neg (by decide +kernel)]; exact ⟨rfl, rfl⟩))
    (fun os started H enc _ => outlierChance_lifted os started H enc)
#print axioms outlierChance_holds
end Go.Proofs.Ytnohaclnpbpjbaa.UndJ
