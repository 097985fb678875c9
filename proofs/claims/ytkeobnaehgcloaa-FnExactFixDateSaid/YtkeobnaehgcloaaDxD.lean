/- 'laws.FnExactFixDate' returns true for every input, and the input reads behind the call as it read before. No condition. -/
import Derived.Test.YtkeobnaehgcloaaRows
import Derived.Test.YtkeobnaehgcloaaDxC
import Derived.ProofKit
import Derived.OpenShut
import Derived.ChangeOld
import Derived.SizedLaws
namespace Go.Proofs.Ytkeobnaehgcloaa.DxD
open Go.ChangeShapes Go.WideShapes Go.ChangeAt Go.RowKit Go.Proofs.Ytkeobnaehgcloaa Go.Proofs.Ytkeobnaehgcloaa.Ab Go.Proofs.Ytkeobnaehgcloaa.Il Go.Proofs.Ytkeobnaehgcloaa.Rec
set_option linter.unusedVariables false
set_option linter.unusedSimpArgs false
set_option maxRecDepth 100000

theorem own : ownKnob Try.prog.godebug = none := by kernel_rfl
theorem laidOut : laidOutB Try.prog = true := by kernel_rfl

theorem ty_ctx {row : List AV} {n : Nat} (h : TY Try.prog (n + 2) 119 row) : ∃ f : Rec.Cn, row = cRow f := by
  simp only [TY, Try.underlying119, Try.underlying3, TYs] at h
  obtain ⟨_, _, rfl, ⟨c, rfl, _⟩, _, _, rfl, ⟨r, rfl, _⟩, rfl⟩ := h
  exact ⟨⟨c, r⟩, rfl⟩
theorem ty_rel {row : List AV} {n : Nat} (h : TY Try.prog (n + 2) 121 row) : ∃ f : Rec.Rl, row = xRow f := by
  simp only [TY, Try.underlying121, Try.underlying3, TYs] at h
  obtain ⟨_, _, rfl, ⟨c, rfl, _⟩, _, _, rfl, ⟨r, rfl, _⟩, rfl⟩ := h
  exact ⟨⟨c, r⟩, rfl⟩
theorem ty_ctxs {row : List AV} {n : Nat} (h : TY Try.prog (n + 3) 22 row) : ∃ nn, ∃ xs : List Rec.Cn, row = [.vw nn (xs.map cRow)] ∧ xs.length ≤ Go.maxLen := by
  unfold TY at h
  rw [Try.underlying22] at h
  obtain ⟨nn, es, rfl, h1, h2⟩ := h
  obtain ⟨xs, rfl⟩ := rows_of es (fun r hr => ty_ctx (h2 r hr))
  exact ⟨nn, xs, rfl, by simpa using h1⟩
theorem ty_rels {row : List AV} {n : Nat} (h : TY Try.prog (n + 3) 23 row) : ∃ nn, ∃ xs : List Rec.Rl, row = [.vw nn (xs.map xRow)] ∧ xs.length ≤ Go.maxLen := by
  unfold TY at h
  rw [Try.underlying23] at h
  obtain ⟨nn, es, rfl, h1, h2⟩ := h
  obtain ⟨xs, rfl⟩ := rows_of es (fun r hr => ty_rel (h2 r hr))
  exact ⟨nn, xs, rfl, by simpa using h1⟩
theorem ty_rec {row : List AV} {n : Nat} {fs : Array Field} (hf : Try.prog.underlying 25 = some (.struct fs)) (h : TYs (TY Try.prog (n + 3)) fs.toList row) : ∃ a b, ∃ r : Rec.Rc, row = rRow a b r ∧ r.cs.length ≤ Go.maxLen ∧ r.xs.length ≤ Go.maxLen := by
  rw [Try.underlying25] at hf
  cases hf
  simp only [TYs] at h
  obtain ⟨r1, r2, rfl, h1, r3, r4, rfl, h2, rfl⟩ := h
  obtain ⟨a, cs, rfl, l1⟩ := ty_ctxs h1
  obtain ⟨b, xs, rfl, l2⟩ := ty_rels h2
  exact ⟨a, b, ⟨cs, xs⟩, rfl, l1, l2⟩
theorem ty_ws {row : List AV} {n : Nat} (h : TY Try.prog (n + 2) 29 row) : ∃ nn, ∃ ws : List Int, row = [.vw nn (ws.map iRow)] ∧ ws.length ≤ Go.maxLen := by
  unfold TY at h
  rw [Try.underlying29] at h
  obtain ⟨nn, es, rfl, h1, h2⟩ := h
  obtain ⟨xs, rfl⟩ := rows_of (f := iRow) es (fun r hr => by
    have h3 := h2 r hr
    simp only [TY, Try.underlying3] at h3
    obtain ⟨x, rfl, _⟩ := h3
    exact ⟨x, rfl⟩)
  exact ⟨nn, xs, rfl, by simpa using h1⟩
theorem ty_dn {row : List AV} {n : Nat} (h : TY Try.prog (n + 3) 31 row) : ∃ x : Dst.Dn, row = Dst.nD x ∧ x.d.ws.length ≤ Go.maxLen := by
  unfold TY at h
  rw [Try.underlying31] at h
  simp only [TYs] at h
  obtain ⟨r1, r2, rfl, h1, r3, r4, rfl, h2, rfl⟩ := h
  simp only [TY, Try.underlying3] at h1
  obtain ⟨x, rfl, _⟩ := h1
  obtain ⟨nn, ws, rfl, hl⟩ := ty_ws h2
  exact ⟨⟨nn, ⟨x, ws⟩⟩, rfl, hl⟩
theorem ty_dns {row : List AV} {n : Nat} (h : TY Try.prog (n + 4) 26 row) : ∃ nn, ∃ xs : List Dst.Dn, row = [.vw nn (xs.map Dst.nD)] ∧ xs.length ≤ Go.maxLen ∧ ∀ i, i < xs.length → (xs.getD i default).d.ws.length ≤ Go.maxLen := by
  unfold TY at h
  rw [Try.underlying26] at h
  obtain ⟨nn, es, rfl, h1, h2⟩ := h
  obtain ⟨ss, rfl⟩ := rows_of (f := fun x : { x : Dst.Dn // x.d.ws.length ≤ Go.maxLen } => Dst.nD x.1) es (fun r hr => by
    obtain ⟨x, h3, h4⟩ := ty_dn (h2 r hr)
    exact ⟨⟨x, h4⟩, h3⟩)
  refine ⟨nn, ss.map (·.1), by rw [List.map_map]; rfl, by simpa using h1, fun i hi => ?_⟩
  have hi2 : i < ss.length := by simpa using hi
  have e : (ss.map (·.1)).getD i default = (ss[i]).1 := by simp [List.getD_eq_getElem?_getD, List.getElem?_map, List.getElem?_eq_getElem hi2]
  rw [e]
  exact (ss[i]).2
theorem ty_dt {row : List AV} {n : Nat} {fs : Array Field} (hf : Try.prog.underlying 28 = some (.struct fs)) (h : TYs (TY Try.prog (n + 4)) fs.toList row) : ∃ a b c, ∃ r : Rec.Rc, ∃ xs : List Dst.Dn, row = Dst.dtR a b c r xs ∧ (r.cs.length ≤ Go.maxLen ∧ r.xs.length ≤ Go.maxLen) ∧ xs.length ≤ Go.maxLen ∧ ∀ i, i < xs.length → (xs.getD i default).d.ws.length ≤ Go.maxLen := by
  rw [Try.underlying28] at hf
  cases hf
  simp only [TYs] at h
  obtain ⟨r1, r2, rfl, h1, r3, r4, rfl, h2, rfl⟩ := h
  unfold TY at h1
  rw [Try.underlying25] at h1
  obtain ⟨a, b, r, rfl, l1, l2⟩ := ty_rec (n := n) Try.underlying25 h1
  obtain ⟨c, xs, rfl, l3, l4⟩ := ty_dns h2
  exact ⟨a, b, c, r, xs, rfl, ⟨l1, l2⟩, l3, l4⟩
set_option maxRecDepth 100000 in
theorem fixDate_lifted (os : Os) (started : os.Started) (H : Type) (enc : TypeId × Value → H) :
    ReturnsInHanded {} Try.checked os 9 .any (Rows.fnExactFixDateSpec.pre6 enc Try.prog Try.f9 Rows.fnExactFixDateRow.domain false) (Rows.fnExactFixDateSpec.post enc Try.prog Try.f9 false true false false) := by
  refine returnsInHanded_of_change_sized (C := Try.checked) own started (by kernel_rfl) Try.func9
    (ChangeSpec.witness6 (enc := enc) (C := Try.checked) false ⟨#[], #[.agg #[.slice none 0 0, .slice none 0 0, .slice none 0 0], .int .i64 0, .int .i64 0], []⟩ 8 (by kernel_rfl) (by kernel_rfl) (by kernel_rfl) (by kernel_rfl)) ?_
  intro W base args ds gs before hval0 hW hcnd hsz0 _
  have hval : ∀ (j : Nat) t v, Try.f9.params[j]? = some t → args[j]? = some v → Value.okWide Try.prog W .any base t v := hval0
  have hW' := hW
  obtain ⟨p, q, hA0, hV, rfl, hfz, hnd⟩ := hW
  have hA : DataW.TrodAll enc Try.prog W 0 (fun _ => true) true Try.f9.params.toList args.toList ds p := hA0
  rw [Try.params9] at hA hval
  obtain ⟨v0, vs0, d0, ds0, p0, q0, hargs0, rfl, rfl, h0, r0⟩ := trodAll_cons hA
  obtain ⟨v1, vs1, d1, ds1, p1, q1, hargs1, rfl, rfl, h1, r1⟩ := trodAll_cons r0
  obtain ⟨v2, vs2, d2, ds2, p2, q2, hargs2, rfl, rfl, h2, r2⟩ := trodAll_cons r1
  obtain ⟨rfl, rfl, rfl⟩ := trodAll_nil r2
  subst hargs2
  subst hargs1
  obtain rfl : args = #[v0, v1, v2] := by cases args; simp_all
  obtain ⟨rfl, rfl⟩ := trodVars_none hV
  have lt0 : ∀ x ∈ p0, x.block < W.heap.size := by obtain ⟨m, hm⟩ := h0; exact DataW.trod_lt m _ _ _ hm
  obtain ⟨row0, V0, ty0⟩ := arg_st (n := 5) Try.underlying28 (by kernel_rfl) (hval 0 28 v0 rfl rfl) h0
  have lt1 : ∀ x ∈ p1, x.block < W.heap.size := by obtain ⟨m, hm⟩ := h1; exact DataW.trod_lt m _ _ _ hm
  obtain ⟨x1, V1, wf1⟩ := arg_int (n := 1) Try.underlying3 (by kernel_rfl) (hval 1 3 v1 rfl rfl) h1
  have lt2 : ∀ x ∈ p2, x.block < W.heap.size := by obtain ⟨m, hm⟩ := h2; exact DataW.trod_lt m _ _ _ hm
  obtain ⟨x2, V2, wf2⟩ := arg_int (n := 1) Try.underlying3 (by kernel_rfl) (hval 2 3 v2 rfl rfl) h2
  clear hA0 hval0 hsz0
  obtain ⟨a, b, c, r, xs, rfl, ⟨l1, l2⟩, l3, l4⟩ := ty_dt Try.underlying28 ty0
  refine (con_true (Dst.con9 a b c r xs x1 x2 (by simpa [Go.maxLen] using l1) (by simpa [Go.maxLen] using l2) (by simpa [Go.maxLen] using l3) l4) (W := W) (cargs := #[v0, v1, v2]) (VL_3 V0 V1 V2)).mono fun e W' ⟨he, bel⟩ => ?_
  subst he
  exact ⟨_, rfl, _, _, _, [], _, [], hW', trodAll_mk1 (shut_bool Try.underlying4 _), (trodAll_cons_mk (Below.trod laidOut (by kernel_rfl) (of_decide_eq_true (by kernel_rfl)) h0 bel lt0) (trodAll_cons_mk (Below.trod laidOut (by kernel_rfl) (of_decide_eq_true (by kernel_rfl)) h1 bel lt1) (trodAll_cons_mk (Below.trod laidOut (by kernel_rfl) (of_decide_eq_true (by kernel_rfl)) h2 bel lt2) trodAll_mk0))), rfl, bel.frame _, fun h => by cases h⟩
theorem fixDate_holds : Rows.FnExactFixDateSaid :=
  OpenClaim.holds_of_wide 9 Try.f9 rfl rfl rfl rfl rfl rfl rfl ⟨rfl, rfl, rfl, rfl, rfl⟩ rfl rfl rfl rfl rfl (by kernel_rfl) Try.func9 (by kernel_rfl)
    (of_decide_eq_true (by kernel_rfl)) (by unfold Func.isWrapper; first | (rw [if_pos (by decide +kernel)]; kernel_rfl) | (rw [if_neg (by decide +kernel)]; exact ⟨rfl, rfl⟩))
    (fun os started H enc _ => fixDate_lifted os started H enc)
#print axioms fixDate_holds
end Go.Proofs.Ytkeobnaehgcloaa.DxD
