/- 'laws.FnExactLaterBy' returns true for every input, and the input reads behind the call as it read before. No condition. -/
import Derived.Test.YtdljklicegcbpaaRows
import Derived.Test.YtdljklicegcbpaaLatC
import Derived.ProofKit
import Derived.OpenShut
import Derived.ChangeOld
import Derived.SizedLaws
namespace Go.Proofs.Ytdljklicegcbpaa.LatG
open Go.ChangeShapes Go.WideShapes Go.ChangeAt Go.RowKit Go.Proofs.Ytdljklicegcbpaa Go.Proofs.Ytdljklicegcbpaa.Ab Go.Proofs.Ytdljklicegcbpaa.Il Go.Proofs.Ytdljklicegcbpaa.Dst
set_option linter.unusedVariables false

theorem own : ownKnob Try.prog.godebug = none := by kernel_rfl
theorem laidOut : laidOutB Try.prog = true := by kernel_rfl

theorem ty_int {row : List AV} {n : Nat} (h : TY Try.prog (n + 1) 3 row) : ∃ x : Int, row = iRow x := by
  simp only [TY, Try.underlying3] at h
  obtain ⟨x, rfl, _⟩ := h
  exact ⟨x, rfl⟩
theorem ty_ints {row : List AV} {n : Nat} (h : TY Try.prog (n + 2) 22 row) : ∃ nn, ∃ ws : List Int, row = [.vw nn (ws.map iRow)] ∧ ws.length ≤ Go.maxLen := by
  unfold TY at h
  rw [Try.underlying22] at h
  obtain ⟨nn, es, rfl, h1, h2⟩ := h
  obtain ⟨xs, rfl⟩ := rows_of es (fun r hr => ty_int (h2 r hr))
  exact ⟨nn, xs, rfl, by simpa using h1⟩
theorem ty_dist {row : List AV} {n : Nat} {fs : Array Field} (hf : Try.prog.underlying 24 = some (.struct fs)) (h : TYs (TY Try.prog (n + 2)) fs.toList row) : ∃ nn, ∃ d : Ds, row = dRow nn d ∧ d.ws.length ≤ Go.maxLen := by
  rw [Try.underlying24] at hf
  cases hf
  simp only [TYs] at h
  obtain ⟨r1, r2, rfl, h1, r3, r4, rfl, h2, rfl⟩ := h
  obtain ⟨x, rfl⟩ := ty_int h1
  obtain ⟨nn, ws, rfl, hl⟩ := ty_ints h2
  exact ⟨nn, ⟨x, ws⟩, rfl, hl⟩
set_option maxRecDepth 100000 in
theorem laterBy_lifted (os : Os) (started : os.Started) (H : Type) (enc : TypeId × Value → H) :
    ReturnsInHanded {} Try.checked os 12 .any (Rows.fnExactLaterBySpec.pre6 enc Try.prog Try.f12 Rows.fnExactLaterByRow.domain false) (Rows.fnExactLaterBySpec.post enc Try.prog Try.f12 false true false false) := by
  refine returnsInHanded_of_change_sized (C := Try.checked) own started (by kernel_rfl) Try.func12
    (ChangeSpec.witness6 (enc := enc) (C := Try.checked) false ⟨#[], #[.agg #[.int .i64 0, .slice none 0 0], .agg #[.int .i64 0, .slice none 0 0]], []⟩ 8 (by kernel_rfl) (by kernel_rfl) (by kernel_rfl) (by kernel_rfl)) ?_
  intro W base args ds gs before hval0 hW hcnd hsz0 _
  have hval : ∀ (j : Nat) t v, Try.f12.params[j]? = some t → args[j]? = some v → Value.okWide Try.prog W .any base t v := hval0
  have hW' := hW
  obtain ⟨p, q, hA0, hV, rfl, hfz, hnd⟩ := hW
  have hA : DataW.TrodAll enc Try.prog W 0 (fun _ => true) true Try.f12.params.toList args.toList ds p := hA0
  rw [Try.params12] at hA hval
  obtain ⟨v0, vs0, d0, ds0, p0, q0, hargs0, rfl, rfl, h0, r0⟩ := trodAll_cons hA
  obtain ⟨v1, vs1, d1, ds1, p1, q1, hargs1, rfl, rfl, h1, r1⟩ := trodAll_cons r0
  obtain ⟨rfl, rfl, rfl⟩ := trodAll_nil r1
  subst hargs1
  obtain rfl : args = #[v0, v1] := by cases args; simp_all
  obtain ⟨rfl, rfl⟩ := trodVars_none hV
  have lt0 : ∀ x ∈ p0, x.block < W.heap.size := by obtain ⟨m, hm⟩ := h0; exact DataW.trod_lt m _ _ _ hm
  obtain ⟨row0, V0, ty0⟩ := arg_st (n := 5) Try.underlying24 (by kernel_rfl) (hval 0 24 v0 rfl rfl) h0
  have lt1 : ∀ x ∈ p1, x.block < W.heap.size := by obtain ⟨m, hm⟩ := h1; exact DataW.trod_lt m _ _ _ hm
  obtain ⟨row1, V1, ty1⟩ := arg_st (n := 5) Try.underlying24 (by kernel_rfl) (hval 1 24 v1 rfl rfl) h1
  clear hA0 hval0 hsz0
  obtain ⟨na, a, rfl, hla⟩ := ty_dist Try.underlying24 ty0
  obtain ⟨nb, b, rfl, hlb⟩ := ty_dist Try.underlying24 ty1
  refine (con_true (con12 na nb a b (by simpa [Go.maxLen] using hla) (by simpa [Go.maxLen] using hlb)) (W := W) (cargs := #[v0, v1]) (VL_2 V0 V1)).mono fun e W' ⟨he, bel⟩ => ?_
  subst he
  exact ⟨_, rfl, _, _, _, [], _, [], hW', trodAll_mk1 (shut_bool Try.underlying4 _), (trodAll_cons_mk (Below.trod laidOut (by kernel_rfl) (of_decide_eq_true (by kernel_rfl)) h0 bel lt0) (trodAll_cons_mk (Below.trod laidOut (by kernel_rfl) (of_decide_eq_true (by kernel_rfl)) h1 bel lt1) trodAll_mk0)), rfl, bel.frame _, fun h => by cases h⟩
theorem laterBy_holds : Rows.FnExactLaterBySaid :=
  OpenClaim.holds_of_wide 12 Try.f12 rfl rfl rfl rfl rfl rfl rfl ⟨rfl, rfl, rfl, rfl, rfl⟩ rfl rfl rfl rfl rfl (by kernel_rfl) Try.func12 (by kernel_rfl)
    (of_decide_eq_true (by kernel_rfl)) (by unfold Func.isWrapper; first | (rw [if_pos (by decide +kernel)]; kernel_rfl) | (rw [if_neg (by decide +kernel)]; exact ⟨rfl, rfl⟩))
    (fun os started H enc _ => laterBy_lifted os started H enc)
#print axioms laterBy_holds
end Go.Proofs.Ytdljklicegcbpaa.LatG
