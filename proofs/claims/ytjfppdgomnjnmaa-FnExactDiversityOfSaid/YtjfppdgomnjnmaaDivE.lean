/- 'laws.FnExactDiversityOf' returns true for every input, and the input reads behind the call as it read before. No condition. -/
import Derived.Test.YtjfppdgomnjnmaaRows
import Derived.Test.YtjfppdgomnjnmaaDivD
import Derived.ProofKit
import Derived.OpenShut
import Derived.ChangeOld
import Derived.SizedLaws
namespace Go.Proofs.Ytjfppdgomnjnmaa.DivE
open Go.ChangeShapes Go.WideShapes Go.ChangeAt Go.RowKit Go.Proofs.Ytjfppdgomnjnmaa Go.Proofs.Ytjfppdgomnjnmaa.Ab Go.Proofs.Ytjfppdgomnjnmaa.Il Go.Proofs.Ytjfppdgomnjnmaa.Fnd
set_option linter.unusedVariables false

theorem own : ownKnob Try.prog.godebug = none := by kernel_rfl
theorem laidOut : laidOutB Try.prog = true := by kernel_rfl

theorem ty_find {row : List AV} (h : TY Try.prog 5 49 row) : ∃ f : Fnd.Fd, row = fRow f ∧ f.t.size ≤ Go.maxLen := by
  simp only [TY, Try.underlying49, Try.underlying3, Try.underlying9, TYs] at h
  obtain ⟨_, _, rfl, ⟨c, rfl, _⟩, _, _, rfl, ⟨t, rfl, ht⟩, _, _, rfl, ⟨n, rfl, _⟩, _, _, rfl, ⟨w, rfl, _⟩, _, _, rfl, ⟨r, rfl, _⟩, rfl⟩ := h
  exact ⟨⟨c, t, n, w, r⟩, rfl, ht⟩
theorem rows_find : ∀ (es : List (List AV)), (∀ r ∈ es, ∃ f : Fnd.Fd, r = fRow f ∧ f.t.size ≤ Go.maxLen) → ∃ xs : List Fnd.Fd, es = xs.map fRow ∧ ∀ i, i < xs.length → (xs.getD i default).t.size ≤ 9223372036854775807
  | [], _ => ⟨[], rfl, fun i hi => by simp at hi⟩
  | r :: es, h => by
    obtain ⟨f, rfl, hf⟩ := h r List.mem_cons_self
    obtain ⟨xs, rfl, hx⟩ := rows_find es (fun q hq => h q (List.mem_cons_of_mem _ hq))
    refine ⟨f :: xs, rfl, fun i hi => ?_⟩
    cases i with
    | zero => simpa [Go.maxLen] using hf
    | succ i => simpa using hx i (by simpa using hi)
theorem VL_5 {c : Cx} {x y z a d : AV} {v u w b e : Value} (h : V c x v) (h2 : V c y u) (h3 : V c z w) (h4 : V c a b) (h5 : V c d e) : VL c [x, y, z, a, d] #[v, u, w, b, e].toList := ⟨v, [u, w, b, e], rfl, h, u, [w, b, e], rfl, h2, w, [b, e], rfl, h3, b, [e], rfl, h4, e, [], rfl, h5, rfl⟩
theorem ty_str {row : List AV} {n : Nat} (h : TY Try.prog (n + 1) 9 row) : ∃ s : ByteArray, row = sRow s ∧ s.size ≤ Go.maxLen := by
  simp only [TY, Try.underlying9] at h
  obtain ⟨s, rfl, hs⟩ := h
  exact ⟨s, rfl, hs⟩
theorem rows_str : ∀ (es : List (List AV)), (∀ r ∈ es, ∃ f : ByteArray, r = sRow f ∧ f.size ≤ Go.maxLen) → ∃ xs : List ByteArray, es = xs.map sRow ∧ ∀ i, i < xs.length → (xs.getD i default).size ≤ 9223372036854775807
  | [], _ => ⟨[], rfl, fun i hi => by simp at hi⟩
  | r :: es, h => by
    obtain ⟨f, rfl, hf⟩ := h r List.mem_cons_self
    obtain ⟨xs, rfl, hx⟩ := rows_str es (fun q hq => h q (List.mem_cons_of_mem _ hq))
    refine ⟨f :: xs, rfl, fun i hi => ?_⟩
    cases i with
    | zero => simpa [Go.maxLen] using hf
    | succ i => simpa using hx i (by simpa using hi)
theorem ty_int {row : List AV} {n : Nat} (h : TY Try.prog (n + 1) 3 row) : ∃ x : Int, row = iRow x := by
  simp only [TY, Try.underlying3] at h
  obtain ⟨x, rfl, _⟩ := h
  exact ⟨x, rfl⟩
set_option maxRecDepth 100000 in
theorem diversityOf_lifted (os : Os) (started : os.Started) (H : Type) (enc : TypeId × Value → H) :
    ReturnsInHanded {} Try.checked os 7 .any (Rows.fnExactDiversityOfSpec.pre6 enc Try.prog Try.f7 Rows.fnExactDiversityOfRow.domain false) (Rows.fnExactDiversityOfSpec.post enc Try.prog Try.f7 false true false false) := by
  refine returnsInHanded_of_change_sized (C := Try.checked) own started (by kernel_rfl) Try.func7
    (ChangeSpec.witness6 (enc := enc) (C := Try.checked) false ⟨#[], #[.slice none 0 0, .int .i64 0], []⟩ 8 (by kernel_rfl) (by kernel_rfl) (by kernel_rfl) (by kernel_rfl)) ?_
  intro W base args ds gs before hval0 hW hcnd hsz0 _
  have hval : ∀ (j : Nat) t v, Try.f7.params[j]? = some t → args[j]? = some v → Value.okWide Try.prog W .any base t v := hval0
  have hW' := hW
  obtain ⟨p, q, hA0, hV, rfl, hfz, hnd⟩ := hW
  have hA : DataW.TrodAll enc Try.prog W 0 (fun _ => true) true Try.f7.params.toList args.toList ds p := hA0
  rw [Try.params7] at hA hval
  obtain ⟨v0, vs0, d0, ds0, p0, q0, hargs0, rfl, rfl, h0, r0⟩ := trodAll_cons hA
  obtain ⟨v1, vs1, d1, ds1, p1, q1, hargs1, rfl, rfl, h1, r1⟩ := trodAll_cons r0
  obtain ⟨rfl, rfl, rfl⟩ := trodAll_nil r1
  subst hargs1
  obtain rfl : args = #[v0, v1] := by cases args; simp_all
  obtain ⟨rfl, rfl⟩ := trodVars_none hV
  have lt0 : ∀ x ∈ p0, x.block < W.heap.size := by obtain ⟨m, hm⟩ := h0; exact DataW.trod_lt m _ _ _ hm
  obtain ⟨nn0, es0, V0, hl0, hr0⟩ := arg_sl (n := 5) Try.underlying22 (by kernel_rfl) (hval 0 22 v0 rfl rfl) h0
  have lt1 : ∀ x ∈ p1, x.block < W.heap.size := by obtain ⟨m, hm⟩ := h1; exact DataW.trod_lt m _ _ _ hm
  obtain ⟨x1, V1, wf1⟩ := arg_int (n := 1) Try.underlying3 (by kernel_rfl) (hval 1 3 v1 rfl rfl) h1
  clear hA0 hval0 hsz0
  obtain ⟨xs, rfl, hsz⟩ := rows_find es0 (fun r hr => ty_find (hr0 r hr))
  refine (con_true (con7 nn0 xs x1 (by simpa [Go.maxLen] using hl0) hsz) (W := W) (cargs := #[v0, v1]) (VL_2 V0 V1)).mono fun e W' ⟨he, bel⟩ => ?_
  subst he
  exact ⟨_, rfl, _, _, _, [], _, [], hW', trodAll_mk1 (shut_bool Try.underlying4 _), (trodAll_cons_mk (Below.trod laidOut (by kernel_rfl) (of_decide_eq_true (by kernel_rfl)) h0 bel lt0) (trodAll_cons_mk (Below.trod laidOut (by kernel_rfl) (of_decide_eq_true (by kernel_rfl)) h1 bel lt1) trodAll_mk0)), rfl, bel.frame _, fun h => by cases h⟩
theorem diversityOf_holds : Rows.FnExactDiversityOfSaid :=
  OpenClaim.holds_of_wide 7 Try.f7 rfl rfl rfl rfl rfl rfl rfl ⟨rfl, rfl, rfl, rfl, rfl⟩ rfl rfl rfl rfl rfl (by kernel_rfl) Try.func7 (by kernel_rfl)
    (of_decide_eq_true (by kernel_rfl)) (by unfold Func.isWrapper; first | (rw [if_pos (by decide +kernel)]; kernel_rfl) | (rw [if_neg (by decide +kernel)]; exact ⟨rfl, rfl⟩))
    (fun os started H enc _ => diversityOf_lifted os started H enc)
#print axioms diversityOf_holds
end Go.Proofs.Ytjfppdgomnjnmaa.DivE
