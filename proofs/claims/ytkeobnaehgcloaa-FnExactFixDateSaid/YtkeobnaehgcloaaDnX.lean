/- Marks on a copied record, whatever else is known. -/
import Derived.Test.YtkeobnaehgcloaaDnK
import Derived.Test.YtkeobnaehgcloaaDnD
namespace Go.Proofs.Ytkeobnaehgcloaa.Ab
open Go
/-- A contract on own objects holds where more is known. -/
theorem Sh_sub {P : Program} {f : Nat} {args : List AV} {h h2 h' : List (Nat × Option Rows)} {nr nr' : Nat} {v : AV} (e : ∀ r rows, hg h r = some rows → hg h2 r = some rows) (hs : Sh P f args h nr v h' nr') : Sh P f args h2 nr v h' nr' := by
  refine ⟨hs.1, fun B c0 cargs hr => hs.2 B c0 cargs ⟨⟨?_, ?_, ?_, ?_, ?_, ?_, ?_⟩, hr.kn, hr.fb, hr.bb⟩⟩
  · exact fun r rows hq => hr.hr.known r rows (e r rows hq)
  · exact fun r rows hq => hr.hr.len r rows (e r rows hq)
  · exact fun r rows hq => hr.hr.rowlen r rows (e r rows hq)
  · exact fun r rows hq => hr.hr.cells r rows (e r rows hq)
  · exact fun r rows hq => hr.hr.live r rows (e r rows hq)
  · exact fun r rows hq => hr.hr.base r rows (e r rows hq)
  · exact fun r r' rows rows' hq hq' => hr.hr.inj r r' rows rows' (e r rows hq) (e r' rows' hq')
end Go.Proofs.Ytkeobnaehgcloaa.Ab
namespace Go.Proofs.Ytkeobnaehgcloaa.Dst
open Go Go.Proofs.Ytkeobnaehgcloaa.Ab Go.Proofs.Ytkeobnaehgcloaa.Il Go.Proofs.Ytkeobnaehgcloaa.Rec
attribute [local irreducible] wpO wpC wpDr wpQ wpG wpE stepA seqQ blkQ Ret RetG ev
set_option maxRecDepth 10000
set_option maxHeartbeats 8000000
set_option linter.unusedSimpArgs false
set_option linter.unusedVariables false


theorem dtH_wf {m nr : Nat} {r : Rc} {xs : List Dn} {h : List (Nat × Option Ab.Rows)} (hm : m + (xs.length + 3) ≤ nr) (hw : wfH h nr) : wfH (dtH m r xs h) nr := by
  intro q rows hq
  by_cases e : m ≤ q ∧ q < m + (xs.length + 3)
  · obtain ⟨i, rfl⟩ : ∃ i, q = m + i := ⟨q - m, by omega⟩
    refine ⟨by omega, ?_⟩
    have hi : i < (dtO r xs).length := by rw [dtO_len]; omega
    obtain ⟨rows0, h0⟩ : ∃ rows0, (dtO r xs)[i]? = some rows0 := ⟨_, List.getElem?_eq_getElem hi⟩
    rw [dtH_in h0] at hq
    cases hq
    match i, h0 with
    | 0, h0 => cases h0; rw [shR_plain (cRowsP _)]; exact ltrK _ _
    | 1, h0 => cases h0; rw [shR_plain (xRowsP _)]; exact ltrX _ _
    | 2, h0 =>
      cases h0
      rw [nR_sh]
      exact nR_ltr (by omega) (fun x _ y hy => by
        simp only [z0, List.mem_cons, List.not_mem_nil, or_false] at hy
        rcases hy with rfl | rfl <;> rfl)
    | i + 3, h0 =>
      have h6 : (dtO r xs)[i + 3]? = some ((hD.w (xs.getD i default)).map iRow) := nO_get (K := hD) (k := xs.length) (by omega) (Nat.le_refl _)
      rw [h6] at h0
      cases h0
      rw [shR_plain (rowsP _)]
      exact ltrI _ _
  · rw [dtH, hg_app] at hq
    rw [List.length_map, dtO_len, if_neg e] at hq
    exact hw q rows hq
/-- Marks on a copy of a record: what else is known of stays known. -/
theorem sh_mdr (r : Rc) (xs : List Dn) (h1 : r.cs.length ≤ 1048576) (h2 : r.xs.length ≤ 1048576) (h3 : xs.length ≤ 1048576) (hS : sL xs xs.length ≤ 1048576) {h h' : List (Nat × Option Ab.Rows)} {nr m : Nat} (hin : ∀ i rows, (dtO r xs)[i]? = some rows → hg h (m + i) = some (shR m rows)) (hm : m + (xs.length + 3) ≤ nr) (hw' : wfH h' nr) (hsub : ∀ q rows, hg h' q = some rows → hg h q = some rows ∧ (q < m ∨ m + (xs.length + 3) ≤ q)) :
    Sh Try.prog 20 [dtV m r xs, .int .i64 1] h nr (.int .i64 (1 + 2 * r.cs.length + 2 * r.xs.length + xs.length + sL xs xs.length)) h' (nr + 2) := by
  refine Sh_sub (h := dtH m r xs h') (fun q rows hq => ?_) (sh20 r xs h1 h2 h3 hS (fun i rows hi => dtH_in hi) hm (dtH_wf hm hw') hw' (fun q rows hq => ⟨dtH_out (hsub q rows hq).2 hq, (hsub q rows hq).2⟩))
  by_cases e : m ≤ q ∧ q < m + (xs.length + 3)
  · obtain ⟨i, rfl⟩ : ∃ i, q = m + i := ⟨q - m, by omega⟩
    have hi : i < (dtO r xs).length := by rw [dtO_len]; omega
    obtain ⟨rows0, h0⟩ : ∃ rows0, (dtO r xs)[i]? = some rows0 := ⟨_, List.getElem?_eq_getElem hi⟩
    rw [dtH_in h0] at hq
    rw [hin i rows0 h0]; exact hq
  · rw [dtH, hg_app] at hq
    rw [List.length_map, dtO_len, if_neg e] at hq
    exact (hsub q rows hq).1
theorem hg_memL : ∀ (l : List (Nat × Option Ab.Rows)) {q : Nat} {rows : Ab.Rows}, hg l q = some rows → (q, some rows) ∈ l
  | [], q, rows, h => by simp [Ab.hg, upd] at h
  | (k, x) :: l, q, rows, h => by
    have e : hg ((k, x) :: l) q = if q = k then x else hg l q := rfl
    rw [e] at h
    split at h
    · rename_i hk; subst hk; subst h; exact List.mem_cons_self
    · exact List.mem_cons_of_mem _ (hg_memL l h)
end Go.Proofs.Ytkeobnaehgcloaa.Dst
