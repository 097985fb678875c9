/- Lists of distributions in memory: reading, marks. -/
import Derived.Test.YtnohaclnpbpjbaaPlA
namespace Go.Proofs.Ytnohaclnpbpjbaa.Ab
open Go
/-- A contract on own objects holds where more is known. -/
theorem Sh_sub {P : Program} {f : Nat} {args : List AV} {h h2 h' : List (Nat × Option Rows)} {nr nr' : Nat} {v : AV} (e : ∀ r rows, hg h r = some rows → hg h2 r = some rows) (hs : Sh P f args h nr v h' nr') : Sh P f args h2 nr v h' nr' := by
  refine ⟨hs.1, fun B c0 cargs hr => hs.2 B c0 cargs ⟨⟨?_, ?_, ?_, ?_, ?_, ?_, ?_⟩, hr.kn, hr.fb, hr.bb⟩⟩
  · exact fun r rows hq => hr.hr.known r rows (e r rows hq)
  · exact fun r rows hq => hr.hr.len r rows (e r rows hq)
  · exact fun r rows hq => hr.hr.rowlen r rows (e r rows hq)
  · exact fun r rows hq => hr.hr.cells r rows (e r rows hq)
  · exact fun r rows hq => hr.hr.live r rows (e r rows hq)
  · exact fun r rows hq => hr.hr.base r rows (e r rows hq)
  · exact fun r r' rows rows' hq hq' => hr.hr.inj r r' rows rows' (e r rows hq) (e r' rows' hq')
end Go.Proofs.Ytnohaclnpbpjbaa.Ab
namespace Go.Proofs.Ytnohaclnpbpjbaa.Dst
open Go Go.Proofs.Ytnohaclnpbpjbaa.Ab Go.Proofs.Ytnohaclnpbpjbaa.Il
attribute [local irreducible] wpO wpC wpDr wpQ wpG wpE stepA seqQ blkQ Ret RetG ev
set_option maxRecDepth 10000
set_option maxHeartbeats 8000000
set_option linter.unusedSimpArgs false
set_option linter.unusedVariables false

def tdH (q : Nat) (xs : List Dn) (h : List (Nat × Option Ab.Rows)) : List (Nat × Option Ab.Rows) := mkh q ((tdO xs).map (shR q)) ++ h
theorem tdH_in {m i : Nat} {xs : List Dn} {h : List (Nat × Option Ab.Rows)} {rows : Ab.Rows} (hi : (tdO xs)[i]? = some rows) : hg (tdH m xs h) (m + i) = some (shR m rows) := shOget hi
theorem tdH_out {m q : Nat} {xs : List Dn} {h : List (Nat × Option Ab.Rows)} {y : Option Ab.Rows} (hq : q < m ∨ m + (xs.length + 1) ≤ q) (h1 : hg h q = y) : hg (tdH m xs h) q = y := hg_out (fun hc => by
  have h1 := hc.1
  have h2 := hc.2
  rw [List.length_map, tdO_len] at h2
  omega) h1
theorem tdO_lt {i : Nat} {xs : List Dn} {rows : Ab.Rows} (hi : (tdO xs)[i]? = some rows) : i < xs.length + 1 := by
  have := (List.getElem?_eq_some_iff.1 hi).1
  rwa [tdO_len] at this
theorem dr_td {H : Nat → Option Ab.Rows} {q : Nat} (xs : List Dn) (hH : ∀ i rows, (tdO xs)[i]? = some rows → H (q + i) = some (shR q rows)) : Ab.dr H 6 (.sl q 2 0 xs.length) = .vw true ((tD xs).map nD) := by
  have e3 := nR_dr (K := hD) (b := q + 1) (xs := xs) (z := z0) (H := H) (q := q) (sz := 2) (m := 2) (by rw [← nR_sh]; exact hH 0 _ rfl) (fun i hi => by
    have h6 : (tdO xs)[i + 1]? = some ((hD.w (xs.getD i default)).map iRow) := nO_get (K := hD) (k := xs.length) hi (Nat.le_refl _)
    have := hH _ _ h6
    rw [shR_plain (rowsP _)] at this
    rwa [show q + 1 + i = q + (i + 1) by omega])
  rw [cR_nD] at e3
  exact e3
/-- Marks on a copy of a list: what else is known of stays known. -/
theorem sh_mdl (xs : List Dn) (h3 : xs.length ≤ 1048576) (hS : sL xs xs.length ≤ 1048576) {h h' : List (Nat × Option Ab.Rows)} {nr p : Nat} (hin : ∀ i rows, (tdO xs)[i]? = some rows → hg h (p + i) = some (shR p rows)) (hm : p + (xs.length + 1) ≤ nr) (hw' : wfH h' nr) (hsub : ∀ q rows, hg h' q = some rows → hg h q = some rows ∧ (q < p ∨ p + (xs.length + 1) ≤ q)) :
    Sh Try.prog 22 [.sl p 2 0 xs.length, .int .i64 1] h nr (.int .i64 (1 + xs.length + sL xs xs.length)) h' nr := by
  have i2 : hg h p = some (nR hD (p + 1) xs xs.length z0) := by have := hin 0 _ rfl; rwa [nR_sh] at this
  have i3 : ∀ i, i < xs.length → hg h (p + 1 + i) = some ((xs.getD i default).d.ws.map iRow) := fun i hi => by
    have h6 : (tdO xs)[i + 1]? = some ((hD.w (xs.getD i default)).map iRow) := nO_get (K := hD) (k := xs.length) hi (Nat.le_refl _)
    have := hin _ _ h6
    rw [shR_plain (rowsP _)] at this
    rwa [show p + 1 + i = p + (i + 1) by omega]
  refine sh22 xs 1 h3 hS (by omega) (by omega) (q := p) (b := p + 1) (fun q rows hq => ?_) (by omega) (by omega) (by omega) (fun q rows hq => by have := (hsub q rows hq).2; omega) hw'
  rcases hM_cs hq with ⟨rfl, rfl⟩ | ⟨g1, i, hi, rfl, rfl⟩ | ⟨g1, g2, g3⟩
  · exact i2
  · exact i3 i hi
  · exact (hsub q rows g3).1
theorem hg_memL : ∀ (l : List (Nat × Option Ab.Rows)) {q : Nat} {rows : Ab.Rows}, hg l q = some rows → (q, some rows) ∈ l
  | [], q, rows, h => by simp [Ab.hg, upd] at h
  | (k, x) :: l, q, rows, h => by
    have e : hg ((k, x) :: l) q = if q = k then x else hg l q := rfl
    rw [e] at h
    split at h
    · rename_i hk; subst hk; subst h; exact List.mem_cons_self
    · exact List.mem_cons_of_mem _ (hg_memL l h)
end Go.Proofs.Ytnohaclnpbpjbaa.Dst
