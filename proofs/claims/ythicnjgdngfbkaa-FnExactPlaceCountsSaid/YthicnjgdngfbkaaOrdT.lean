/- An order's objects as they stand behind the call that made them. -/
import Derived.Test.YthicnjgdngfbkaaRecG
import Derived.Test.YthicnjgdngfbkaaAb4
namespace Go.Proofs.Ythicnjgdngfbkaa.Rec
open Go Go.Proofs.Ythicnjgdngfbkaa.Ab Go.Proofs.Ythicnjgdngfbkaa.Il
set_option maxRecDepth 10000
set_option maxHeartbeats 8000000
set_option linter.unusedSimpArgs false
set_option linter.unusedVariables false

theorem ltr_sh {m b : Nat} : ∀ (l : List AV), (∀ x ∈ l, AV.ltr m x = true ∧ (x.plain = true ∨ ∃ r s o q, x = .sl r s o q)) → ∀ x ∈ shL b l, AV.ltr (b + m) x = true
  | [], _, x, hx => by simp [shL] at hx
  | y :: ys, h, x, hx => by
    rw [shL] at hx
    rcases List.mem_cons.1 hx with rfl | hx
    · obtain ⟨h1, h2 | ⟨r, s, o, q, rfl⟩⟩ := h y List.mem_cons_self
      · rw [sh_plain h2]; cases y <;> first | rfl | simp [AV.plain] at h2
      · simp [sh, AV.ltr] at h1 ⊢; omega
    · exact ltr_sh ys (fun z hz => h z (List.mem_cons_of_mem _ hz)) x hx
/-- What stands in an order's objects: plain values and lists. -/
theorem ordO_sl {nb : Ab.Rows} (hnb : ∀ row ∈ nb, ∀ x ∈ row, AV.plain x = true) (W A : Nat → Nat → Bool) (n : Nat) : ∀ rows ∈ ordO nb W A n, ∀ row ∈ rows, ∀ x ∈ row, x.plain = true ∨ ∃ r s o q, x = .sl r s o q := by
  intro rows hm row hrow x hx
  cases n with
  | zero =>
    simp [ordO] at hm
    rcases hm with rfl | rfl
    · simp at hrow; subst hrow; simp at hx; rcases hx with rfl | rfl | rfl <;> simp [AV.plain]
    · simp at hrow
  | succ n =>
    rcases List.mem_cons.1 hm with rfl | hm
    · simp at hrow; subst hrow; simp at hx; rcases hx with rfl | rfl | rfl <;> simp [AV.plain]
    rcases List.mem_cons.1 hm with rfl | hm
    · obtain ⟨k, _, rfl⟩ := List.mem_map.1 hrow; simp at hx; subst hx; simp [AV.plain]
    rcases List.mem_cons.1 hm with rfl | hm
    · obtain ⟨k, _, rfl⟩ := List.mem_map.1 hrow; simp at hx; subst hx; simp [AV.plain]
    rcases List.mem_cons.1 hm with rfl | hm
    · exact .inl (hnb row hrow x hx)
    · rcases List.mem_append.1 hm with hm | hm
      · obtain ⟨k, _, rfl⟩ := List.mem_map.1 hm; exact .inl (boolR_plain _ _ row hrow x hx)
      · obtain ⟨k, _, rfl⟩ := List.mem_map.1 hm; exact .inl (boolR_plain _ _ row hrow x hx)
noncomputable def oT (a b : Bool) (r : Rc) : List (Nat × Option Ab.Rows) := mkh 1 ((oO r).map (shR 1)) ++ [(0, some [rRow a b r])]
theorem oT_wf (a b : Bool) (r : Rc) : wfH (oT a b r) ((oO r).length + 1) := by
  intro q rows hq
  unfold oT at hq
  rw [hg_app] at hq
  split at hq
  · rename_i hc
    rw [List.length_map] at hc
    refine ⟨by omega, fun row hrow x hx => ?_⟩
    rw [List.getElem?_map, Option.map_eq_some_iff] at hq
    obtain ⟨rows0, h0, rfl⟩ := hq
    obtain ⟨row0, hr0, rfl⟩ := List.mem_map.1 hrow
    have hm := List.mem_of_getElem? h0
    have := ltr_sh (b := 1) (m := (oO r).length) row0 (fun y hy => ⟨(ordO_nest (rowsP _) _ _ _ rows0 hm row0 hr0 y hy).1, ordO_sl (rowsP _) _ _ _ rows0 hm row0 hr0 y hy⟩) x hx
    rwa [Nat.add_comm] at this
  · have h1 : q = 0 ∧ rows = [rRow a b r] := by
      by_cases h0 : q = 0
      · subst h0; exact ⟨rfl, (Option.some.inj hq).symm⟩
      · simp [Ab.hg, upd, h0] at hq
    obtain ⟨rfl, rfl⟩ := h1
    refine ⟨by omega, fun row hrow x hx => ?_⟩
    simp at hrow; subst hrow
    simp [rRow] at hx
    rcases hx with rfl | rfl <;> rfl
theorem oT_0 {a b : Bool} {r : Rc} : hg (oT a b r) 0 = some [rRow a b r] := hg_out (fun h => by have := h.1; omega) rfl
theorem oT_in {a b : Bool} {r : Rc} {i : Nat} {rows : Ab.Rows} (h : (oO r)[i]? = some rows) : hg (oT a b r) (1 + i) = some (shR 1 rows) := shO_get h
theorem oO_st (r : Rc) : ∃ x y z, (oO r)[0]? = some [[x, y, z]] ∧ ∀ (T : Nat → AV) (H : Nat → Option Ab.Rows) (nr : Nat) (q : AX), gT T q = sh 1 x → Ab.ev (gT T) H nr (.len q) = some (.int .i64 (r.cs.length : Int), [], 0) := by
  unfold oO
  cases r.cs.length with
  | zero => exact ⟨_, _, _, rfl, fun T H nr q h => o_len_nil h⟩
  | succ n => exact ⟨_, _, _, rfl, fun T H nr q h => o_len_sl h⟩
end Go.Proofs.Ythicnjgdngfbkaa.Rec
