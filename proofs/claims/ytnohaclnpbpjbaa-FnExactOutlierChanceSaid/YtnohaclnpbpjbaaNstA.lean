/- Lists whose elements hold lists of whole numbers: how they stand in own memory while they are copied, and by content. -/
import Derived.Test.YtnohaclnpbpjbaaIntA
import Derived.Test.YtnohaclnpbpjbaaAb4
namespace Go.Proofs.Ytnohaclnpbpjbaa.Il
open Go Go.Proofs.Ytnohaclnpbpjbaa.Ab
set_option maxRecDepth 10000
set_option linter.unusedSimpArgs false
set_option linter.unusedVariables false

theorem shOget {objs : List Ab.Rows} {b i : Nat} {rows : Ab.Rows} {h : List (Nat × Option Ab.Rows)} (hi : objs[i]? = some rows) : hg (mkh b (objs.map (shR b)) ++ h) (b + i) = some (shR b rows) := by
  refine hg_in (by omega) ?_
  rw [Nat.add_sub_cancel_left, List.getElem?_map, hi]
  rfl
theorem gRange {α : Type} {f : Nat → α} {n i : Nat} (h : i < n) : ((List.range n).map f)[i]? = some (f i) := by
  simp [List.getElem?_map, List.getElem?_range h]
/-- Elements with a place for a list. -/
structure Hol (α : Type) where
  g : α → AV → List AV
  w : α → List Int
  sh : ∀ n x v, shL n (g x v) = g x (Ab.sh n v)
  rn : ∀ π x v, rnL π (g x v) = g x (Ab.rn π v)
  dr : ∀ H m x v, (g x v).map (Ab.dr H (m + 1)) = g x (Ab.dr H (m + 1) v)
  mem : ∀ x v y, y ∈ g x v → y.plain = true ∨ y = v

section
variable {α : Type} (K : Hol α)
def nO (xs : List α) (k : Nat) : List Ab.Rows := (xs.take k).map fun x => (K.w x).map iRow
def cR (b : Bool) (x : α) : List AV := K.g x (.vw b ((K.w x).map iRow))
variable {K} {k : Nat} {xs : List α}
theorem nO_len (h : k ≤ xs.length) : (nO K xs k).length = k := by simp [nO]; omega
theorem g_ltr {x : α} {v : AV} {m : Nat} (hv : AV.ltr m v = true) : ∀ y ∈ K.g x v, AV.ltr m y = true := by
  intro y hy
  rcases K.mem x v y hy with h | rfl
  · cases y <;> first | rfl | simp [AV.plain] at h
  · exact hv
theorem nO_ltr (m : Nat) : ∀ rows ∈ nO K xs k, ∀ row ∈ rows, ∀ x ∈ row, AV.ltr m x = true := by
  intro rows hr
  obtain ⟨x, _, rfl⟩ := List.mem_map.1 hr
  exact ltrI _ m
theorem nO_plain : PlainObjs (nO K xs k) := by
  intro rows hr row hrow x hx
  obtain ⟨y, _, rfl⟩ := List.mem_map.1 hr
  exact rowsP _ row hrow x hx
theorem cR_ltr (b : Bool) (m : Nat) (x : α) : ∀ y ∈ cR K b x, AV.ltr m y = true := g_ltr rfl
end
section
variable {α : Type} [Inhabited α] (K : Hol α)
/-- The first k have their own lists, under the numbers b, b + 1 ..; the others look as z tells. -/
def nR (b : Nat) (xs : List α) (k : Nat) (z : α → List AV) : Ab.Rows := (List.range xs.length).map fun i => if i < k then K.g (xs.getD i default) (.sl (b + i) 1 0 (K.w (xs.getD i default)).length) else z (xs.getD i default)
variable {K} {b k : Nat} {xs : List α} {z : α → List AV}
theorem nR_len : (nR K b xs k z).length = xs.length := by simp [nR]
theorem nR_get {i : Nat} (h : i < xs.length) : (nR K b xs k z)[i]? = some (if i < k then K.g (xs.getD i default) (.sl (b + i) 1 0 (K.w (xs.getD i default)).length) else z (xs.getD i default)) := gRange h
theorem nR_at (h : k < xs.length) : (nR K b xs k z)[k]? = some (z (xs.getD k default)) := by rw [nR_get h, if_neg (Nat.lt_irrefl k)]
theorem nR_get_n {i : Nat} (h : i < xs.length) : (nR K b xs xs.length z)[i]? = some (K.g (xs.getD i default) (.sl (b + i) 1 0 (K.w (xs.getD i default)).length)) := by rw [nR_get h, if_pos h]
theorem nO_get {i : Nat} (h : i < k) (hk : k ≤ xs.length) : (nO K xs k)[i]? = some ((K.w (xs.getD i default)).map iRow) := by
  have : i < xs.length := by omega
  simp [nO, List.getElem?_map, List.getElem?_take, h, List.getElem?_eq_getElem this, List.getD_eq_getElem?_getD]
theorem nR_0 : nR K b xs 0 z = xs.map z := by
  refine List.ext_getElem? fun i => ?_
  by_cases h : i < xs.length
  · rw [nR_get h, if_neg (Nat.not_lt_zero i), List.getElem?_map, List.getElem?_eq_getElem h]
    simp [List.getD_eq_getElem?_getD, List.getElem?_eq_getElem h]
  · rw [List.getElem?_eq_none (by rw [nR_len]; omega), List.getElem?_eq_none (by simp; omega)]
theorem nR_set (h : k < xs.length) : (nR K b xs k z).set k (K.g (xs.getD k default) (.sl (b + k) 1 0 (K.w (xs.getD k default)).length)) = nR K b xs (k + 1) z := by
  refine List.ext_getElem? fun i => ?_
  by_cases hi : i < xs.length
  · rw [nR_get hi]
    by_cases e : k = i
    · subst e
      rw [List.getElem?_set_self (by rw [nR_len]; omega), if_pos (Nat.lt_succ_self k)]
    · rw [List.getElem?_set_ne e, nR_get hi]
      by_cases g : i < k
      · rw [if_pos g, if_pos (by omega)]
      · rw [if_neg g, if_neg (by omega)]
  · rw [List.getElem?_eq_none (by rw [List.length_set, nR_len]; omega), List.getElem?_eq_none (by rw [nR_len]; omega)]
theorem mem_nR {row : List AV} (h : row ∈ nR K b xs k z) : ∃ i, i < xs.length ∧ ((i < k ∧ row = K.g (xs.getD i default) (.sl (b + i) 1 0 (K.w (xs.getD i default)).length)) ∨ (k ≤ i ∧ row = z (xs.getD i default))) := by
  obtain ⟨i, hi, rfl⟩ := List.mem_map.1 h
  refine ⟨i, List.mem_range.1 hi, ?_⟩
  by_cases g : i < k
  · exact .inl ⟨g, if_pos g⟩
  · exact .inr ⟨by omega, if_neg g⟩
theorem nR_ltr {m : Nat} (hb : b + k ≤ m) (hz : ∀ x ∈ xs, ∀ y ∈ z x, AV.ltr m y = true) : ∀ row ∈ nR K b xs k z, ∀ x ∈ row, AV.ltr m x = true := by
  intro row hr x hx
  obtain ⟨i, hi, ⟨h1, rfl⟩ | ⟨h1, rfl⟩⟩ := mem_nR hr
  · exact g_ltr (by simp [AV.ltr]; omega) x hx
  · refine hz _ ?_ x hx
    rw [List.getD_eq_getElem?_getD, List.getElem?_eq_getElem hi]
    exact List.getElem_mem hi
theorem nR_sh {m : Nat} : shR m (nR K b xs xs.length z) = nR K (m + b) xs xs.length z := by
  unfold shR nR
  rw [List.map_map]
  refine List.map_congr_left fun i hi => ?_
  have := List.mem_range.1 hi
  simp only [Function.comp, if_pos this, K.sh, Ab.sh, Nat.add_assoc]
theorem nR_dr {H : Nat → Option Ab.Rows} {q sz m : Nat} (h1 : H q = some (nR K b xs xs.length z)) (h2 : ∀ i, i < xs.length → H (b + i) = some ((K.w (xs.getD i default)).map iRow)) : Ab.dr H (m + 4) (.sl q sz 0 xs.length) = .vw true (xs.map (cR K true)) := by
  have hl : ((nR K b xs xs.length z).drop 0).take xs.length = nR K b xs xs.length z := by rw [List.drop_zero, List.take_of_length_le (by rw [nR_len]; exact Nat.le_refl _)]
  rw [show m + 4 = (m + 3) + 1 from rfl, Ab.dr, h1]
  dsimp only
  rw [hl]
  congr 1
  refine List.ext_getElem? fun i => ?_
  by_cases hi : i < xs.length
  · rw [List.getElem?_map, nR_get_n hi, List.getElem?_map, List.getElem?_eq_getElem hi]
    have e : xs.getD i default = xs[i] := by simp [List.getD_eq_getElem?_getD, List.getElem?_eq_getElem hi]
    have h3 := h2 i hi
    rw [e] at h3 ⊢
    simp only [Option.map_some]
    rw [show m + 3 = (m + 2) + 1 from rfl, K.dr, dr_rows (m := m + 1) h3 rfl iRow_plain]
    rfl
  · rw [List.getElem?_eq_none (by rw [List.length_map, nR_len]; omega), List.getElem?_eq_none (by simp; omega)]

/-! ### While they are copied -/
variable (K)
def hN (q b : Nat) (xs : List α) (k : Nat) (z : α → List AV) : List (Nat × Option Ab.Rows) := (q, some (nR K b xs k z)) :: mkh b (nO K xs k)
variable {K} {q : Nat}
theorem hN_q : hg (hN K q b xs k z) q = some (nR K b xs k z) := hg_here
theorem hN_cs {r : Nat} {rows : Ab.Rows} (hk : k ≤ xs.length) (h : hg (hN K q b xs k z) r = some rows) : (r = q ∧ rows = nR K b xs k z) ∨ (r ≠ q ∧ ∃ i, i < k ∧ r = b + i ∧ rows = (K.w (xs.getD i default)).map iRow) := by
  by_cases e : r = q
  · subst e
    rw [hN_q] at h
    exact .inl ⟨rfl, (Option.some.inj h).symm⟩
  · have h2 : hg (mkh b (nO K xs k)) r = some rows := by simpa [hN, Ab.hg, upd, e] using h
    rw [hg_mkh, nO_len hk] at h2
    split at h2
    · rename_i hc
      refine .inr ⟨e, r - b, by omega, by omega, ?_⟩
      rw [nO_get (by omega) hk] at h2
      exact (Option.some.inj h2).symm
    · cases h2
theorem hN_in {i : Nat} (hi : i < k) (hk : k ≤ xs.length) (hq : b + i ≠ q) : hg (hN K q b xs k z) (b + i) = some ((K.w (xs.getD i default)).map iRow) := by
  refine hg_skip hq ?_
  rw [hg_mkh, nO_len hk, if_pos ⟨by omega, by omega⟩, Nat.add_sub_cancel_left, nO_get hi hk]
theorem hN_step {h' : List (Nat × Option Ab.Rows)} (hk : k < xs.length) (h1 : hg h' q = some (nR K b xs (k + 1) z)) (h2 : hg h' (b + k) = some ((K.w (xs.getD k default)).map iRow)) (h3 : ∀ r rows, r ≠ q → r ≠ b + k → hg (hN K q b xs k z) r = some rows → hg h' r = some rows) : ∀ r rows, hg (hN K q b xs (k + 1) z) r = some rows → hg h' r = some rows := by
  intro r rows hr
  rcases hN_cs (by omega) hr with ⟨rfl, rfl⟩ | ⟨e, i, hi, rfl, rfl⟩
  · exact h1
  · by_cases e2 : i = k
    · subst e2; exact h2
    · exact h3 _ _ e (by omega) (hN_in (by omega) (by omega) e)
theorem hN_wf {nr : Nat} (hk : k ≤ xs.length) (hq : q < nr) (hb : b + k ≤ nr) (hz : ∀ x ∈ xs, ∀ y ∈ z x, AV.ltr nr y = true) : wfH (hN K q b xs k z) nr :=
  wfH_cons hq (nR_ltr hb hz) (wfH_mkh (by rw [nO_len hk]; exact hb) (nO_ltr nr))
theorem nd_range1 (m : Nat) : (List.range m).Nodup := List.nodup_range
theorem πr1 {m i : Nat} (h : i < m) : πof (List.range m) i = i := by simp [πof, h]
/-- The whole copy, as new objects: the outer list is object 0. -/
theorem nest_N : NestObjs (nR K 1 xs xs.length z :: nO K xs xs.length) := by
  have hl : (nR K 1 xs xs.length z :: nO K xs xs.length).length = xs.length + 1 := by rw [List.length_cons, nO_len (Nat.le_refl _)]
  intro rows hr row hrow x hx
  rw [hl]
  rcases List.mem_cons.1 hr with rfl | hr
  · obtain ⟨i, hi, ⟨h1, rfl⟩ | ⟨h1, rfl⟩⟩ := mem_nR hrow
    · refine ⟨g_ltr (by simp [AV.ltr]; omega) x hx, ?_⟩
      rcases K.mem _ _ x hx with h | rfl
      · cases x <;> first | rfl | simp [AV.plain] at h
      · rfl
    · omega
  · refine ⟨nO_ltr _ rows hr row hrow x hx, ?_⟩
    have := nO_plain rows hr row hrow x hx
    cases x <;> first | rfl | simp [AV.plain] at this
theorem retG_N {ro : AOp} {sz : Nat} {t : List (Nat × AV)} {h : List (Nat × Option Ab.Rows)} {nr : Nat} {e : EX} (he : e = .n ∨ e = .r) (hv : retV ⟨t, h, nr⟩ ro = some (.sl 0 sz 0 xs.length)) (hh : ∀ r rows, hg (hN K 0 1 xs xs.length z) r = some rows → hg h r = some rows) : RetG [ro] (List.range (xs.length + 1)) (.sl 0 sz 0 xs.length) (nR K 1 xs xs.length z :: nO K xs xs.length) e ⟨t, h, nr⟩ := by
  have hl : (nR K 1 xs xs.length z :: nO K xs xs.length).length = xs.length + 1 := by rw [List.length_cons, nO_len (Nat.le_refl _)]
  refine retG_gen he (retVs_1 hv) ?_ trivial (by rw [hl]; simp [AV.ltr]) (by rw [hl]; simp) List.nodup_range (fun i rows hi => ?_)
  · show [AV.sl 0 sz 0 _] = [AV.sl (πof (List.range (xs.length + 1)) 0) sz 0 _]
    rw [πr1 (by omega)]
  · have hi2 := (List.getElem?_eq_some_iff.1 hi).1
    rw [hl] at hi2
    rw [πr1 hi2]
    cases i with
    | zero =>
      cases hi
      refine hh _ _ (hN_q.trans (congrArg some ?_))
      unfold nR
      rw [List.map_map]
      refine List.map_congr_left fun j hj => ?_
      have := List.mem_range.1 hj
      simp only [Function.comp, if_pos this, K.rn, Ab.rn]
      rw [πr1 (by omega)]
    | succ i =>
      have h5 : (nO K xs xs.length)[i]? = some rows := hi
      rw [nO_get (by omega) (Nat.le_refl _)] at h5
      cases h5
      rw [← rn_rows (rowsP _), show i + 1 = 1 + i by omega]
      exact hh _ _ (hN_in (by omega) (Nat.le_refl _) (by omega))
end
end Go.Proofs.Ytnohaclnpbpjbaa.Il
