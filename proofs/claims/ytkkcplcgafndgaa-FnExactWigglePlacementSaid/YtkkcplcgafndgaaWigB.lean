/- Tabulated distributions where the function that tells the weights writes what it has captured. -/
import Derived.Test.YtkkcplcgafndgaaTabA
import Derived.Test.YtkkcplcgafndgaaShvA
import Derived.Test.YtkkcplcgafndgaaAb4
namespace Go.Proofs.Ytkkcplcgafndgaa.Dst
open Go Go.Proofs.Ytkkcplcgafndgaa.Ab Go.Proofs.Ytkkcplcgafndgaa.Il
attribute [local irreducible] wpO wpC wpDr wpQ wpG wpE stepA seqQ blkQ Ret ev
set_option maxRecDepth 10000
set_option maxHeartbeats 8000000
set_option linter.unusedSimpArgs false
set_option linter.unusedVariables false

def fS {σ : Type} (stp : σ → Int → σ) (first : Int) (s : σ) : Nat → σ
  | 0 => s
  | n + 1 => stp (fS stp first s n) (first + (n : Int))
abbrev tH (N : Nat) (ws : List Int) (r : Nat) (h : List (Nat × Option Ab.Rows)) : List (Nat × Option Ab.Rows) := (r, some (ws.map iRow)) :: (N, some [[.int .i64 0, .nilS]]) :: h
section
variable {σ : Type} {stp : σ → Int → σ} {hs : σ → List (Nat × Option Ab.Rows)} {N f : Nat} {caps : List AV} {first last : Int} {wt : Int → Int}
theorem tH_wf {ws : List Int} {r : Nat} {h : List (Nat × Option Ab.Rows)} (hr : N < r) (hw : wfH h N) : wfH (tH N ws r h) (r + 1) :=
  wfH_cons (by omega) (ltrI _ _) (wfH_cons (by omega) (by simp [AV.ltr]) (wfH_le hw (by omega)))
theorem sh42_Y (hf1 : -1000000 ≤ first) (hf2 : first ≤ 1000000) (hn : nY first last ≤ 100000) (hcm : ∀ m, N ≤ m → ltrL m caps = true) (hwf : ∀ s, wfH (hs s) N)
    (hv : ∀ s y r ws, first ≤ y → y ≤ last → N < r → Sh Try.prog f ([.int .i64 y] ++ caps) (tH N ws r (hs s)) (r + 1) (.int .i64 (wt y)) (tH N ws r (hs (stp s y))) (r + 1))
    {B : Int} (hB : B ≤ 9000000000000000000) (hb : ∀ i : Nat, i < nY first last → 0 ≤ wt (first + (i : Int)) ∧ wt (first + (i : Int)) ≤ B) (s : σ) (hm : mkOK first (tab first wt (nY first last))) : Sh Try.prog 42 [.int .i64 first, .int .i64 last, .fn f caps] (hs s) N (.tup [.agg [.int .i64 (mkO first (tab first wt (nY first last))).f, .sl (N + 1 + 2 * nY first last + 1) 1 0 (mkO first (tab first wt (nY first last))).ws.length], .bool true]) ((N + 1 + 2 * nY first last + 1, some ((mkO first (tab first wt (nY first last))).ws.map iRow)) :: hs (fS stp first s (nY first last))) (N + 1 + 2 * nY first last + 1 + 1) := by
  have hN : nY first last = (last - first + 1).toNat := rfl
  generalize nY first last = n at *
  have hbd : bnd (tab first wt n) B := tab_bnd hb
  have c := con33_yes true first (tab first wt n) (by rw [tab_len]; omega) hbd hB hf1 hf2 hm
  unfold dYes at c
  refine sh_of_wp mixed fun42 (by simp) ?_
  unfold ac42 ro42
  simp only [zipT]
  repeat (first
    | refine wC_a rfl ?_
    | refine q_s rfl ?_
    | refine q_b rfl ?_
    | refine wG_nil ?_
    | refine wG_g rfl ?_
    | refine wG_pure (o_len_vwm rfl) ?_
    | refine wG_pure (o_not_d rfl) ?_
    | refine wG_p rfl (by first | exact rfl | omega) ?_
    | refine wG_pure (o_not rfl) ?_
    | refine wG_pure (e_ia_vw0 rfl rfl (by omega) rfl) ?_
    | refine wG_pure (e_ia_vwp rfl rfl (by omega) rfl) ?_
    | refine wG_pure (e_ia_vwm rfl rfl (by omega) (by omega) rfl) ?_
    | refine wG_pure (e_ia_vwi rfl rfl (by omega) rfl) ?_
    | refine wG_pure (e_ia_vwn rfl rfl (by omega) (by omega) rfl) ?_
    | refine wG_n rfl rfl ?_
    | refine wG_u rfl rfl ?_
    | refine wG_new (o_mks rfl rfl (by omega) (by decide)) ?_)
  refine wC_loopS Nat (fun k => ⟨[(0, .int .i64 first), (1, .int .i64 last), (2, .fn f caps), (6, .pt N 0 0), (8, .sl (N + 1 + 2 * k) 1 0 (tab first wt k).length), (9, .int .i64 (first + (k : Int)))], tH N (tab first wt k) (N + 1 + 2 * k) (hs (fS stp first s k)), N + 1 + 2 * k + 1⟩) (fun k => k ≤ n) (fun k => n - k) 0 (Nat.zero_le _) ?_ (fun k _ => by simp only; omega) ?_
  · exact Le_of ⟨⟨rfl, rfl⟩, ⟨rfl, rfl⟩, ⟨rfl, hcm _ (by simp only; omega)⟩, ⟨rfl, by simp [AV.ltr]; omega⟩, ⟨rfl, by simp [AV.ltr]⟩, ⟨by simp [lk], rfl⟩, trivial⟩ (fun q rows hq => by
      have hq2 : hg (tH N [] (N + 1) (hs s)) q = some rows := hq
      by_cases e1 : q = N + 1
      · subst e1; rw [hg_here] at hq2; rw [← hq2]; exact hg_here
      · by_cases e2 : q = N
        · subst e2
          have h3 := hq2
          simp [Ab.hg, upd] at h3
          rw [← h3]
          exact hg_skip e1 (by simp [Ab.hg, upd])
        · have h3 : hg (hs s) q = some rows := by simpa [Ab.hg, upd, e1, e2] using hq2
          simpa [Ab.hg, upd, e1, e2] using h3) (tH_wf (by omega) (hwf _))
  intro k hk
  have hl := tab_len first wt k
  obtain ⟨r, hr⟩ : ∃ r, N + 1 + 2 * k = r := ⟨_, rfl⟩
  simp only [hr]
  repeat (first
    | refine wC_a rfl ?_
    | refine q_s rfl ?_
    | refine q_b rfl ?_
    | refine wG_nil ?_
    | refine wG_g rfl ?_
    | refine wG_pure (o_len_vwm rfl) ?_
    | refine wG_pure (o_not_d rfl) ?_
    | refine wG_p rfl (by first | exact rfl | omega) ?_
    | refine wG_pure (o_not rfl) ?_
    | refine wG_pure (e_ia_vw0 rfl rfl (by omega) rfl) ?_
    | refine wG_pure (e_ia_vwp rfl rfl (by omega) rfl) ?_
    | refine wG_pure (e_ia_vwm rfl rfl (by omega) (by omega) rfl) ?_
    | refine wG_pure (e_ia_vwi rfl rfl (by omega) rfl) ?_
    | refine wG_pure (e_ia_vwn rfl rfl (by omega) (by omega) rfl) ?_
    | refine wG_n rfl rfl ?_
    | refine wG_u rfl rfl ?_
    | refine wG_new (o_mks rfl rfl (by omega) (by decide)) ?_)
  refine wC_cond_d rfl (fun h3 => ?_) (fun h3 => ?_)
  · have hk2 : k < n := by omega
    have cv := hv (fS stp first s k) (first + (k : Int)) r (tab first wt k) (by omega) h3 (by omega)
    have er : N + 1 + 2 * (k + 1) = r + 1 + 1 := by omega
    repeat (first | refine wG_callSv rfl cv rfl ?_ | refine wG_app rfl (hg_skip (by omega) hg_here) (by simp) (rows_sl rfl hg_here rfl) (by simp) (by simp; omega) (by decide) ?_ | (first
    | refine wC_a rfl ?_
    | refine q_s rfl ?_
    | refine q_b rfl ?_
    | refine wG_nil ?_
    | refine wG_g rfl ?_
    | refine wG_pure (o_len_vwm rfl) ?_
    | refine wG_pure (o_not_d rfl) ?_
    | refine wG_p rfl (by first | exact rfl | omega) ?_
    | refine wG_pure (o_not rfl) ?_
    | refine wG_pure (e_ia_vw0 rfl rfl (by omega) rfl) ?_
    | refine wG_pure (e_ia_vwp rfl rfl (by omega) rfl) ?_
    | refine wG_pure (e_ia_vwm rfl rfl (by omega) (by omega) rfl) ?_
    | refine wG_pure (e_ia_vwi rfl rfl (by omega) rfl) ?_
    | refine wG_pure (e_ia_vwn rfl rfl (by omega) (by omega) rfl) ?_
    | refine wG_n rfl rfl ?_
    | refine wG_u rfl rfl ?_
    | refine wG_new (o_mks rfl rfl (by omega) (by decide)) ?_))
    refine ⟨k + 1, by omega, by omega, ?_⟩
    simp only [er, tab, fS]
    refine Le_of ⟨⟨rfl, rfl⟩, ⟨rfl, rfl⟩, ⟨rfl, hcm _ (by simp only; omega)⟩, ⟨rfl, by simp [AV.ltr]; omega⟩, ⟨by simp [lk], by simp [AV.ltr]⟩, ⟨by simp [lk]; omega, rfl⟩, trivial⟩ (fun q rows hq => ?_) (tH_wf (by omega) (hwf _))
    by_cases e1 : q = r + 1 + 1
    · subst e1
      rw [hg_here] at hq
      rw [← hq, List.map_append]
      exact hg_skip (by omega) hg_here
    · have h4 : hg ((N, some [[.int .i64 0, .nilS]]) :: hs (stp (fS stp first s k) (first + (k : Int)))) q = some rows := by simpa [Ab.hg, upd, e1] using hq
      have h5 : q < N + 1 := by
        by_cases e2 : q = N
        · omega
        · have h6 : hg (hs (stp (fS stp first s k) (first + (k : Int)))) q = some rows := by simpa [Ab.hg, upd, e2] using h4
          have := (hwf _ q _ h6).1
          omega
      exact hg_skip (by omega) (hg_skip (by omega) (hg_skip (by omega) (hg_skip (by omega) h4)))
  · have hk3 : k = n := by omega
    subst hk3
    repeat (first | refine wG_call1 (v' := .tup [.agg [.int .i64 (mkO first (tab first wt k)).f, .sl (r + 1) 1 0 (mkO first (tab first wt k)).ws.length], .bool true]) c (ag_int rfl (ag_sl rfl hg_here rfl iRow_plain ag_nil)) rfl ?_ | refine wG_upd (o_st_agg rfl (hg_skip (by omega) (hg_skip (by omega) hg_here)) rfl rfl rfl rfl rfl) ?_ | (first
    | refine wC_a rfl ?_
    | refine q_s rfl ?_
    | refine q_b rfl ?_
    | refine wG_nil ?_
    | refine wG_g rfl ?_
    | refine wG_pure (o_len_vwm rfl) ?_
    | refine wG_pure (o_not_d rfl) ?_
    | refine wG_p rfl (by first | exact rfl | omega) ?_
    | refine wG_pure (o_not rfl) ?_
    | refine wG_pure (e_ia_vw0 rfl rfl (by omega) rfl) ?_
    | refine wG_pure (e_ia_vwp rfl rfl (by omega) rfl) ?_
    | refine wG_pure (e_ia_vwm rfl rfl (by omega) (by omega) rfl) ?_
    | refine wG_pure (e_ia_vwi rfl rfl (by omega) rfl) ?_
    | refine wG_pure (e_ia_vwn rfl rfl (by omega) (by omega) rfl) ?_
    | refine wG_n rfl rfl ?_
    | refine wG_u rfl rfl ?_
    | refine wG_new (o_mks rfl rfl (by omega) (by decide)) ?_))
    refine ⟨trivial, _, retVs_2 (retV_ldt rfl hg_here rfl rfl rfl) (retV_mv rfl), Le_of ⟨⟨?_, by simp [AV.ltr, ltrL]⟩, trivial⟩ (fun q rows hq => ?_) (wfH_cons (by show N + 1 + 2 * k + 1 < N + 1 + 2 * k + 1 + 1; omega) (ltrI _ _) (wfH_le (hwf _) (by show N ≤ N + 1 + 2 * k + 1 + 1; omega))), by omega⟩
    · simp only [hr]; rfl
    · simp only [hr] at hq
      by_cases e1 : q = r + 1
      · subst e1
        rw [hg_here] at hq
        rw [← hq]
        exact hg_skip (by omega) hg_here
      · have h4 : hg (hs (fS stp first s k)) q = some rows := by simpa [Ab.hg, upd, e1] using hq
        have h5 := (hwf _ q _ h4).1
        exact hg_skip (by omega) (hg_skip (by omega) (hg_skip (by omega) (hg_skip (by omega) h4)))
theorem sh42_N (hf1 : -1000000 ≤ first) (hf2 : first ≤ 1000000) (hn : nY first last ≤ 100000) (hcm : ∀ m, N ≤ m → ltrL m caps = true) (hwf : ∀ s, wfH (hs s) N)
    (hv : ∀ s y r ws, first ≤ y → y ≤ last → N < r → Sh Try.prog f ([.int .i64 y] ++ caps) (tH N ws r (hs s)) (r + 1) (.int .i64 (wt y)) (tH N ws r (hs (stp s y))) (r + 1))
    {B : Int} (hB : B ≤ 9000000000000000000) (hb : ∀ i : Nat, i < nY first last → 0 ≤ wt (first + (i : Int)) ∧ wt (first + (i : Int)) ≤ B) (s : σ) (hm : ¬ mkOK first (tab first wt (nY first last))) : Sh Try.prog 42 [.int .i64 first, .int .i64 last, .fn f caps] (hs s) N (.tup [.agg [.int .i64 0, .nilS], .bool false]) (hs (fS stp first s (nY first last))) (N + 1 + 2 * nY first last + 1) := by
  have hN : nY first last = (last - first + 1).toNat := rfl
  generalize nY first last = n at *
  have hbd : bnd (tab first wt n) B := tab_bnd hb
  have c := con33_no true first (tab first wt n) (by rw [tab_len]; omega) hbd hB hf1 hf2 hm
  unfold dNo at c
  refine sh_of_wp mixed fun42 (by simp) ?_
  unfold ac42 ro42
  simp only [zipT]
  repeat (first
    | refine wC_a rfl ?_
    | refine q_s rfl ?_
    | refine q_b rfl ?_
    | refine wG_nil ?_
    | refine wG_g rfl ?_
    | refine wG_pure (o_len_vwm rfl) ?_
    | refine wG_pure (o_not_d rfl) ?_
    | refine wG_p rfl (by first | exact rfl | omega) ?_
    | refine wG_pure (o_not rfl) ?_
    | refine wG_pure (e_ia_vw0 rfl rfl (by omega) rfl) ?_
    | refine wG_pure (e_ia_vwp rfl rfl (by omega) rfl) ?_
    | refine wG_pure (e_ia_vwm rfl rfl (by omega) (by omega) rfl) ?_
    | refine wG_pure (e_ia_vwi rfl rfl (by omega) rfl) ?_
    | refine wG_pure (e_ia_vwn rfl rfl (by omega) (by omega) rfl) ?_
    | refine wG_n rfl rfl ?_
    | refine wG_u rfl rfl ?_
    | refine wG_new (o_mks rfl rfl (by omega) (by decide)) ?_)
  refine wC_loopS Nat (fun k => ⟨[(0, .int .i64 first), (1, .int .i64 last), (2, .fn f caps), (6, .pt N 0 0), (8, .sl (N + 1 + 2 * k) 1 0 (tab first wt k).length), (9, .int .i64 (first + (k : Int)))], tH N (tab first wt k) (N + 1 + 2 * k) (hs (fS stp first s k)), N + 1 + 2 * k + 1⟩) (fun k => k ≤ n) (fun k => n - k) 0 (Nat.zero_le _) ?_ (fun k _ => by simp only; omega) ?_
  · exact Le_of ⟨⟨rfl, rfl⟩, ⟨rfl, rfl⟩, ⟨rfl, hcm _ (by simp only; omega)⟩, ⟨rfl, by simp [AV.ltr]; omega⟩, ⟨rfl, by simp [AV.ltr]⟩, ⟨by simp [lk], rfl⟩, trivial⟩ (fun q rows hq => by
      have hq2 : hg (tH N [] (N + 1) (hs s)) q = some rows := hq
      by_cases e1 : q = N + 1
      · subst e1; rw [hg_here] at hq2; rw [← hq2]; exact hg_here
      · by_cases e2 : q = N
        · subst e2
          have h3 := hq2
          simp [Ab.hg, upd] at h3
          rw [← h3]
          exact hg_skip e1 (by simp [Ab.hg, upd])
        · have h3 : hg (hs s) q = some rows := by simpa [Ab.hg, upd, e1, e2] using hq2
          simpa [Ab.hg, upd, e1, e2] using h3) (tH_wf (by omega) (hwf _))
  intro k hk
  have hl := tab_len first wt k
  obtain ⟨r, hr⟩ : ∃ r, N + 1 + 2 * k = r := ⟨_, rfl⟩
  simp only [hr]
  repeat (first
    | refine wC_a rfl ?_
    | refine q_s rfl ?_
    | refine q_b rfl ?_
    | refine wG_nil ?_
    | refine wG_g rfl ?_
    | refine wG_pure (o_len_vwm rfl) ?_
    | refine wG_pure (o_not_d rfl) ?_
    | refine wG_p rfl (by first | exact rfl | omega) ?_
    | refine wG_pure (o_not rfl) ?_
    | refine wG_pure (e_ia_vw0 rfl rfl (by omega) rfl) ?_
    | refine wG_pure (e_ia_vwp rfl rfl (by omega) rfl) ?_
    | refine wG_pure (e_ia_vwm rfl rfl (by omega) (by omega) rfl) ?_
    | refine wG_pure (e_ia_vwi rfl rfl (by omega) rfl) ?_
    | refine wG_pure (e_ia_vwn rfl rfl (by omega) (by omega) rfl) ?_
    | refine wG_n rfl rfl ?_
    | refine wG_u rfl rfl ?_
    | refine wG_new (o_mks rfl rfl (by omega) (by decide)) ?_)
  refine wC_cond_d rfl (fun h3 => ?_) (fun h3 => ?_)
  · have hk2 : k < n := by omega
    have cv := hv (fS stp first s k) (first + (k : Int)) r (tab first wt k) (by omega) h3 (by omega)
    have er : N + 1 + 2 * (k + 1) = r + 1 + 1 := by omega
    repeat (first | refine wG_callSv rfl cv rfl ?_ | refine wG_app rfl (hg_skip (by omega) hg_here) (by simp) (rows_sl rfl hg_here rfl) (by simp) (by simp; omega) (by decide) ?_ | (first
    | refine wC_a rfl ?_
    | refine q_s rfl ?_
    | refine q_b rfl ?_
    | refine wG_nil ?_
    | refine wG_g rfl ?_
    | refine wG_pure (o_len_vwm rfl) ?_
    | refine wG_pure (o_not_d rfl) ?_
    | refine wG_p rfl (by first | exact rfl | omega) ?_
    | refine wG_pure (o_not rfl) ?_
    | refine wG_pure (e_ia_vw0 rfl rfl (by omega) rfl) ?_
    | refine wG_pure (e_ia_vwp rfl rfl (by omega) rfl) ?_
    | refine wG_pure (e_ia_vwm rfl rfl (by omega) (by omega) rfl) ?_
    | refine wG_pure (e_ia_vwi rfl rfl (by omega) rfl) ?_
    | refine wG_pure (e_ia_vwn rfl rfl (by omega) (by omega) rfl) ?_
    | refine wG_n rfl rfl ?_
    | refine wG_u rfl rfl ?_
    | refine wG_new (o_mks rfl rfl (by omega) (by decide)) ?_))
    refine ⟨k + 1, by omega, by omega, ?_⟩
    simp only [er, tab, fS]
    refine Le_of ⟨⟨rfl, rfl⟩, ⟨rfl, rfl⟩, ⟨rfl, hcm _ (by simp only; omega)⟩, ⟨rfl, by simp [AV.ltr]; omega⟩, ⟨by simp [lk], by simp [AV.ltr]⟩, ⟨by simp [lk]; omega, rfl⟩, trivial⟩ (fun q rows hq => ?_) (tH_wf (by omega) (hwf _))
    by_cases e1 : q = r + 1 + 1
    · subst e1
      rw [hg_here] at hq
      rw [← hq, List.map_append]
      exact hg_skip (by omega) hg_here
    · have h4 : hg ((N, some [[.int .i64 0, .nilS]]) :: hs (stp (fS stp first s k) (first + (k : Int)))) q = some rows := by simpa [Ab.hg, upd, e1] using hq
      have h5 : q < N + 1 := by
        by_cases e2 : q = N
        · omega
        · have h6 : hg (hs (stp (fS stp first s k) (first + (k : Int)))) q = some rows := by simpa [Ab.hg, upd, e2] using h4
          have := (hwf _ q _ h6).1
          omega
      exact hg_skip (by omega) (hg_skip (by omega) (hg_skip (by omega) (hg_skip (by omega) h4)))
  · have hk3 : k = n := by omega
    subst hk3
    repeat (first | refine wG_call c (ag_int rfl (ag_sl rfl hg_here rfl iRow_plain ag_nil)) rfl ?_ | refine wG_upd (o_st_agg rfl (hg_skip (by omega) hg_here) rfl rfl rfl rfl rfl) ?_ | (first
    | refine wC_a rfl ?_
    | refine q_s rfl ?_
    | refine q_b rfl ?_
    | refine wG_nil ?_
    | refine wG_g rfl ?_
    | refine wG_pure (o_len_vwm rfl) ?_
    | refine wG_pure (o_not_d rfl) ?_
    | refine wG_p rfl (by first | exact rfl | omega) ?_
    | refine wG_pure (o_not rfl) ?_
    | refine wG_pure (e_ia_vw0 rfl rfl (by omega) rfl) ?_
    | refine wG_pure (e_ia_vwp rfl rfl (by omega) rfl) ?_
    | refine wG_pure (e_ia_vwm rfl rfl (by omega) (by omega) rfl) ?_
    | refine wG_pure (e_ia_vwi rfl rfl (by omega) rfl) ?_
    | refine wG_pure (e_ia_vwn rfl rfl (by omega) (by omega) rfl) ?_
    | refine wG_n rfl rfl ?_
    | refine wG_u rfl rfl ?_
    | refine wG_new (o_mks rfl rfl (by omega) (by decide)) ?_))
    refine ⟨trivial, _, retVs_2 (retV_ldt rfl hg_here rfl rfl rfl) (retV_mv rfl), Le_of ⟨⟨rfl, by simp [AV.ltr, ltrL]⟩, trivial⟩ (fun q rows hq => ?_) (wfH_le (hwf _) (by show N ≤ N + 1 + 2 * k + 1; omega)), by omega⟩
    have h5 := (hwf _ q _ hq).1
    exact hg_skip (by omega) (hg_skip (by omega) (hg_skip (by omega) hq))
end
end Go.Proofs.Ytkkcplcgafndgaa.Dst
