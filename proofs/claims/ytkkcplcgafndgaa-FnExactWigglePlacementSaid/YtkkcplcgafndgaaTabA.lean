/- Tabulated distributions. -/
import Derived.Test.YtkkcplcgafndgaaMakA
import Derived.Test.YtkkcplcgafndgaaAb1
namespace Go.Proofs.Ytkkcplcgafndgaa.Dst
open Go Go.Proofs.Ytkkcplcgafndgaa.Ab Go.Proofs.Ytkkcplcgafndgaa.Il
attribute [local irreducible] wpO wpC wpDr wpQ wpG wpE stepA seqQ blkQ Ret ev
set_option maxRecDepth 10000
set_option maxHeartbeats 8000000
set_option linter.unusedSimpArgs false
set_option linter.unusedVariables false
def ac42 : AC := (.seq (.reg [⟨(some 6), none, (.alloc [(.int .i64 0), .nilS])⟩, ⟨(some 7), none, (.mv (.c (.bool false)))⟩]) (.seq (.reg [⟨(some 10), none, (.bsl 1 [(.int .i64 0)] 0 [])⟩, ⟨(some 8), none, (.mv (.t 10))⟩]) (.seq (.seq (.reg [⟨(some 11), none, (.mv (.t 0))⟩, ⟨(some 9), none, (.mv (.t 11))⟩]) (.blk 0 (.loop (.seq (.seq (.reg [⟨(some 12), none, (.mv (.t 9))⟩, ⟨(some 13), none, (.mv (.t 1))⟩, ⟨(some 14), none, (.bin .leq (.t 12) (.t 13))⟩]) (.cond (.t 14) .skip (.exit 0))) (.seq (.blk 1 (.reg [⟨(some 17), none, (.mv (.t 8))⟩, ⟨(some 18), none, (.mv (.t 2))⟩, ⟨(some 19), none, (.mv (.t 9))⟩, ⟨(some 20), none, (.callv (.t 18) [(.t 19)])⟩, ⟨(some 21), none, (.bsl 1 [(.int .i64 0)] 1 [(0, (.t 20))])⟩, ⟨(some 22), none, (.app 1 8 [(.int .i64 0)] (.t 17) (.t 21))⟩, ⟨(some 8), none, (.mv (.t 22))⟩])) (.reg [⟨(some 15), none, (.mv (.t 9))⟩, ⟨(some 16), none, (.bin .add (.t 15) (.c (.int .i64 1)))⟩, ⟨(some 9), none, (.mv (.t 16))⟩])))))) (.seq (.reg [⟨(some 23), none, (.mv (.t 0))⟩, ⟨(some 24), none, (.mv (.t 8))⟩, ⟨(some 25), none, (.call 33 [(.t 23), (.t 24)])⟩, ⟨(some 26), none, (.ext (.t 25) 0)⟩, ⟨(some 27), none, (.ext (.t 25) 1)⟩, ⟨none, none, (.st 2 (.t 6) (.t 26))⟩, ⟨(some 7), none, (.mv (.t 27))⟩]) .ret))))
def ro42 : List AOp := [(.ld true 2 (.t 6)), (.mv (.t 7))]
theorem fun42 : Fun Try.prog 42 28 ac42 ro42 := ⟨Try.f42, _, Try.func42, by kernel_rfl, rfl, rfl, by kernel_rfl, by kernel_rfl, by decide⟩

/-- The weights of some years from one on. -/
def tab (first : Int) (wt : Int → Int) : Nat → List Int
  | 0 => []
  | n + 1 => tab first wt n ++ [wt (first + (n : Int))]
theorem tab_len (first : Int) (wt : Int → Int) : ∀ n, (tab first wt n).length = n
  | 0 => rfl
  | n + 1 => by simp [tab, tab_len first wt n]
theorem tab_get (first : Int) (wt : Int → Int) : ∀ (n : Nat) {i : Nat}, i < n → (tab first wt n).getD i default = wt (first + (i : Int))
  | 0, i, h => absurd h (Nat.not_lt_zero _)
  | n + 1, i, h => by
    simp only [tab]
    rcases Nat.lt_or_ge i n with h1 | h1
    · have := tab_get first wt n h1
      rw [List.getD_eq_getElem?_getD] at this ⊢
      rw [List.getElem?_append_left (by rw [tab_len]; exact h1)]
      exact this
    · have hi : i = n := by omega
      subst hi
      rw [List.getD_eq_getElem?_getD, List.getElem?_append_right (by rw [tab_len]; omega), tab_len, Nat.sub_self]
      rfl
theorem tab_bnd {first : Int} {wt : Int → Int} {n : Nat} {B : Int} (h : ∀ i : Nat, i < n → 0 ≤ wt (first + (i : Int)) ∧ wt (first + (i : Int)) ≤ B) : bnd (tab first wt n) B := by
  intro j hj
  rw [tab_len] at hj
  rw [tab_get first wt n hj]
  exact h j hj
def nY (first last : Int) : Nat := (last - first + 1).toNat
theorem con42_all (first last : Int) (hf1 : -1000000 ≤ first) (hf2 : first ≤ 1000000) (hn : nY first last ≤ 100000) {f : Nat} {caps : List AV} (wt : Int → Int) (hf : ∀ y, first ≤ y → y ≤ last → Con Try.prog f true (.int .i64 y :: caps) (.int .i64 (wt y)) []) (hc : ∀ H n, caps.map (dr H (n + 4)) = caps) (hcl : ltrL 0 caps = true) (hcr : ∀ π, rnL π caps = caps) (hcm : ∀ n, ltrL n caps = true)
    {B : Int} (hB : B ≤ 9000000000000000000) (hb : ∀ i : Nat, i < nY first last → 0 ≤ wt (first + (i : Int)) ∧ wt (first + (i : Int)) ≤ B) (v : AV) (rs : List Nat) (objs : List Ab.Rows) (hv : v.nvf = true) (hp : PlainObjs objs)
    (hend : (mkOK first (tab first wt (nY first last)) → v = dYes (mkO first (tab first wt (nY first last))) ∧ rs = [2] ∧ objs = [(mkO first (tab first wt (nY first last))).ws.map iRow]) ∧ (¬ mkOK first (tab first wt (nY first last)) → v = dNo ∧ rs = [] ∧ objs = [])) :
    Con Try.prog 42 true [.int .i64 first, .int .i64 last, .fn f caps] v objs := by
  suffices key : Con Try.prog 42 v.nvf [.int .i64 first, .int .i64 last, .fn f caps] v objs by rwa [hv] at key
  refine con_of_wp mixed fun42 (by simp) rs hp ?_
  unfold ac42 ro42
  simp only [zipT]
  have hN : nY first last = (last - first + 1).toNat := rfl
  generalize nY first last = N at *
  repeat (first
    | refine wC_a rfl ?_
    | refine q_s rfl ?_
    | refine q_b rfl ?_
    | refine wG_nil ?_
    | refine wG_g rfl ?_
    | refine wG_pure (o_len_vwm rfl) ?_
    | refine wG_pure (o_not_d rfl) ?_
    | refine wG_p rfl (by first | exact rfl | omega) ?_
    | refine wG_pure (o_not rfl) ?_
    | refine wG_pure (e_ia_vw0 rfl rfl (by omega) rfl) ?_
    | refine wG_pure (e_ia_vwp rfl rfl (by omega) rfl) ?_
    | refine wG_pure (e_ia_vwm rfl rfl (by omega) (by omega) rfl) ?_
    | refine wG_pure (e_ia_vwi rfl rfl (by omega) rfl) ?_
    | refine wG_pure (e_ia_vwn rfl rfl (by omega) (by omega) rfl) ?_
    | refine wG_n rfl rfl ?_
    | refine wG_u rfl rfl ?_
    | refine wG_new (o_mks rfl rfl (by omega) (by decide)) ?_)
  refine wC_loopR Nat (fun k => ⟨[(0, .int .i64 first), (1, .int .i64 last), (2, .fn f caps), (6, .pt 0 0 0), (8, .sl 1 1 0 (tab first wt k).length), (9, .int .i64 (first + (k : Int)))], [(1, some ((tab first wt k).map iRow)), (0, some [[.int .i64 0, .nilS]])], 2⟩) (fun k => k ≤ N) (fun k => N - k) 0 (Nat.zero_le _) ⟨[0, 1], ?_⟩ ?_
  · refine ⟨⟨⟨rfl, rfl⟩, ⟨rfl, rfl⟩, ⟨by simp [lk, rn, hcr], hcm _⟩, ⟨rfl, rfl⟩, ⟨rfl, rfl⟩, ⟨by simp [lk, rn], rfl⟩, trivial⟩, ⟨⟨⟨_, rfl, rfl⟩, (by show 1 < 2; decide), ltrI _ _⟩, ⟨⟨_, rfl, rfl⟩, (by show 0 < 2; decide), by simp [AV.ltr]⟩, trivial⟩, rfl, by decide⟩
  intro k hk
  have hl := tab_len first wt k
  repeat (first
    | refine wC_a rfl ?_
    | refine q_s rfl ?_
    | refine q_b rfl ?_
    | refine wG_nil ?_
    | refine wG_g rfl ?_
    | refine wG_pure (o_len_vwm rfl) ?_
    | refine wG_pure (o_not_d rfl) ?_
    | refine wG_p rfl (by first | exact rfl | omega) ?_
    | refine wG_pure (o_not rfl) ?_
    | refine wG_pure (e_ia_vw0 rfl rfl (by omega) rfl) ?_
    | refine wG_pure (e_ia_vwp rfl rfl (by omega) rfl) ?_
    | refine wG_pure (e_ia_vwm rfl rfl (by omega) (by omega) rfl) ?_
    | refine wG_pure (e_ia_vwi rfl rfl (by omega) rfl) ?_
    | refine wG_pure (e_ia_vwn rfl rfl (by omega) (by omega) rfl) ?_
    | refine wG_n rfl rfl ?_
    | refine wG_u rfl rfl ?_
    | refine wG_new (o_mks rfl rfl (by omega) (by decide)) ?_)
  refine wC_cond_d rfl (fun h3 => ?_) (fun h3 => ?_)
  · have hk2 : k < N := by omega
    have c := hf (first + (k : Int)) (by omega) h3
    repeat (first | refine wG_callv rfl c (ag_cap (n := 2) rfl hc rfl) rfl ?_ | refine wG_app rfl rfl (by simp) (rows_sl rfl rfl rfl) (by simp) (by simp; omega) (by decide) ?_ | (first
    | refine wC_a rfl ?_
    | refine q_s rfl ?_
    | refine q_b rfl ?_
    | refine wG_nil ?_
    | refine wG_g rfl ?_
    | refine wG_pure (o_len_vwm rfl) ?_
    | refine wG_pure (o_not_d rfl) ?_
    | refine wG_p rfl (by first | exact rfl | omega) ?_
    | refine wG_pure (o_not rfl) ?_
    | refine wG_pure (e_ia_vw0 rfl rfl (by omega) rfl) ?_
    | refine wG_pure (e_ia_vwp rfl rfl (by omega) rfl) ?_
    | refine wG_pure (e_ia_vwm rfl rfl (by omega) (by omega) rfl) ?_
    | refine wG_pure (e_ia_vwi rfl rfl (by omega) rfl) ?_
    | refine wG_pure (e_ia_vwn rfl rfl (by omega) (by omega) rfl) ?_
    | refine wG_n rfl rfl ?_
    | refine wG_u rfl rfl ?_
    | refine wG_new (o_mks rfl rfl (by omega) (by decide)) ?_))
    refine ⟨k + 1, by omega, by omega, [0, 3], ?_⟩
    simp only [tab]
    refine ⟨⟨⟨rfl, rfl⟩, ⟨rfl, rfl⟩, ⟨by simp [lk, rn, hcr], hcm _⟩, ⟨rfl, rfl⟩, ⟨by simp [lk, rn, πof], rfl⟩, ⟨by simp [lk, rn]; omega, rfl⟩, trivial⟩, ⟨⟨⟨_, rfl, ?_⟩, (by show 1 < 2; decide), ltrI _ _⟩, ⟨⟨_, rfl, rfl⟩, (by show 0 < 2; decide), by simp [AV.ltr]⟩, trivial⟩, rfl, by decide⟩
    rw [← rn_rows (rowsP _), List.map_append]; rfl
  · have hk3 : k = N := by omega
    subst hk3
    have hbd : bnd (tab first wt k) B := tab_bnd hb
    by_cases hm : mkOK first (tab first wt k)
    · obtain ⟨rfl, rfl, rfl⟩ := hend.1 hm
      have c := con33_yes true first (tab first wt k) (by omega) hbd hB hf1 hf2 hm
      unfold dYes at *
      repeat (first | refine wG_call1 c (ag_int rfl (ag_sl rfl rfl rfl iRow_plain ag_nil)) rfl ?_ | (first
    | refine wC_a rfl ?_
    | refine q_s rfl ?_
    | refine q_b rfl ?_
    | refine wG_nil ?_
    | refine wG_g rfl ?_
    | refine wG_pure (o_len_vwm rfl) ?_
    | refine wG_pure (o_not_d rfl) ?_
    | refine wG_p rfl (by first | exact rfl | omega) ?_
    | refine wG_pure (o_not rfl) ?_
    | refine wG_pure (e_ia_vw0 rfl rfl (by omega) rfl) ?_
    | refine wG_pure (e_ia_vwp rfl rfl (by omega) rfl) ?_
    | refine wG_pure (e_ia_vwm rfl rfl (by omega) (by omega) rfl) ?_
    | refine wG_pure (e_ia_vwi rfl rfl (by omega) rfl) ?_
    | refine wG_pure (e_ia_vwn rfl rfl (by omega) (by omega) rfl) ?_
    | refine wG_n rfl rfl ?_
    | refine wG_u rfl rfl ?_
    | refine wG_new (o_mks rfl rfl (by omega) (by decide)) ?_))
      exact ret_db (.inr rfl) rfl (retV_ldt rfl rfl rfl rfl rfl) (retV_mv rfl) rfl
    · obtain ⟨rfl, rfl, rfl⟩ := hend.2 hm
      have c := con33_no true first (tab first wt k) (by omega) hbd hB hf1 hf2 hm
      unfold dNo at *
      repeat (first | refine wG_call c (ag_int rfl (ag_sl rfl rfl rfl iRow_plain ag_nil)) rfl ?_ | (first
    | refine wC_a rfl ?_
    | refine q_s rfl ?_
    | refine q_b rfl ?_
    | refine wG_nil ?_
    | refine wG_g rfl ?_
    | refine wG_pure (o_len_vwm rfl) ?_
    | refine wG_pure (o_not_d rfl) ?_
    | refine wG_p rfl (by first | exact rfl | omega) ?_
    | refine wG_pure (o_not rfl) ?_
    | refine wG_pure (e_ia_vw0 rfl rfl (by omega) rfl) ?_
    | refine wG_pure (e_ia_vwp rfl rfl (by omega) rfl) ?_
    | refine wG_pure (e_ia_vwm rfl rfl (by omega) (by omega) rfl) ?_
    | refine wG_pure (e_ia_vwi rfl rfl (by omega) rfl) ?_
    | refine wG_pure (e_ia_vwn rfl rfl (by omega) (by omega) rfl) ?_
    | refine wG_n rfl rfl ?_
    | refine wG_u rfl rfl ?_
    | refine wG_new (o_mks rfl rfl (by omega) (by decide)) ?_))
      exact ret_d0 (.inr rfl) rfl (retV_ldt rfl rfl rfl rfl rfl) (retV_mv rfl)
end Go.Proofs.Ytkkcplcgafndgaa.Dst
