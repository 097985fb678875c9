/- Distributions made of weights: what a function gives that makes one. -/
import Derived.Test.YtkeobnaehgcloaaMkdB
import Derived.Test.YtkeobnaehgcloaaMkdC
import Derived.Test.YtkeobnaehgcloaaAb1
namespace Go.Proofs.Ytkeobnaehgcloaa.Dst
open Go Go.Proofs.Ytkeobnaehgcloaa.Ab Go.Proofs.Ytkeobnaehgcloaa.Il
attribute [local irreducible] wpO wpC wpDr wpQ wpG wpE stepA seqQ blkQ Ret ev
set_option maxRecDepth 10000
set_option maxHeartbeats 8000000
set_option linter.unusedSimpArgs false
set_option linter.unusedVariables false

/-- What a function gives that makes a distribution. -/
def dYes (d : Ds) : AV := .tup [.agg [.int .i64 d.f, .sl 0 1 0 d.ws.length], .bool true]
def dNo : AV := .tup [.agg [.int .i64 0, .nilS], .bool false]
theorem con80_yes (nn : Bool) (first : Int) (ws : List Int) (hlen : ws.length ≤ 100000) {B : Int} (hb : bnd ws B) (hB : B ≤ 9000000000000000000) (hf1 : -1000000 ≤ first) (hf2 : first ≤ 1000000) (h : mkOK first ws) : Con Try.prog 80 true [.int .i64 first, .vw nn (ws.map iRow)] (dYes (mkO first ws)) [(mkO first ws).ws.map iRow] :=
  con80_all nn first ws hlen hb hB hf1 hf2 _ [2] _ rfl (plain_map iRow_plain _) ⟨fun _ => ⟨rfl, rfl, rfl⟩, fun hn => absurd h hn⟩
theorem con80_no (nn : Bool) (first : Int) (ws : List Int) (hlen : ws.length ≤ 100000) {B : Int} (hb : bnd ws B) (hB : B ≤ 9000000000000000000) (hf1 : -1000000 ≤ first) (hf2 : first ≤ 1000000) (h : ¬ mkOK first ws) : Con Try.prog 80 true [.int .i64 first, .vw nn (ws.map iRow)] dNo [] :=
  con80_all nn first ws hlen hb hB hf1 hf2 _ [] _ rfl plain_nil ⟨fun hy => absurd hy h, fun _ => ⟨rfl, rfl, rfl⟩⟩
theorem con82_yes (nn : Bool) (first : Int) (ws : List Int) (hlen : ws.length ≤ 100000) {B : Int} (hb : bnd ws B) (hB : B ≤ 9000000000000000000) (hf1 : -1000000 ≤ first) (hf2 : first ≤ 1000000) (h : mkOK first ws) : Con Try.prog 82 true [.int .i64 first, .vw nn (ws.map iRow)] (dYes (mkO first ws)) [(mkO first ws).ws.map iRow] :=
  con82_all nn first ws hlen hb hB hf1 hf2 _ [2] _ rfl (plain_map iRow_plain _) ⟨fun _ => ⟨rfl, rfl, rfl⟩, fun hn => absurd h hn⟩
theorem con82_no (nn : Bool) (first : Int) (ws : List Int) (hlen : ws.length ≤ 100000) {B : Int} (hb : bnd ws B) (hB : B ≤ 9000000000000000000) (hf1 : -1000000 ≤ first) (hf2 : first ≤ 1000000) (h : ¬ mkOK first ws) : Con Try.prog 82 true [.int .i64 first, .vw nn (ws.map iRow)] dNo [] :=
  con82_all nn first ws hlen hb hB hf1 hf2 _ [] _ rfl plain_nil ⟨fun hy => absurd hy h, fun _ => ⟨rfl, rfl, rfl⟩⟩

theorem con21_nil (a : Int) (k : Int) : Con Try.prog 21 true [.agg [.int .i64 a, .nilS], .int .i64 k] (.int .i64 k) [] := by
  refine con_of_wp mixed fun21 (by simp) [] plain_nil ?_
  unfold ac21 ro21
  simp only [zipT]
  have c := con35_nil k
  repeat (first | refine wG_call c rfl rfl ?_ | (first
    | refine wC_a rfl ?_
    | refine q_s rfl ?_
    | refine q_b rfl ?_
    | refine wG_nil ?_
    | refine wG_g rfl ?_
    | refine wG_pure (o_len_vwm rfl) ?_
    | refine wG_pure (o_not_d rfl) ?_
    | refine wG_p rfl (by first | exact rfl | omega) ?_
    | refine wG_pure (o_not rfl) ?_
    | refine wG_pure (e_ia_vw0 rfl rfl (by omega) rfl) ?_
    | refine wG_pure (e_ia_vwp rfl rfl (by omega) rfl) ?_
    | refine wG_pure (e_ia_vwm rfl rfl (by omega) (by omega) rfl) ?_
    | refine wG_pure (e_ia_vwi rfl rfl (by omega) rfl) ?_
    | refine wG_pure (e_ia_vwn rfl rfl (by omega) (by omega) rfl) ?_
    | refine wG_n rfl rfl ?_
    | refine wG_u rfl rfl ?_
    | refine wG_new (o_mks rfl rfl (by omega) (by decide)) ?_))
  exact ret_intE (.inr rfl) ⟨_, retV_mv rfl, rfl⟩
/-- The calls of a law whose result is a distribution. -/
theorem eqD_no : Con Try.prog 19 true [.agg [.int .i64 0, .nilS], .agg [.int .i64 0, .nilS]] (.bool true) [] :=
  con_dnil (con_dnil2 (con19_same false false ⟨0, []⟩ (by decide)))
theorem heldD_no : Con Try.prog 43 true [.agg [.int .i64 0, .nilS], .int .i64 1] (.int .i64 1) [] :=
  con_dnil (con43 false 0 0 1 (by decide) (by decide) (by decide))
theorem GoodD.len {d : Ds} (h : GoodD d) : d.ws.length ≤ 60 := h.1.2
end Go.Proofs.Ytkeobnaehgcloaa.Dst
namespace Go.Proofs.Ytkeobnaehgcloaa.Dst
open Go Go.Proofs.Ytkeobnaehgcloaa.Ab Go.Proofs.Ytkeobnaehgcloaa.Il
attribute [local irreducible] wpO wpC wpDr wpQ wpG wpE stepA seqQ blkQ Ret ev
set_option maxRecDepth 10000
set_option maxHeartbeats 8000000
set_option linter.unusedSimpArgs false
set_option linter.unusedVariables false
def ac94 : AC := (.seq (.reg [⟨(some 6), none, (.alloc [(.int .i64 0), .nilS])⟩, ⟨(some 7), none, (.mv (.c (.bool false)))⟩]) (.seq (.reg [⟨(some 10), none, (.bsl 1 [(.int .i64 0)] 0 [])⟩, ⟨(some 8), none, (.mv (.t 10))⟩]) (.seq (.seq (.reg [⟨(some 11), none, (.mv (.t 0))⟩, ⟨(some 9), none, (.mv (.t 11))⟩]) (.blk 0 (.loop (.seq (.seq (.reg [⟨(some 12), none, (.mv (.t 9))⟩, ⟨(some 13), none, (.mv (.t 1))⟩, ⟨(some 14), none, (.bin .leq (.t 12) (.t 13))⟩]) (.cond (.t 14) .skip (.exit 0))) (.seq (.blk 1 (.reg [⟨(some 17), none, (.mv (.t 8))⟩, ⟨(some 18), none, (.mv (.t 2))⟩, ⟨(some 19), none, (.mv (.t 9))⟩, ⟨(some 20), none, (.callv (.t 18) [(.t 19)])⟩, ⟨(some 21), none, (.bsl 1 [(.int .i64 0)] 1 [(0, (.t 20))])⟩, ⟨(some 22), none, (.app 1 8 [(.int .i64 0)] (.t 17) (.t 21))⟩, ⟨(some 8), none, (.mv (.t 22))⟩])) (.reg [⟨(some 15), none, (.mv (.t 9))⟩, ⟨(some 16), none, (.bin .add (.t 15) (.c (.int .i64 1)))⟩, ⟨(some 9), none, (.mv (.t 16))⟩])))))) (.seq (.reg [⟨(some 23), none, (.mv (.t 0))⟩, ⟨(some 24), none, (.mv (.t 8))⟩, ⟨(some 25), none, (.call 82 [(.t 23), (.t 24)])⟩, ⟨(some 26), none, (.ext (.t 25) 0)⟩, ⟨(some 27), none, (.ext (.t 25) 1)⟩, ⟨none, none, (.st 2 (.t 6) (.t 26))⟩, ⟨(some 7), none, (.mv (.t 27))⟩]) .ret))))
def ro94 : List AOp := [(.ld true 2 (.t 6)), (.mv (.t 7))]
theorem fun94 : Fun Try.prog 94 28 ac94 ro94 := ⟨Try.f94, _, Try.func94, by kernel_rfl, rfl, rfl, by kernel_rfl, by kernel_rfl, by decide⟩

/-- The weights of some years from one on. -/
def tab (first : Int) (wt : Int → Int) : Nat → List Int
  | 0 => []
  | n + 1 => tab first wt n ++ [wt (first + (n : Int))]
theorem tab_len (first : Int) (wt : Int → Int) : ∀ n, (tab first wt n).length = n
  | 0 => rfl
  | n + 1 => by simp [tab, tab_len first wt n]
theorem tab_get (first : Int) (wt : Int → Int) : ∀ (n : Nat) {i : Nat}, i < n → (tab first wt n).getD i default = wt (first + (i : Int))
  | 0, i, h => absurd h (Nat.not_lt_zero _)
  | n + 1, i, h => by
    simp only [tab]
    rcases Nat.lt_or_ge i n with h1 | h1
    · have := tab_get first wt n h1
      rw [List.getD_eq_getElem?_getD] at this ⊢
      rw [List.getElem?_append_left (by rw [tab_len]; exact h1)]
      exact this
    · have hi : i = n := by omega
      subst hi
      rw [List.getD_eq_getElem?_getD, List.getElem?_append_right (by rw [tab_len]; omega), tab_len, Nat.sub_self]
      rfl
theorem tab_bnd {first : Int} {wt : Int → Int} {n : Nat} {B : Int} (h : ∀ i : Nat, i < n → 0 ≤ wt (first + (i : Int)) ∧ wt (first + (i : Int)) ≤ B) : bnd (tab first wt n) B := by
  intro j hj
  rw [tab_len] at hj
  rw [tab_get first wt n hj]
  exact h j hj
def nY (first last : Int) : Nat := (last - first + 1).toNat
theorem con94_all (first last : Int) (hf1 : -1000000 ≤ first) (hf2 : first ≤ 1000000) (hn : nY first last ≤ 100000) {f : Nat} {caps : List AV} (wt : Int → Int) (hf : ∀ y, first ≤ y → y ≤ last → Con Try.prog f true (.int .i64 y :: caps) (.int .i64 (wt y)) []) (hc : ∀ H n, caps.map (dr H (n + 4)) = caps) (hcl : ltrL 0 caps = true) (hcr : ∀ π, rnL π caps = caps) (hcm : ∀ n, ltrL n caps = true)
    {B : Int} (hB : B ≤ 9000000000000000000) (hb : ∀ i : Nat, i < nY first last → 0 ≤ wt (first + (i : Int)) ∧ wt (first + (i : Int)) ≤ B) (v : AV) (rs : List Nat) (objs : List Ab.Rows) (hv : v.nvf = true) (hp : PlainObjs objs)
    (hend : (mkOK first (tab first wt (nY first last)) → v = dYes (mkO first (tab first wt (nY first last))) ∧ rs = [2] ∧ objs = [(mkO first (tab first wt (nY first last))).ws.map iRow]) ∧ (¬ mkOK first (tab first wt (nY first last)) → v = dNo ∧ rs = [] ∧ objs = [])) :
    Con Try.prog 94 true [.int .i64 first, .int .i64 last, .fn f caps] v objs := by
  suffices key : Con Try.prog 94 v.nvf [.int .i64 first, .int .i64 last, .fn f caps] v objs by rwa [hv] at key
  refine con_of_wp mixed fun94 (by simp) rs hp ?_
  unfold ac94 ro94
  simp only [zipT]
  have hN : nY first last = (last - first + 1).toNat := rfl
  generalize nY first last = N at *
  repeat (first
    | refine wC_a rfl ?_
    | refine q_s rfl ?_
    | refine q_b rfl ?_
    | refine wG_nil ?_
    | refine wG_g rfl ?_
    | refine wG_pure (o_len_vwm rfl) ?_
    | refine wG_pure (o_not_d rfl) ?_
    | refine wG_p rfl (by first | exact rfl | omega) ?_
    | refine wG_pure (o_not rfl) ?_
    | refine wG_pure (e_ia_vw0 rfl rfl (by omega) rfl) ?_
    | refine wG_pure (e_ia_vwp rfl rfl (by omega) rfl) ?_
    | refine wG_pure (e_ia_vwm rfl rfl (by omega) (by omega) rfl) ?_
    | refine wG_pure (e_ia_vwi rfl rfl (by omega) rfl) ?_
    | refine wG_pure (e_ia_vwn rfl rfl (by omega) (by omega) rfl) ?_
    | refine wG_n rfl rfl ?_
    | refine wG_u rfl rfl ?_
    | refine wG_new (o_mks rfl rfl (by omega) (by decide)) ?_)
  refine wC_loopR Nat (fun k => ⟨[(0, .int .i64 first), (1, .int .i64 last), (2, .fn f caps), (6, .pt 0 0 0), (8, .sl 1 1 0 (tab first wt k).length), (9, .int .i64 (first + (k : Int)))], [(1, some ((tab first wt k).map iRow)), (0, some [[.int .i64 0, .nilS]])], 2⟩) (fun k => k ≤ N) (fun k => N - k) 0 (Nat.zero_le _) ⟨[0, 1], ?_⟩ ?_
  · refine ⟨⟨⟨rfl, rfl⟩, ⟨rfl, rfl⟩, ⟨by simp [lk, rn, hcr], hcm _⟩, ⟨rfl, rfl⟩, ⟨rfl, rfl⟩, ⟨by simp [lk, rn], rfl⟩, trivial⟩, ⟨⟨⟨_, rfl, rfl⟩, (by show 1 < 2; decide), ltrI _ _⟩, ⟨⟨_, rfl, rfl⟩, (by show 0 < 2; decide), by simp [AV.ltr]⟩, trivial⟩, rfl, by decide⟩
  intro k hk
  have hl := tab_len first wt k
  repeat (first
    | refine wC_a rfl ?_
    | refine q_s rfl ?_
    | refine q_b rfl ?_
    | refine wG_nil ?_
    | refine wG_g rfl ?_
    | refine wG_pure (o_len_vwm rfl) ?_
    | refine wG_pure (o_not_d rfl) ?_
    | refine wG_p rfl (by first | exact rfl | omega) ?_
    | refine wG_pure (o_not rfl) ?_
    | refine wG_pure (e_ia_vw0 rfl rfl (by omega) rfl) ?_
    | refine wG_pure (e_ia_vwp rfl rfl (by omega) rfl) ?_
    | refine wG_pure (e_ia_vwm rfl rfl (by omega) (by omega) rfl) ?_
    | refine wG_pure (e_ia_vwi rfl rfl (by omega) rfl) ?_
    | refine wG_pure (e_ia_vwn rfl rfl (by omega) (by omega) rfl) ?_
    | refine wG_n rfl rfl ?_
    | refine wG_u rfl rfl ?_
    | refine wG_new (o_mks rfl rfl (by omega) (by decide)) ?_)
  refine wC_cond_d rfl (fun h3 => ?_) (fun h3 => ?_)
  · have hk2 : k < N := by omega
    have c := hf (first + (k : Int)) (by omega) h3
    repeat (first | refine wG_callv rfl c (ag_cap (n := 2) rfl hc rfl) rfl ?_ | refine wG_app rfl rfl (by simp) (rows_sl rfl rfl rfl) (by simp) (by simp; omega) (by decide) ?_ | (first
    | refine wC_a rfl ?_
    | refine q_s rfl ?_
    | refine q_b rfl ?_
    | refine wG_nil ?_
    | refine wG_g rfl ?_
    | refine wG_pure (o_len_vwm rfl) ?_
    | refine wG_pure (o_not_d rfl) ?_
    | refine wG_p rfl (by first | exact rfl | omega) ?_
    | refine wG_pure (o_not rfl) ?_
    | refine wG_pure (e_ia_vw0 rfl rfl (by omega) rfl) ?_
    | refine wG_pure (e_ia_vwp rfl rfl (by omega) rfl) ?_
    | refine wG_pure (e_ia_vwm rfl rfl (by omega) (by omega) rfl) ?_
    | refine wG_pure (e_ia_vwi rfl rfl (by omega) rfl) ?_
    | refine wG_pure (e_ia_vwn rfl rfl (by omega) (by omega) rfl) ?_
    | refine wG_n rfl rfl ?_
    | refine wG_u rfl rfl ?_
    | refine wG_new (o_mks rfl rfl (by omega) (by decide)) ?_))
    refine ⟨k + 1, by omega, by omega, [0, 3], ?_⟩
    simp only [tab]
    refine ⟨⟨⟨rfl, rfl⟩, ⟨rfl, rfl⟩, ⟨by simp [lk, rn, hcr], hcm _⟩, ⟨rfl, rfl⟩, ⟨by simp [lk, rn, πof], rfl⟩, ⟨by simp [lk, rn]; omega, rfl⟩, trivial⟩, ⟨⟨⟨_, rfl, ?_⟩, (by show 1 < 2; decide), ltrI _ _⟩, ⟨⟨_, rfl, rfl⟩, (by show 0 < 2; decide), by simp [AV.ltr]⟩, trivial⟩, rfl, by decide⟩
    rw [← rn_rows (rowsP _), List.map_append]; rfl
  · have hk3 : k = N := by omega
    subst hk3
    have hbd : bnd (tab first wt k) B := tab_bnd hb
    by_cases hm : mkOK first (tab first wt k)
    · obtain ⟨rfl, rfl, rfl⟩ := hend.1 hm
      have c := con82_yes true first (tab first wt k) (by omega) hbd hB hf1 hf2 hm
      unfold dYes at *
      repeat (first | refine wG_call1 c (ag_int rfl (ag_sl rfl rfl rfl iRow_plain ag_nil)) rfl ?_ | (first
    | refine wC_a rfl ?_
    | refine q_s rfl ?_
    | refine q_b rfl ?_
    | refine wG_nil ?_
    | refine wG_g rfl ?_
    | refine wG_pure (o_len_vwm rfl) ?_
    | refine wG_pure (o_not_d rfl) ?_
    | refine wG_p rfl (by first | exact rfl | omega) ?_
    | refine wG_pure (o_not rfl) ?_
    | refine wG_pure (e_ia_vw0 rfl rfl (by omega) rfl) ?_
    | refine wG_pure (e_ia_vwp rfl rfl (by omega) rfl) ?_
    | refine wG_pure (e_ia_vwm rfl rfl (by omega) (by omega) rfl) ?_
    | refine wG_pure (e_ia_vwi rfl rfl (by omega) rfl) ?_
    | refine wG_pure (e_ia_vwn rfl rfl (by omega) (by omega) rfl) ?_
    | refine wG_n rfl rfl ?_
    | refine wG_u rfl rfl ?_
    | refine wG_new (o_mks rfl rfl (by omega) (by decide)) ?_))
      exact ret_db (.inr rfl) rfl (retV_ldt rfl rfl rfl rfl rfl) (retV_mv rfl) rfl
    · obtain ⟨rfl, rfl, rfl⟩ := hend.2 hm
      have c := con82_no true first (tab first wt k) (by omega) hbd hB hf1 hf2 hm
      unfold dNo at *
      repeat (first | refine wG_call c (ag_int rfl (ag_sl rfl rfl rfl iRow_plain ag_nil)) rfl ?_ | (first
    | refine wC_a rfl ?_
    | refine q_s rfl ?_
    | refine q_b rfl ?_
    | refine wG_nil ?_
    | refine wG_g rfl ?_
    | refine wG_pure (o_len_vwm rfl) ?_
    | refine wG_pure (o_not_d rfl) ?_
    | refine wG_p rfl (by first | exact rfl | omega) ?_
    | refine wG_pure (o_not rfl) ?_
    | refine wG_pure (e_ia_vw0 rfl rfl (by omega) rfl) ?_
    | refine wG_pure (e_ia_vwp rfl rfl (by omega) rfl) ?_
    | refine wG_pure (e_ia_vwm rfl rfl (by omega) (by omega) rfl) ?_
    | refine wG_pure (e_ia_vwi rfl rfl (by omega) rfl) ?_
    | refine wG_pure (e_ia_vwn rfl rfl (by omega) (by omega) rfl) ?_
    | refine wG_n rfl rfl ?_
    | refine wG_u rfl rfl ?_
    | refine wG_new (o_mks rfl rfl (by omega) (by decide)) ?_))
      exact ret_d0 (.inr rfl) rfl (retV_ldt rfl rfl rfl rfl rfl) (retV_mv rfl)
end Go.Proofs.Ytkeobnaehgcloaa.Dst
namespace Go.Proofs.Ytkeobnaehgcloaa.Dst
open Go Go.Proofs.Ytkeobnaehgcloaa.Ab Go.Proofs.Ytkeobnaehgcloaa.Il
attribute [local irreducible] wpO wpC wpDr wpQ wpG wpE stepA seqQ blkQ Ret ev
set_option maxRecDepth 10000
set_option maxHeartbeats 8000000
set_option linter.unusedSimpArgs false
set_option linter.unusedVariables false
def ac49 : AC := (.seq (.reg [⟨(some 2), none, (.box 2 true (.t 0))⟩, ⟨(some 3), none, (.box 2 true (.t 1))⟩, ⟨(some 4), none, (.alloc [(.int .i64 0), .nilS])⟩, ⟨(some 5), none, (.mv (.c (.bool false)))⟩]) (.seq (.seq (.reg [⟨(some 8), none, (.ld true 2 (.t 2))⟩, ⟨(some 9), none, (.call 86 [(.t 8)])⟩, ⟨(some 10), none, (.un .not (.t 9))⟩, ⟨(some 11), none, (.mv (.t 10))⟩, ⟨(some 12), (some (11, false)), (.ld true 2 (.t 3))⟩, ⟨(some 13), (some (11, false)), (.call 86 [(.t 12)])⟩, ⟨(some 14), (some (11, false)), (.un .not (.t 13))⟩, ⟨(some 15), none, (.pick (.t 11) (.c (.bool true)) (.t 14))⟩]) (.cond (.t 15) (.seq (.reg [⟨(some 16), none, (.build [(.int .i64 0), .nilS] [])⟩, ⟨none, none, (.st 2 (.t 4) (.t 16))⟩, ⟨(some 5), none, (.mv (.c (.bool false)))⟩]) .ret) .skip)) (.seq (.reg [⟨(some 17), none, (.bsl 1 [(.int .i64 0)] 0 [])⟩, ⟨(some 6), none, (.mv (.t 17))⟩]) (.seq (.seq (.reg [⟨(some 7), none, (.mv (.c (.int .i64 0)))⟩]) (.blk 0 (.loop (.seq (.seq (.reg [⟨(some 18), none, (.mv (.t 7))⟩, ⟨(some 19), none, (.fa 1 (.t 2))⟩, ⟨(some 20), none, (.ld false 1 (.t 19))⟩, ⟨(some 21), none, (.len (.t 20))⟩, ⟨(some 22), none, (.bin .lss (.t 18) (.t 21))⟩]) (.cond (.t 22) .skip (.exit 0))) (.seq (.blk 1 (.dreg [⟨(some 25), none, (.mv (.t 6))⟩, ⟨(some 26), none, (.fa 1 (.t 2))⟩, ⟨(some 27), none, (.ld false 1 (.t 26))⟩, ⟨(some 28), none, (.mv (.t 7))⟩, ⟨(some 29), none, (.ia 1 (.t 27) (.t 28))⟩, ⟨(some 30), none, (.ld false 1 (.t 29))⟩, ⟨(some 31), none, (.ld true 2 (.t 3))⟩, ⟨(some 32), none, (.fa 0 (.t 2))⟩, ⟨(some 33), none, (.ld false 1 (.t 32))⟩, ⟨(some 34), none, (.mv (.t 7))⟩, ⟨(some 35), none, (.bin .add (.t 33) (.t 34))⟩, ⟨(some 36), none, (.call 88 [(.t 31), (.t 35)])⟩, ⟨(some 37), none, (.bin .mul (.t 30) (.t 36))⟩, ⟨(some 38), none, (.bsl 1 [(.int .i64 0)] 1 [(0, (.t 37))])⟩, ⟨(some 39), none, (.app 1 8 [(.int .i64 0)] (.t 25) (.t 38))⟩, ⟨(some 6), none, (.mv (.t 39))⟩] [[], [], [1], [], [1, 2, 3], [1, 2, 3, 4], [], [], [7], [], [7, 8, 9], [6, 7, 8, 9, 10], [1, 2, 3, 4, 5, 6, 7, 8, 9, 10, 11], [1, 2, 3, 4, 5, 6, 7, 8, 9, 10, 11, 12], [0, 1, 2, 3, 4, 5, 6, 7, 8, 9, 10, 11, 12, 13], [0, 1, 2, 3, 4, 5, 6, 7, 8, 9, 10, 11, 12, 13, 14]])) (.reg [⟨(some 23), none, (.mv (.t 7))⟩, ⟨(some 24), none, (.bin .add (.t 23) (.c (.int .i64 1)))⟩, ⟨(some 7), none, (.mv (.t 24))⟩])))))) (.seq (.reg [⟨(some 40), none, (.fa 0 (.t 2))⟩, ⟨(some 41), none, (.ld false 1 (.t 40))⟩, ⟨(some 42), none, (.mv (.t 6))⟩, ⟨(some 43), none, (.call 80 [(.t 41), (.t 42)])⟩, ⟨(some 44), none, (.ext (.t 43) 0)⟩, ⟨(some 45), none, (.ext (.t 43) 1)⟩, ⟨none, none, (.st 2 (.t 4) (.t 44))⟩, ⟨(some 5), none, (.mv (.t 45))⟩]) .ret)))))
def ro49 : List AOp := [(.ld true 2 (.t 4)), (.mv (.t 5))]
theorem fun49 : Fun Try.prog 49 46 ac49 ro49 := ⟨Try.f49, _, Try.func49, by kernel_rfl, rfl, rfl, by kernel_rfl, by kernel_rfl, by decide⟩
def ac54 : AC := (.seq (.reg [⟨(some 2), none, (.box 2 true (.t 0))⟩, ⟨(some 3), none, (.box 2 true (.t 1))⟩, ⟨(some 4), none, (.alloc [(.int .i64 0), .nilS])⟩, ⟨(some 5), none, (.mv (.c (.bool false)))⟩]) (.seq (.seq (.reg [⟨(some 6), none, (.ld true 2 (.t 2))⟩, ⟨(some 7), none, (.call 63 [(.t 6)])⟩, ⟨(some 8), none, (.un .not (.t 7))⟩, ⟨(some 9), none, (.mv (.t 8))⟩, ⟨(some 10), (some (9, false)), (.ld true 2 (.t 3))⟩, ⟨(some 11), (some (9, false)), (.call 63 [(.t 10)])⟩, ⟨(some 12), (some (9, false)), (.un .not (.t 11))⟩, ⟨(some 13), none, (.pick (.t 9) (.c (.bool true)) (.t 12))⟩]) (.cond (.t 13) (.seq (.reg [⟨(some 14), none, (.build [(.int .i64 0), .nilS] [])⟩, ⟨none, none, (.st 2 (.t 4) (.t 14))⟩, ⟨(some 5), none, (.mv (.c (.bool false)))⟩]) .ret) .skip)) (.seq (.dreg [⟨(some 15), none, (.fa 0 (.t 2))⟩, ⟨(some 16), none, (.ld false 1 (.t 15))⟩, ⟨(some 17), none, (.ld true 2 (.t 2))⟩, ⟨(some 18), none, (.call 95 [(.t 17)])⟩, ⟨(some 19), none, (.mkf 96 [(.t 2), (.t 3)])⟩, ⟨(some 20), none, (.call 94 [(.t 16), (.t 18), (.t 19)])⟩, ⟨(some 21), none, (.ext (.t 20) 0)⟩, ⟨(some 22), none, (.ext (.t 20) 1)⟩, ⟨none, none, (.st 2 (.t 4) (.t 21))⟩, ⟨(some 5), none, (.mv (.t 22))⟩] [[], [0], [], [2], [], [0, 1, 2, 3, 4], [0, 1, 2, 3, 4, 5], [0, 1, 2, 3, 4, 5], [0, 1, 2, 3, 4, 5, 6, 7], [0, 1, 2, 3, 4, 5, 6, 7, 8]]) .ret)))
def ro54 : List AOp := [(.ld true 2 (.t 4)), (.mv (.t 5))]
theorem fun54 : Fun Try.prog 54 23 ac54 ro54 := ⟨Try.f54, _, Try.func54, by kernel_rfl, rfl, rfl, by kernel_rfl, by kernel_rfl, by decide⟩
def ac96 : AC := (.seq (.reg [⟨(some 4), none, (.mv (.c (.int .i64 0)))⟩]) (.seq (.dreg [⟨(some 5), none, (.ld true 2 (.t 1))⟩, ⟨(some 6), none, (.mv (.t 0))⟩, ⟨(some 7), none, (.call 97 [(.t 5), (.t 6)])⟩, ⟨(some 8), none, (.ld true 2 (.t 2))⟩, ⟨(some 9), none, (.mv (.t 0))⟩, ⟨(some 10), none, (.call 97 [(.t 8), (.t 9)])⟩, ⟨(some 11), none, (.bin .mul (.t 7) (.t 10))⟩, ⟨(some 4), none, (.mv (.t 11))⟩] [[], [], [0, 1], [], [], [0, 1, 2, 3, 4], [0, 1, 2, 3, 4, 5], [0, 1, 2, 3, 4, 5, 6]]) .ret))
def ro96 : List AOp := [(.mv (.t 4))]
theorem fun96 : Fun Try.prog 96 12 ac96 ro96 := ⟨Try.f96, _, Try.func96, by kernel_rfl, rfl, rfl, by kernel_rfl, by kernel_rfl, by decide⟩

theorem rn_dRow (nn : Bool) (d : Ds) (π : Nat → Nat) : rnL π (dRow nn d) = dRow nn d := rfl
theorem mul_at {a b : Ds} (ha : GoodD a) (hb : GoodD b) (x y : Int) : 0 ≤ atY a x * atY b y ∧ atY a x * atY b y ≤ 1000000000000 :=
  ⟨Int.mul_nonneg (ha.at_b x).1 (hb.at_b y).1, Int.le_trans (Int.mul_le_mul (ha.at_b x).2 (hb.at_b y).2 (hb.at_b y).1 (by decide)) (by decide)⟩
theorem atY_i {f : Int} {ws : List Int} {i : Nat} (h : i < ws.length) : atY ⟨f, ws⟩ (f + (i : Int)) = ws.getD i default := by
  rw [← atY_yes (by omega)]
  congr 1
  omega
theorem nY_len {f : Int} {n : Nat} : nY f (f + (n : Int) - 1) = n := by unfold nY; omega
/-- The products of both weights. -/
def cmL (a b : Ds) : List Int := tab a.f (fun y => atY a y * atY b y) a.ws.length
def cmOK (a b : Ds) : Prop := (GoodD a ∧ GoodD b) ∧ mkOK a.f (cmL a b)
theorem con96 (nn mm : Bool) (a b : Ds) (ha : GoodD a) (hb : GoodD b) (y : Int) : Con Try.prog 96 true [.int .i64 y, .vp (dRow nn a), .vp (dRow mm b)] (.int .i64 (atY a y * atY b y)) [] := by
  refine con_of_wp mixed fun96 (by simp) [] plain_nil ?_
  unfold ac96 ro96
  simp only [zipT]
  have c1 := con97 nn a ha y
  have c2 := con97 mm b hb y
  have hm := mul_at ha hb y y
  unfold dRow at *
  repeat (first | refine wG_call c1 rfl rfl ?_ | refine wG_call c2 rfl rfl ?_ | (first
    | refine wC_a rfl ?_
    | refine q_s rfl ?_
    | refine q_b rfl ?_
    | refine wG_nil ?_
    | refine wG_g rfl ?_
    | refine wG_pure (o_len_vwm rfl) ?_
    | refine wG_pure (o_not_d rfl) ?_
    | refine wG_p rfl (by first | exact rfl | omega) ?_
    | refine wG_pure (o_not rfl) ?_
    | refine wG_pure (e_ia_vw0 rfl rfl (by omega) rfl) ?_
    | refine wG_pure (e_ia_vwp rfl rfl (by omega) rfl) ?_
    | refine wG_pure (e_ia_vwm rfl rfl (by omega) (by omega) rfl) ?_
    | refine wG_pure (e_ia_vwi rfl rfl (by omega) rfl) ?_
    | refine wG_pure (e_ia_vwn rfl rfl (by omega) (by omega) rfl) ?_
    | refine wG_n rfl rfl ?_
    | refine wG_u rfl rfl ?_
    | refine wG_new (o_mks rfl rfl (by omega) (by decide)) ?_))
  exact ret_intE (.inr rfl) ⟨_, retV_mv rfl, rfl⟩
theorem con54_all (nn mm : Bool) (a b : Ds) (h1 : a.ws.length ≤ 1048576) (h2 : b.ws.length ≤ 1048576) (v : AV) (rs : List Nat) (objs : List Ab.Rows) (hv : v.nvf = true) (hp : PlainObjs objs)
    (hend : (cmOK a b → v = dYes (mkO a.f (cmL a b)) ∧ rs = [3] ∧ objs = [(mkO a.f (cmL a b)).ws.map iRow]) ∧ (¬ cmOK a b → v = dNo ∧ rs = [] ∧ objs = [])) :
    Con Try.prog 54 true [.agg (dRow nn a), .agg (dRow mm b)] v objs := by
  classical
  suffices key : Con Try.prog 54 v.nvf [.agg (dRow nn a), .agg (dRow mm b)] v objs by rwa [hv] at key
  refine con_of_wp mixed fun54 (by simp) rs hp ?_
  unfold ac54 ro54
  simp only [zipT]
  have c1 := con63 nn a h1
  have c2 := con63 mm b h2
  by_cases hA : GoodD a
  · rw [decide_eq_true hA] at c1
    by_cases hB : GoodD b
    · rw [decide_eq_true hB] at c2
      have hf := hA.2.1
      have h60 := hA.1
      have c3 := con95 nn a h1 (by omega) (by omega)
      have hN : nY a.f (a.f + a.ws.length - 1) = a.ws.length := nY_len
      have ct := fun v rs objs hv hp hend => con94_all a.f (a.f + a.ws.length - 1) (by omega) (by omega) (by omega) (fun y => atY a y * atY b y) (fun y _ _ => con96 nn mm a b hA hB y) (fun _ _ => rfl) rfl (fun _ => rfl) (fun _ => rfl) (B := 1000000000000) (by decide) (fun i _ => mul_at hA hB _ _) v rs objs hv hp hend
      rw [hN] at ct
      have hcl : cmL a b = tab a.f (fun y => atY a y * atY b y) a.ws.length := rfl
      rw [← hcl] at ct
      by_cases hm : mkOK a.f (cmL a b)
      · obtain ⟨rfl, rfl, rfl⟩ := hend.1 ⟨⟨hA, hB⟩, hm⟩
        have c4 := ct (dYes (mkO a.f (cmL a b))) [2] [(mkO a.f (cmL a b)).ws.map iRow] rfl (plain_map iRow_plain _) ⟨fun _ => ⟨rfl, rfl, rfl⟩, fun h => absurd hm h⟩
        unfold dRow dYes at *
        repeat (first | refine wG_call c1 rfl rfl ?_ | refine wG_call c2 rfl rfl ?_ | refine wE_call c3 rfl rfl rfl ?_ | refine wE_call1 c4 (ag_int rfl (ag_int rfl (ag_any rfl ag_nil))) rfl rfl ?_ | (first
    | refine wC_a rfl ?_
    | refine q_s rfl ?_
    | refine q_b rfl ?_
    | refine wG_nil ?_
    | refine wG_g rfl ?_
    | refine wG_pure (o_len_vwm rfl) ?_
    | refine wG_pure (o_not_d rfl) ?_
    | refine wG_p rfl (by first | exact rfl | omega) ?_
    | refine wG_pure (o_not rfl) ?_
    | refine wG_pure (e_ia_vw0 rfl rfl (by omega) rfl) ?_
    | refine wG_pure (e_ia_vwp rfl rfl (by omega) rfl) ?_
    | refine wG_pure (e_ia_vwm rfl rfl (by omega) (by omega) rfl) ?_
    | refine wG_pure (e_ia_vwi rfl rfl (by omega) rfl) ?_
    | refine wG_pure (e_ia_vwn rfl rfl (by omega) (by omega) rfl) ?_
    | refine wG_n rfl rfl ?_
    | refine wG_u rfl rfl ?_
    | refine wG_new (o_mks rfl rfl (by omega) (by decide)) ?_) | (first
    | refine wE_nil (by kernel_rfl) ?_
    | refine wE_gy rfl ?_
    | refine wE_gn rfl rfl rfl ?_
    | refine wE_gu rfl rfl ?_
    | refine wE_gnn rfl rfl rfl ?_
    | refine wE_v (o_len_vwm rfl) rfl ?_
    | refine wE_v (o_not_d rfl) rfl ?_
    | refine wE_p rfl (by first | exact rfl | omega) rfl ?_
    | refine wE_v (o_not rfl) rfl ?_
    | refine wE_v (e_ia_vw0 rfl rfl (by omega) rfl) rfl ?_
    | refine wE_v (e_ia_vwp rfl rfl (by omega) rfl) rfl ?_
    | refine wE_v (e_ia_vwm rfl rfl (by omega) (by omega) rfl) rfl ?_
    | refine wE_v (e_ia_vwi rfl rfl (by omega) rfl) rfl ?_
    | refine wE_v (e_ia_vwn rfl rfl (by omega) (by omega) rfl) rfl ?_
    | refine wE_n rfl rfl rfl ?_
    | refine wE_u rfl rfl rfl ?_
    | refine wE_new (o_mks rfl rfl (by omega) (by decide)) rfl ?_))
        exact ret_db (.inr rfl) rfl (retV_ldt rfl rfl rfl rfl rfl) (retV_mv rfl) rfl
      · obtain ⟨rfl, rfl, rfl⟩ := hend.2 (fun h => hm h.2)
        have c4 := ct dNo [] [] rfl plain_nil ⟨fun h => absurd h hm, fun _ => ⟨rfl, rfl, rfl⟩⟩
        unfold dRow dNo at *
        repeat (first | refine wG_call c1 rfl rfl ?_ | refine wG_call c2 rfl rfl ?_ | refine wE_call c3 rfl rfl rfl ?_ | refine wE_call c4 (ag_int rfl (ag_int rfl (ag_any rfl ag_nil))) rfl rfl ?_ | (first
    | refine wC_a rfl ?_
    | refine q_s rfl ?_
    | refine q_b rfl ?_
    | refine wG_nil ?_
    | refine wG_g rfl ?_
    | refine wG_pure (o_len_vwm rfl) ?_
    | refine wG_pure (o_not_d rfl) ?_
    | refine wG_p rfl (by first | exact rfl | omega) ?_
    | refine wG_pure (o_not rfl) ?_
    | refine wG_pure (e_ia_vw0 rfl rfl (by omega) rfl) ?_
    | refine wG_pure (e_ia_vwp rfl rfl (by omega) rfl) ?_
    | refine wG_pure (e_ia_vwm rfl rfl (by omega) (by omega) rfl) ?_
    | refine wG_pure (e_ia_vwi rfl rfl (by omega) rfl) ?_
    | refine wG_pure (e_ia_vwn rfl rfl (by omega) (by omega) rfl) ?_
    | refine wG_n rfl rfl ?_
    | refine wG_u rfl rfl ?_
    | refine wG_new (o_mks rfl rfl (by omega) (by decide)) ?_) | (first
    | refine wE_nil (by kernel_rfl) ?_
    | refine wE_gy rfl ?_
    | refine wE_gn rfl rfl rfl ?_
    | refine wE_gu rfl rfl ?_
    | refine wE_gnn rfl rfl rfl ?_
    | refine wE_v (o_len_vwm rfl) rfl ?_
    | refine wE_v (o_not_d rfl) rfl ?_
    | refine wE_p rfl (by first | exact rfl | omega) rfl ?_
    | refine wE_v (o_not rfl) rfl ?_
    | refine wE_v (e_ia_vw0 rfl rfl (by omega) rfl) rfl ?_
    | refine wE_v (e_ia_vwp rfl rfl (by omega) rfl) rfl ?_
    | refine wE_v (e_ia_vwm rfl rfl (by omega) (by omega) rfl) rfl ?_
    | refine wE_v (e_ia_vwi rfl rfl (by omega) rfl) rfl ?_
    | refine wE_v (e_ia_vwn rfl rfl (by omega) (by omega) rfl) rfl ?_
    | refine wE_n rfl rfl rfl ?_
    | refine wE_u rfl rfl rfl ?_
    | refine wE_new (o_mks rfl rfl (by omega) (by decide)) rfl ?_))
        exact ret_d0 (.inr rfl) rfl (retV_ldt rfl rfl rfl rfl rfl) (retV_mv rfl)
    · rw [decide_eq_false hB] at c2
      obtain ⟨rfl, rfl, rfl⟩ := hend.2 (fun h => hB h.1.2)
      unfold dRow dNo at *
      repeat (first | refine wG_call c1 rfl rfl ?_ | refine wG_call c2 rfl rfl ?_ | (first
    | refine wC_a rfl ?_
    | refine q_s rfl ?_
    | refine q_b rfl ?_
    | refine wG_nil ?_
    | refine wG_g rfl ?_
    | refine wG_pure (o_len_vwm rfl) ?_
    | refine wG_pure (o_not_d rfl) ?_
    | refine wG_p rfl (by first | exact rfl | omega) ?_
    | refine wG_pure (o_not rfl) ?_
    | refine wG_pure (e_ia_vw0 rfl rfl (by omega) rfl) ?_
    | refine wG_pure (e_ia_vwp rfl rfl (by omega) rfl) ?_
    | refine wG_pure (e_ia_vwm rfl rfl (by omega) (by omega) rfl) ?_
    | refine wG_pure (e_ia_vwi rfl rfl (by omega) rfl) ?_
    | refine wG_pure (e_ia_vwn rfl rfl (by omega) (by omega) rfl) ?_
    | refine wG_n rfl rfl ?_
    | refine wG_u rfl rfl ?_
    | refine wG_new (o_mks rfl rfl (by omega) (by decide)) ?_))
      exact ret_d0 (.inr rfl) rfl (retV_ldt rfl rfl rfl rfl rfl) (retV_mv rfl)
  · rw [decide_eq_false hA] at c1
    obtain ⟨rfl, rfl, rfl⟩ := hend.2 (fun h => hA h.1.1)
    unfold dRow dNo at *
    repeat (first | refine wG_call c1 rfl rfl ?_ | (first
    | refine wC_a rfl ?_
    | refine q_s rfl ?_
    | refine q_b rfl ?_
    | refine wG_nil ?_
    | refine wG_g rfl ?_
    | refine wG_pure (o_len_vwm rfl) ?_
    | refine wG_pure (o_not_d rfl) ?_
    | refine wG_p rfl (by first | exact rfl | omega) ?_
    | refine wG_pure (o_not rfl) ?_
    | refine wG_pure (e_ia_vw0 rfl rfl (by omega) rfl) ?_
    | refine wG_pure (e_ia_vwp rfl rfl (by omega) rfl) ?_
    | refine wG_pure (e_ia_vwm rfl rfl (by omega) (by omega) rfl) ?_
    | refine wG_pure (e_ia_vwi rfl rfl (by omega) rfl) ?_
    | refine wG_pure (e_ia_vwn rfl rfl (by omega) (by omega) rfl) ?_
    | refine wG_n rfl rfl ?_
    | refine wG_u rfl rfl ?_
    | refine wG_new (o_mks rfl rfl (by omega) (by decide)) ?_))
    exact ret_d0 (.inr rfl) rfl (retV_ldt rfl rfl rfl rfl rfl) (retV_mv rfl)

theorem con49_all (nn mm : Bool) (a b : Ds) (h1 : a.ws.length ≤ 1048576) (h2 : b.ws.length ≤ 1048576) (v : AV) (rs : List Nat) (objs : List Ab.Rows) (hv : v.nvf = true) (hp : PlainObjs objs)
    (hend : (cmOK a b → v = dYes (mkO a.f (cmL a b)) ∧ rs = [4] ∧ objs = [(mkO a.f (cmL a b)).ws.map iRow]) ∧ (¬ cmOK a b → v = dNo ∧ rs = [] ∧ objs = [])) :
    Con Try.prog 49 true [.agg (dRow nn a), .agg (dRow mm b)] v objs := by
  classical
  suffices key : Con Try.prog 49 v.nvf [.agg (dRow nn a), .agg (dRow mm b)] v objs by rwa [hv] at key
  refine con_of_wp mixed fun49 (by simp) rs hp ?_
  unfold ac49 ro49
  simp only [zipT]
  have c1 := con86 nn a h1
  have c2 := con86 mm b h2
  by_cases hA : GoodD a
  · rw [decide_eq_true hA] at c1
    by_cases hB : GoodD b
    · rw [decide_eq_true hB] at c2
      have hf := hA.2.1
      have h60 := hA.1
      have hbd : bnd (cmL a b) 1000000000000 := tab_bnd (fun i _ => mul_at hA hB _ _)
      have hcl : cmL a b = tab a.f (fun y => atY a y * atY b y) a.ws.length := rfl
      have hlc : (cmL a b).length = a.ws.length := tab_len _ _ _
      have cat := fun y => con88 mm b hB y
      have hml := fun x y => mul_at hA hB x y
      have hai := fun i (h : i < a.ws.length) => atY_i (f := a.f) (ws := a.ws) h
      have cy := fun h => con80_yes true a.f (cmL a b) (by omega) hbd (by decide) (by omega) (by omega) h
      have cn := fun h => con80_no true a.f (cmL a b) (by omega) hbd (by decide) (by omega) (by omega) h
      have hok : cmOK a b ↔ mkOK a.f (cmL a b) := ⟨fun h => h.2, fun h => ⟨⟨hA, hB⟩, h⟩⟩
      rw [hcl] at hend hbd hlc cy cn hok
      generalize hwt : (fun y => atY a y * atY b y) = wt at *
      have hwe : ∀ y, wt y = atY a y * atY b y := fun y => by rw [← hwt]
      obtain ⟨f, ws⟩ := a
      obtain ⟨g, vs⟩ := b
      unfold dRow dYes dNo at *
      simp only at *
      repeat (first | refine wG_call c1 rfl rfl ?_ | refine wG_call c2 rfl rfl ?_ | (first
    | refine wC_a rfl ?_
    | refine q_s rfl ?_
    | refine q_b rfl ?_
    | refine wG_nil ?_
    | refine wG_g rfl ?_
    | refine wG_pure (o_len_vwm rfl) ?_
    | refine wG_pure (o_not_d rfl) ?_
    | refine wG_p rfl (by first | exact rfl | omega) ?_
    | refine wG_pure (o_not rfl) ?_
    | refine wG_pure (e_ia_vw0 rfl rfl (by omega) rfl) ?_
    | refine wG_pure (e_ia_vwp rfl rfl (by omega) rfl) ?_
    | refine wG_pure (e_ia_vwm rfl rfl (by omega) (by omega) rfl) ?_
    | refine wG_pure (e_ia_vwi rfl rfl (by omega) rfl) ?_
    | refine wG_pure (e_ia_vwn rfl rfl (by omega) (by omega) rfl) ?_
    | refine wG_n rfl rfl ?_
    | refine wG_u rfl rfl ?_
    | refine wG_new (o_mks rfl rfl (by omega) (by decide)) ?_))
      refine wC_loopR Nat (fun i => ⟨[(2, .pt 0 0 0), (3, .pt 1 0 0), (4, .pt 2 0 0), (6, .sl 3 1 0 (tab f wt i).length), (7, .int .i64 (i : Int))], [(3, some ((tab f wt i).map iRow)), (2, some [[.int .i64 0, .nilS]]), (1, some [[.int .i64 g, .vw mm (vs.map iRow)]]), (0, some [[.int .i64 f, .vw nn (ws.map iRow)]])], 4⟩) (fun i => i ≤ ws.length) (fun i => ws.length - i) 0 (Nat.zero_le _) ⟨[0, 1, 2, 3], ?_⟩ ?_
      · exact ⟨⟨⟨rfl, rfl⟩, ⟨rfl, rfl⟩, ⟨rfl, rfl⟩, ⟨rfl, rfl⟩, ⟨rfl, rfl⟩, trivial⟩, ⟨⟨⟨_, rfl, rfl⟩, (by show 3 < 4; decide), ltrI _ _⟩, ⟨⟨_, rfl, rfl⟩, (by show 2 < 4; decide), by simp [AV.ltr]⟩, ⟨⟨_, rfl, rfl⟩, (by show 1 < 4; decide), by simp [AV.ltr]⟩, ⟨⟨_, rfl, rfl⟩, (by show 0 < 4; decide), by simp [AV.ltr]⟩, trivial⟩, rfl, by decide⟩
      intro i hi
      have hl := tab_len f wt i
      repeat (first
    | refine wC_a rfl ?_
    | refine q_s rfl ?_
    | refine q_b rfl ?_
    | refine wG_nil ?_
    | refine wG_g rfl ?_
    | refine wG_pure (o_len_vwm rfl) ?_
    | refine wG_pure (o_not_d rfl) ?_
    | refine wG_p rfl (by first | exact rfl | omega) ?_
    | refine wG_pure (o_not rfl) ?_
    | refine wG_pure (e_ia_vw0 rfl rfl (by omega) rfl) ?_
    | refine wG_pure (e_ia_vwp rfl rfl (by omega) rfl) ?_
    | refine wG_pure (e_ia_vwm rfl rfl (by omega) (by omega) rfl) ?_
    | refine wG_pure (e_ia_vwi rfl rfl (by omega) rfl) ?_
    | refine wG_pure (e_ia_vwn rfl rfl (by omega) (by omega) rfl) ?_
    | refine wG_n rfl rfl ?_
    | refine wG_u rfl rfl ?_
    | refine wG_new (o_mks rfl rfl (by omega) (by decide)) ?_)
      refine wC_cond_d rfl (fun h3 => ?_) (fun h3 => ?_)
      · have hi2 : i < ws.length := by omega
        have hm := hml (f + (i : Int)) (f + (i : Int))
        have hw := hwe (f + (i : Int))
        rw [hai i hi2] at hm hw
        have c := cat (f + (i : Int))
        repeat (first | refine wE_call c rfl rfl rfl ?_ | refine wE_app rfl rfl (by simp) (rows_sl rfl rfl rfl) (by simp) (by simp; omega) (by decide) rfl ?_ | (first
    | refine wC_a rfl ?_
    | refine q_s rfl ?_
    | refine q_b rfl ?_
    | refine wG_nil ?_
    | refine wG_g rfl ?_
    | refine wG_pure (o_len_vwm rfl) ?_
    | refine wG_pure (o_not_d rfl) ?_
    | refine wG_p rfl (by first | exact rfl | omega) ?_
    | refine wG_pure (o_not rfl) ?_
    | refine wG_pure (e_ia_vw0 rfl rfl (by omega) rfl) ?_
    | refine wG_pure (e_ia_vwp rfl rfl (by omega) rfl) ?_
    | refine wG_pure (e_ia_vwm rfl rfl (by omega) (by omega) rfl) ?_
    | refine wG_pure (e_ia_vwi rfl rfl (by omega) rfl) ?_
    | refine wG_pure (e_ia_vwn rfl rfl (by omega) (by omega) rfl) ?_
    | refine wG_n rfl rfl ?_
    | refine wG_u rfl rfl ?_
    | refine wG_new (o_mks rfl rfl (by omega) (by decide)) ?_) | (first
    | refine wE_nil (by kernel_rfl) ?_
    | refine wE_gy rfl ?_
    | refine wE_gn rfl rfl rfl ?_
    | refine wE_gu rfl rfl ?_
    | refine wE_gnn rfl rfl rfl ?_
    | refine wE_v (o_len_vwm rfl) rfl ?_
    | refine wE_v (o_not_d rfl) rfl ?_
    | refine wE_p rfl (by first | exact rfl | omega) rfl ?_
    | refine wE_v (o_not rfl) rfl ?_
    | refine wE_v (e_ia_vw0 rfl rfl (by omega) rfl) rfl ?_
    | refine wE_v (e_ia_vwp rfl rfl (by omega) rfl) rfl ?_
    | refine wE_v (e_ia_vwm rfl rfl (by omega) (by omega) rfl) rfl ?_
    | refine wE_v (e_ia_vwi rfl rfl (by omega) rfl) rfl ?_
    | refine wE_v (e_ia_vwn rfl rfl (by omega) (by omega) rfl) rfl ?_
    | refine wE_n rfl rfl rfl ?_
    | refine wE_u rfl rfl rfl ?_
    | refine wE_new (o_mks rfl rfl (by omega) (by decide)) rfl ?_))
        refine ⟨i + 1, hi2, by omega, [0, 1, 2, 5], ?_⟩
        simp only [tab, hw]
        refine ⟨⟨⟨rfl, rfl⟩, ⟨rfl, rfl⟩, ⟨rfl, rfl⟩, ⟨by simp [lk, rn, πof], rfl⟩, ⟨rfl, rfl⟩, trivial⟩, ⟨⟨⟨_, rfl, ?_⟩, (by show 3 < 4; decide), ltrI _ _⟩, ⟨⟨_, rfl, rfl⟩, (by show 2 < 4; decide), by simp [AV.ltr]⟩, ⟨⟨_, rfl, rfl⟩, (by show 1 < 4; decide), by simp [AV.ltr]⟩, ⟨⟨_, rfl, rfl⟩, (by show 0 < 4; decide), by simp [AV.ltr]⟩, trivial⟩, rfl, by decide⟩
        rw [← rn_rows (rowsP _), List.map_append]; rfl
      · have hi3 : i = ws.length := by omega
        subst hi3
        by_cases hm : mkOK f (tab f wt ws.length)
        · obtain ⟨rfl, rfl, rfl⟩ := hend.1 (hok.2 hm)
          have c := cy hm
          repeat (first | refine wG_call1 c (ag_int rfl (ag_sl rfl rfl rfl iRow_plain ag_nil)) rfl ?_ | (first
    | refine wC_a rfl ?_
    | refine q_s rfl ?_
    | refine q_b rfl ?_
    | refine wG_nil ?_
    | refine wG_g rfl ?_
    | refine wG_pure (o_len_vwm rfl) ?_
    | refine wG_pure (o_not_d rfl) ?_
    | refine wG_p rfl (by first | exact rfl | omega) ?_
    | refine wG_pure (o_not rfl) ?_
    | refine wG_pure (e_ia_vw0 rfl rfl (by omega) rfl) ?_
    | refine wG_pure (e_ia_vwp rfl rfl (by omega) rfl) ?_
    | refine wG_pure (e_ia_vwm rfl rfl (by omega) (by omega) rfl) ?_
    | refine wG_pure (e_ia_vwi rfl rfl (by omega) rfl) ?_
    | refine wG_pure (e_ia_vwn rfl rfl (by omega) (by omega) rfl) ?_
    | refine wG_n rfl rfl ?_
    | refine wG_u rfl rfl ?_
    | refine wG_new (o_mks rfl rfl (by omega) (by decide)) ?_))
          exact ret_db (.inr rfl) rfl (retV_ldt rfl rfl rfl rfl rfl) (retV_mv rfl) rfl
        · obtain ⟨rfl, rfl, rfl⟩ := hend.2 (fun h => hm (hok.1 h))
          have c := cn hm
          repeat (first | refine wG_call c (ag_int rfl (ag_sl rfl rfl rfl iRow_plain ag_nil)) rfl ?_ | (first
    | refine wC_a rfl ?_
    | refine q_s rfl ?_
    | refine q_b rfl ?_
    | refine wG_nil ?_
    | refine wG_g rfl ?_
    | refine wG_pure (o_len_vwm rfl) ?_
    | refine wG_pure (o_not_d rfl) ?_
    | refine wG_p rfl (by first | exact rfl | omega) ?_
    | refine wG_pure (o_not rfl) ?_
    | refine wG_pure (e_ia_vw0 rfl rfl (by omega) rfl) ?_
    | refine wG_pure (e_ia_vwp rfl rfl (by omega) rfl) ?_
    | refine wG_pure (e_ia_vwm rfl rfl (by omega) (by omega) rfl) ?_
    | refine wG_pure (e_ia_vwi rfl rfl (by omega) rfl) ?_
    | refine wG_pure (e_ia_vwn rfl rfl (by omega) (by omega) rfl) ?_
    | refine wG_n rfl rfl ?_
    | refine wG_u rfl rfl ?_
    | refine wG_new (o_mks rfl rfl (by omega) (by decide)) ?_))
          exact ret_d0 (.inr rfl) rfl (retV_ldt rfl rfl rfl rfl rfl) (retV_mv rfl)
    · rw [decide_eq_false hB] at c2
      obtain ⟨rfl, rfl, rfl⟩ := hend.2 (fun h => hB h.1.2)
      unfold dRow dNo at *
      repeat (first | refine wG_call c1 rfl rfl ?_ | refine wG_call c2 rfl rfl ?_ | (first
    | refine wC_a rfl ?_
    | refine q_s rfl ?_
    | refine q_b rfl ?_
    | refine wG_nil ?_
    | refine wG_g rfl ?_
    | refine wG_pure (o_len_vwm rfl) ?_
    | refine wG_pure (o_not_d rfl) ?_
    | refine wG_p rfl (by first | exact rfl | omega) ?_
    | refine wG_pure (o_not rfl) ?_
    | refine wG_pure (e_ia_vw0 rfl rfl (by omega) rfl) ?_
    | refine wG_pure (e_ia_vwp rfl rfl (by omega) rfl) ?_
    | refine wG_pure (e_ia_vwm rfl rfl (by omega) (by omega) rfl) ?_
    | refine wG_pure (e_ia_vwi rfl rfl (by omega) rfl) ?_
    | refine wG_pure (e_ia_vwn rfl rfl (by omega) (by omega) rfl) ?_
    | refine wG_n rfl rfl ?_
    | refine wG_u rfl rfl ?_
    | refine wG_new (o_mks rfl rfl (by omega) (by decide)) ?_))
      exact ret_d0 (.inr rfl) rfl (retV_ldt rfl rfl rfl rfl rfl) (retV_mv rfl)
  · rw [decide_eq_false hA] at c1
    obtain ⟨rfl, rfl, rfl⟩ := hend.2 (fun h => hA h.1.1)
    unfold dRow dNo at *
    repeat (first | refine wG_call c1 rfl rfl ?_ | (first
    | refine wC_a rfl ?_
    | refine q_s rfl ?_
    | refine q_b rfl ?_
    | refine wG_nil ?_
    | refine wG_g rfl ?_
    | refine wG_pure (o_len_vwm rfl) ?_
    | refine wG_pure (o_not_d rfl) ?_
    | refine wG_p rfl (by first | exact rfl | omega) ?_
    | refine wG_pure (o_not rfl) ?_
    | refine wG_pure (e_ia_vw0 rfl rfl (by omega) rfl) ?_
    | refine wG_pure (e_ia_vwp rfl rfl (by omega) rfl) ?_
    | refine wG_pure (e_ia_vwm rfl rfl (by omega) (by omega) rfl) ?_
    | refine wG_pure (e_ia_vwi rfl rfl (by omega) rfl) ?_
    | refine wG_pure (e_ia_vwn rfl rfl (by omega) (by omega) rfl) ?_
    | refine wG_n rfl rfl ?_
    | refine wG_u rfl rfl ?_
    | refine wG_new (o_mks rfl rfl (by omega) (by decide)) ?_))
    exact ret_d0 (.inr rfl) rfl (retV_ldt rfl rfl rfl rfl rfl) (retV_mv rfl)
theorem con49_yes (nn mm : Bool) (a b : Ds) (h1 : a.ws.length ≤ 1048576) (h2 : b.ws.length ≤ 1048576) (h : cmOK a b) : Con Try.prog 49 true [.agg (dRow nn a), .agg (dRow mm b)] (dYes (mkO a.f (cmL a b))) [(mkO a.f (cmL a b)).ws.map iRow] :=
  con49_all nn mm a b h1 h2 _ [4] _ rfl (plain_map iRow_plain _) ⟨fun _ => ⟨rfl, rfl, rfl⟩, fun hn => absurd h hn⟩
theorem con49_no (nn mm : Bool) (a b : Ds) (h1 : a.ws.length ≤ 1048576) (h2 : b.ws.length ≤ 1048576) (h : ¬ cmOK a b) : Con Try.prog 49 true [.agg (dRow nn a), .agg (dRow mm b)] dNo [] :=
  con49_all nn mm a b h1 h2 _ [] _ rfl plain_nil ⟨fun hy => absurd hy h, fun _ => ⟨rfl, rfl, rfl⟩⟩
theorem con54_yes (nn mm : Bool) (a b : Ds) (h1 : a.ws.length ≤ 1048576) (h2 : b.ws.length ≤ 1048576) (h : cmOK a b) : Con Try.prog 54 true [.agg (dRow nn a), .agg (dRow mm b)] (dYes (mkO a.f (cmL a b))) [(mkO a.f (cmL a b)).ws.map iRow] :=
  con54_all nn mm a b h1 h2 _ [3] _ rfl (plain_map iRow_plain _) ⟨fun _ => ⟨rfl, rfl, rfl⟩, fun hn => absurd h hn⟩
theorem con54_no (nn mm : Bool) (a b : Ds) (h1 : a.ws.length ≤ 1048576) (h2 : b.ws.length ≤ 1048576) (h : ¬ cmOK a b) : Con Try.prog 54 true [.agg (dRow nn a), .agg (dRow mm b)] dNo [] :=
  con54_all nn mm a b h1 h2 _ [] _ rfl plain_nil ⟨fun hy => absurd hy h, fun _ => ⟨rfl, rfl, rfl⟩⟩
end Go.Proofs.Ytkeobnaehgcloaa.Dst
