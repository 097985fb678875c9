/- Clones of lists of distributions hold views of the old weights. -/
import Derived.Test.YtkeobnaehgcloaaDnV
namespace Go.Proofs.Ytkeobnaehgcloaa.Dst
open Go Go.Proofs.Ytkeobnaehgcloaa.Ab Go.Proofs.Ytkeobnaehgcloaa.Il Go.Proofs.Ytkeobnaehgcloaa.Rec
attribute [local irreducible] wpO wpC wpDr wpQ wpG wpE stepA seqQ blkQ Ret RetG ev
set_option maxRecDepth 10000
set_option maxHeartbeats 8000000
set_option linter.unusedSimpArgs false
set_option linter.unusedVariables false

def ac99 : AC := (.seq (.reg [⟨(some 2), none, (.mv (.c .nilS))⟩]) (.seq (.reg [⟨(some 5), none, (.mv (.t 0))⟩, ⟨(some 6), none, (.call 122 [(.t 5)])⟩, ⟨(some 3), none, (.mv (.t 6))⟩]) (.seq (.seq (.reg [⟨(some 7), none, (.mv (.t 3))⟩, ⟨(some 8), none, (.len (.t 7))⟩, ⟨(some 9), none, (.mv (.c (.int .i64 0)))⟩]) (.blk 0 (.loop (.seq (.reg [⟨(some 10), none, (.bin .lss (.t 9) (.t 8))⟩]) (.seq (.cond (.t 10) .skip (.exit 0)) (.seq (.blk 1 (.seq (.reg [⟨(some 11), none, (.mv (.t 9))⟩, ⟨(some 4), none, (.mv (.t 11))⟩]) (.reg [⟨(some 12), none, (.mv (.t 3))⟩, ⟨(some 13), none, (.mv (.t 4))⟩, ⟨(some 14), none, (.mv (.t 3))⟩, ⟨(some 15), none, (.mv (.t 4))⟩, ⟨(some 16), none, (.ia 2 (.t 14) (.t 15))⟩, ⟨(some 17), none, (.fa 1 (.t 16))⟩, ⟨(some 18), none, (.ld false 1 (.t 17))⟩, ⟨(some 19), none, (.call 73 [(.t 18)])⟩, ⟨(some 20), none, (.ia 2 (.t 12) (.t 13))⟩, ⟨(some 21), none, (.fa 1 (.t 20))⟩, ⟨none, none, (.st 1 (.t 21) (.t 19))⟩]))) (.reg [⟨(some 22), none, (.bin .add (.t 9) (.c (.int .i64 1)))⟩, ⟨(some 9), none, (.mv (.t 22))⟩]))))))) (.seq (.reg [⟨(some 23), none, (.mv (.t 3))⟩, ⟨(some 2), none, (.mv (.t 23))⟩]) .ret))))
def ro99 : List AOp := [(.mv (.t 2))]
theorem fun99 : Fun Try.prog 99 24 ac99 ro99 := ⟨Try.f99, _, Try.func99, by kernel_rfl, rfl, rfl, by kernel_rfl, by kernel_rfl, by decide⟩
def ac122 : AC := (.seq (.reg [⟨(some 2), none, (.mv (.c .nilS))⟩]) (.seq (.seq (.reg [⟨(some 3), none, (.mv (.t 0))⟩, ⟨(some 4), none, (.nil2 false false (.t 3) (.c .nilS))⟩]) (.cond (.t 4) (.seq (.reg [⟨(some 2), none, (.mv (.c .nilS))⟩]) .ret) .skip)) (.seq (.reg [⟨(some 5), none, (.bsl 2 [(.int .i64 0), .nilS] 0 [])⟩, ⟨(some 6), none, (.mv (.t 0))⟩, ⟨(some 7), none, (.app 2 32 [(.int .i64 0), .nilS] (.t 5) (.t 6))⟩, ⟨(some 2), none, (.mv (.t 7))⟩]) .ret)))
def ro122 : List AOp := [(.mv (.t 2))]
theorem fun122 : Fun Try.prog 122 8 ac122 ro122 := ⟨Try.f122, _, Try.func122, by kernel_rfl, rfl, rfl, by kernel_rfl, by kernel_rfl, by decide⟩

theorem okD (xs : List Dn) : okRows 2 (xs.map nD) = true := okRows_map (f := nD) (sz := 2) (fun _ => rfl) xs
theorem ltrD (xs : List Dn) (m : Nat) : ∀ row ∈ xs.map nD, ∀ v ∈ row, AV.ltr m v = true := by
  intro row hr v hv
  obtain ⟨x, _, rfl⟩ := List.mem_map.1 hr
  simp only [nD, dRow, List.mem_cons, List.not_mem_nil, or_false] at hv
  rcases hv with rfl | rfl <;> rfl
theorem sh_cl (xs : List Dn) (hpos : 0 < xs.length) (hlen : xs.length ≤ 1048576) {h : List (Nat × Option Ab.Rows)} {nr : Nat} (hw : wfH h nr) : Sh Try.prog 122 [.vw true (xs.map nD)] h nr (.sl (nr + 1) 2 0 xs.length) ((nr + 1, some (xs.map nD)) :: h) (nr + 2) := by
  refine sh_of_wp mixed fun122 (by simp) ?_
  unfold ac122 ro122
  simp only [zipT]
  have hle : 0 + (xs.map nD).length ≤ 4294967296 := by simp; omega
  repeat (first | refine wG_pure (o_isnil_vw rfl rfl) ?_ | refine wG_new (o_bsl rfl) ?_ | refine wG_app rfl hg_here rfl (rows_vw rfl (okD xs)) (by simp; omega) hle (by decide) ?_ | (first
    | refine wC_a rfl ?_
    | refine q_s rfl ?_
    | refine q_b rfl ?_
    | refine wG_nil ?_
    | refine wG_g rfl ?_
    | refine wG_pure (o_len_vwm rfl) ?_
    | refine wG_pure (o_not_d rfl) ?_
    | refine wG_p rfl (by first | exact rfl | omega) ?_
    | refine wG_pure (o_str2 rfl rfl rfl) ?_
    | refine wG_pure (e_istr rfl rfl (by omega)) ?_
    | refine wG_pure (e_istr0 rfl rfl (by omega)) ?_
    | refine wG_pure (o_not rfl) ?_
    | refine wG_pure (e_ia_vw0 rfl rfl (by omega) rfl) ?_
    | refine wG_pure (e_ia_vwp rfl rfl (by omega) rfl) ?_
    | refine wG_pure (e_ia_vwm rfl rfl (by omega) (by omega) rfl) ?_
    | refine wG_pure (e_ia_vwi rfl rfl (by omega) rfl) ?_
    | refine wG_pure (e_ia_vwn rfl rfl (by omega) (by omega) rfl) ?_
    | refine wG_n rfl rfl ?_
    | refine wG_u rfl rfl ?_
    | refine wG_new (o_mks rfl rfl (by omega) (by decide)) ?_))
  have e : 0 + (xs.map nD).length = xs.length := by simp
  rw [e]
  refine ⟨trivial, _, retVs_1 (retV_mv rfl), ?_, by omega⟩
  refine Le_of ⟨⟨rfl, by simp [AV.ltr]⟩, trivial⟩ (fun q rows hq => ?_) (wfH_cons (by show nr + 1 < nr + 2; omega) (ltrD _ _) (wfH_le hw (by show nr ≤ nr + 2; omega)))
  by_cases e1 : q = nr + 1
  · subst e1
    exact (hg_skip (by omega) hg_here).trans (hg_here.symm.trans hq)
  · have h4 : hg h q = some rows := by simpa [Ab.hg, upd, e1] using hq
    have := (hw q rows h4).1
    exact hg_skip (by omega) (hg_skip e1 (hg_skip (by omega) h4))
theorem con99 (xs : List Dn) (hpos : 0 < xs.length) (hlen : xs.length ≤ 1048576) (hL : LenN xs 1048576) (hb : ∀ i, i < xs.length → (xs.getD i default).b = true) : ConG Try.prog 99 true [.vw true (xs.map nD)] (.sl 0 2 0 xs.length) (tdO xs) := by
  refine con_of_wpG mixed fun99 (by simp) ((List.range (xs.length + 1)).map (· + 1)) nest_N ?_
  unfold ac99 ro99
  simp only [zipT]
  have e0 : ∀ n : Nat, 0 + ((n : Int)).toNat = n := fun n => by simp
  have sc := sh_cl xs hpos hlen (h := []) (nr := 0) wfH_nil
  have hz : ∀ m, ∀ x ∈ xs, ∀ y ∈ nD x, AV.ltr m y = true := fun m x _ y hy => by
    simp only [nD, dRow, List.mem_cons, List.not_mem_nil, or_false] at hy
    rcases hy with rfl | rfl <;> rfl
  have hwf := fun i (hi : i ≤ xs.length) => hN_wf (K := hD) (q := 1) (b := 2) (z := nD) (nr := 2 + i) hi (by omega) (Nat.le_refl _) (hz (2 + i))
  repeat (first | refine wG_callS sc rfl ?_ | (first
    | refine wC_a rfl ?_
    | refine q_s rfl ?_
    | refine q_b rfl ?_
    | refine wG_nil ?_
    | refine wG_g rfl ?_
    | refine wG_pure (o_len_vwm rfl) ?_
    | refine wG_pure (o_not_d rfl) ?_
    | refine wG_p rfl (by first | exact rfl | omega) ?_
    | refine wG_pure (o_str2 rfl rfl rfl) ?_
    | refine wG_pure (e_istr rfl rfl (by omega)) ?_
    | refine wG_pure (e_istr0 rfl rfl (by omega)) ?_
    | refine wG_pure (o_not rfl) ?_
    | refine wG_pure (e_ia_vw0 rfl rfl (by omega) rfl) ?_
    | refine wG_pure (e_ia_vwp rfl rfl (by omega) rfl) ?_
    | refine wG_pure (e_ia_vwm rfl rfl (by omega) (by omega) rfl) ?_
    | refine wG_pure (e_ia_vwi rfl rfl (by omega) rfl) ?_
    | refine wG_pure (e_ia_vwn rfl rfl (by omega) (by omega) rfl) ?_
    | refine wG_n rfl rfl ?_
    | refine wG_u rfl rfl ?_
    | refine wG_new (o_mks rfl rfl (by omega) (by decide)) ?_))
  refine wC_loopX Nat (fun i => ⟨[(3, .sl 1 2 0 xs.length), (8, .int .i64 (xs.length : Int)), (9, .int .i64 (i : Int))], hN hD 1 2 xs i nD, 2 + i⟩) (fun i => i ≤ xs.length) (fun i => xs.length - i) 0 (Nat.zero_le _) ?_ ?_
  · refine .inl (Le_of ⟨⟨rfl, rfl⟩, ⟨rfl, rfl⟩, ⟨rfl, rfl⟩, trivial⟩ (fun q rows hq => ?_) (hwf 0 (Nat.zero_le _)))
    rcases hN_cs (Nat.zero_le _) hq with ⟨rfl, rfl⟩ | ⟨_, i, hi, _⟩
    · refine hg_here.trans (congrArg some ?_)
      rw [nR_0]
    · exact absurd hi (Nat.not_lt_zero _)
  intro i hi
  repeat (first
    | refine wC_a rfl ?_
    | refine q_s rfl ?_
    | refine q_b rfl ?_
    | refine wG_nil ?_
    | refine wG_g rfl ?_
    | refine wG_pure (o_len_vwm rfl) ?_
    | refine wG_pure (o_not_d rfl) ?_
    | refine wG_p rfl (by first | exact rfl | omega) ?_
    | refine wG_pure (o_str2 rfl rfl rfl) ?_
    | refine wG_pure (e_istr rfl rfl (by omega)) ?_
    | refine wG_pure (e_istr0 rfl rfl (by omega)) ?_
    | refine wG_pure (o_not rfl) ?_
    | refine wG_pure (e_ia_vw0 rfl rfl (by omega) rfl) ?_
    | refine wG_pure (e_ia_vwp rfl rfl (by omega) rfl) ?_
    | refine wG_pure (e_ia_vwm rfl rfl (by omega) (by omega) rfl) ?_
    | refine wG_pure (e_ia_vwi rfl rfl (by omega) rfl) ?_
    | refine wG_pure (e_ia_vwn rfl rfl (by omega) (by omega) rfl) ?_
    | refine wG_n rfl rfl ?_
    | refine wG_u rfl rfl ?_
    | refine wG_new (o_mks rfl rfl (by omega) (by decide)) ?_)
  refine wC_cond_d rfl (fun h2 => ?_) (fun h2 => ?_)
  · have hi2 : i < xs.length := by omega
    have c := con73 (xs.getD i default).d.ws (hL i hi2)
    have hat := nR_at (K := hD) (b := 2) (z := nD) hi2
    have hset := nR_set (K := hD) (b := 2) (z := nD) hi2
    have hnd : nD (xs.getD i default) = [.int .i64 (xs.getD i default).d.f, .vw true ((xs.getD i default).d.ws.map iRow)] := by rw [nD, dRow, hb i hi2]
    rw [hnd] at hat
    repeat (first | refine wG_call1 c rfl rfl ?_ | (refine wG_pure (e_ia_sl rfl rfl (by omega) (by omega)) ?_; simp only [e0]) | refine wG_pure (o_ldf_pt rfl hN_q hat rfl) ?_ | refine wG_upd (o_st1 rfl (hg_skip (by omega) hN_q) hat rfl rfl hset) ?_ | (first
    | refine wC_a rfl ?_
    | refine q_s rfl ?_
    | refine q_b rfl ?_
    | refine wG_nil ?_
    | refine wG_g rfl ?_
    | refine wG_pure (o_len_vwm rfl) ?_
    | refine wG_pure (o_not_d rfl) ?_
    | refine wG_p rfl (by first | exact rfl | omega) ?_
    | refine wG_pure (o_str2 rfl rfl rfl) ?_
    | refine wG_pure (e_istr rfl rfl (by omega)) ?_
    | refine wG_pure (e_istr0 rfl rfl (by omega)) ?_
    | refine wG_pure (o_not rfl) ?_
    | refine wG_pure (e_ia_vw0 rfl rfl (by omega) rfl) ?_
    | refine wG_pure (e_ia_vwp rfl rfl (by omega) rfl) ?_
    | refine wG_pure (e_ia_vwm rfl rfl (by omega) (by omega) rfl) ?_
    | refine wG_pure (e_ia_vwi rfl rfl (by omega) rfl) ?_
    | refine wG_pure (e_ia_vwn rfl rfl (by omega) (by omega) rfl) ?_
    | refine wG_n rfl rfl ?_
    | refine wG_u rfl rfl ?_
    | refine wG_new (o_mks rfl rfl (by omega) (by decide)) ?_))
    refine ⟨i + 1, hi2, by omega, .inl (Le_of ⟨⟨rfl, by simp [AV.ltr]; omega⟩, ⟨rfl, rfl⟩, ⟨rfl, rfl⟩, trivial⟩ (hN_step hi2 hg_here (hg_skip (by omega) hg_here) (fun r rows h1 h2 h3 => hg_skip h1 (hg_skip h2 h3))) (hwf (i + 1) hi2))⟩
  · have hi3 : i = xs.length := by omega
    subst hi3
    repeat (first
    | refine wC_a rfl ?_
    | refine q_s rfl ?_
    | refine q_b rfl ?_
    | refine wG_nil ?_
    | refine wG_g rfl ?_
    | refine wG_pure (o_len_vwm rfl) ?_
    | refine wG_pure (o_not_d rfl) ?_
    | refine wG_p rfl (by first | exact rfl | omega) ?_
    | refine wG_pure (o_str2 rfl rfl rfl) ?_
    | refine wG_pure (e_istr rfl rfl (by omega)) ?_
    | refine wG_pure (e_istr0 rfl rfl (by omega)) ?_
    | refine wG_pure (o_not rfl) ?_
    | refine wG_pure (e_ia_vw0 rfl rfl (by omega) rfl) ?_
    | refine wG_pure (e_ia_vwp rfl rfl (by omega) rfl) ?_
    | refine wG_pure (e_ia_vwm rfl rfl (by omega) (by omega) rfl) ?_
    | refine wG_pure (e_ia_vwi rfl rfl (by omega) rfl) ?_
    | refine wG_pure (e_ia_vwn rfl rfl (by omega) (by omega) rfl) ?_
    | refine wG_n rfl rfl ?_
    | refine wG_u rfl rfl ?_
    | refine wG_new (o_mks rfl rfl (by omega) (by decide)) ?_)
    have hπ : ∀ i, i < xs.length + 1 → πof ((List.range (xs.length + 1)).map (· + 1)) i = i + 1 := fun i hi => by simp [πof, hi]
    refine retG_gen (.inr rfl) (retVs_1 (retV_mv rfl)) ?_ trivial (by rw [tdO_len]; simp [AV.ltr]) (by rw [tdO_len]; simp) ?_ (fun i rows hi => ?_)
    · show [AV.sl 1 2 0 _] = [AV.sl (πof ((List.range (xs.length + 1)).map (· + 1)) 0) 2 0 _]
      rw [hπ 0 (by omega)]
    · unfold List.Nodup
      rw [List.pairwise_map]
      exact List.nodup_range.imp (fun h e => h (by omega))
    · have hi2 := (List.getElem?_eq_some_iff.1 hi).1
      rw [tdO_len] at hi2
      rw [hπ i hi2]
      match i, hi with
      | 0, hi =>
        cases hi
        refine hg_here.trans (congrArg some ?_)
        unfold nR
        rw [List.map_map]
        refine List.map_congr_left fun j hj => ?_
        have hj2 := List.mem_range.1 hj
        simp only [Function.comp, if_pos hj2, hD.rn, Ab.rn]
        rw [hπ _ (by omega), show 2 + j = 1 + j + 1 by omega]
      | i + 1, hi =>
        have h6 : (nO hD xs xs.length)[i]? = some rows := hi
        have h7 := h6
        rw [nO_get (by omega) (Nat.le_refl _)] at h7
        cases h7
        rw [← rn_rows (rowsP _)]
        refine hg_skip (by omega) ?_
        rw [hg_mkh, nO_len (Nat.le_refl _), if_pos (by omega), show i + 1 + 1 - 2 = i by omega]
        exact h6
end Go.Proofs.Ytkeobnaehgcloaa.Dst
namespace Go.Proofs.Ytkeobnaehgcloaa.Dst
open Go Go.Proofs.Ytkeobnaehgcloaa.Ab Go.Proofs.Ytkeobnaehgcloaa.Il Go.Proofs.Ytkeobnaehgcloaa.Rec
attribute [local irreducible] wpO wpC wpDr wpQ wpG wpE stepA seqQ blkQ Ret RetG ev
set_option maxRecDepth 10000
set_option maxHeartbeats 8000000
set_option linter.unusedSimpArgs false
set_option linter.unusedVariables false

def ac98 : AC := (.seq (.reg [⟨(some 1), none, (.box 2 true (.t 0))⟩, ⟨(some 2), none, (.alloc [.nilS, .nilS])⟩]) (.seq (.dreg [⟨(some 3), none, (.fa 0 (.t 1))⟩, ⟨(some 4), none, (.ld false 1 (.t 3))⟩, ⟨(some 5), none, (.call 120 [(.t 4)])⟩, ⟨(some 6), none, (.fa 1 (.t 1))⟩, ⟨(some 7), none, (.ld false 1 (.t 6))⟩, ⟨(some 8), none, (.call 121 [(.t 7)])⟩, ⟨(some 9), none, (.build [.nilS, .nilS] [(0, (1, (.t 5))), (1, (1, (.t 8)))])⟩, ⟨none, none, (.st 2 (.t 2) (.t 9))⟩] [[], [0], [0, 1], [], [3], [0, 1, 2, 3, 4], [0, 1, 2, 3, 4, 5], [0, 1, 2, 3, 4, 5, 6]]) .ret))
def ro98 : List AOp := [(.ld true 2 (.t 2))]
theorem fun98 : Fun Try.prog 98 10 ac98 ro98 := ⟨Try.f98, _, Try.func98, by kernel_rfl, rfl, rfl, by kernel_rfl, by kernel_rfl, by decide⟩
def ac120 : AC := (.seq (.reg [⟨(some 2), none, (.mv (.c .nilS))⟩]) (.seq (.seq (.reg [⟨(some 3), none, (.mv (.t 0))⟩, ⟨(some 4), none, (.nil2 false false (.t 3) (.c .nilS))⟩]) (.cond (.t 4) (.seq (.reg [⟨(some 2), none, (.mv (.c .nilS))⟩]) .ret) .skip)) (.seq (.reg [⟨(some 5), none, (.bsl 2 [(.int .i64 0), (.int .i64 0)] 0 [])⟩, ⟨(some 6), none, (.mv (.t 0))⟩, ⟨(some 7), none, (.app 2 16 [(.int .i64 0), (.int .i64 0)] (.t 5) (.t 6))⟩, ⟨(some 2), none, (.mv (.t 7))⟩]) .ret)))
def ro120 : List AOp := [(.mv (.t 2))]
theorem fun120 : Fun Try.prog 120 8 ac120 ro120 := ⟨Try.f120, _, Try.func120, by kernel_rfl, rfl, rfl, by kernel_rfl, by kernel_rfl, by decide⟩
def ac121 : AC := (.seq (.reg [⟨(some 2), none, (.mv (.c .nilS))⟩]) (.seq (.seq (.reg [⟨(some 3), none, (.mv (.t 0))⟩, ⟨(some 4), none, (.nil2 false false (.t 3) (.c .nilS))⟩]) (.cond (.t 4) (.seq (.reg [⟨(some 2), none, (.mv (.c .nilS))⟩]) .ret) .skip)) (.seq (.reg [⟨(some 5), none, (.bsl 2 [(.int .i64 0), (.int .i64 0)] 0 [])⟩, ⟨(some 6), none, (.mv (.t 0))⟩, ⟨(some 7), none, (.app 2 16 [(.int .i64 0), (.int .i64 0)] (.t 5) (.t 6))⟩, ⟨(some 2), none, (.mv (.t 7))⟩]) .ret)))
def ro121 : List AOp := [(.mv (.t 2))]
theorem fun121 : Fun Try.prog 121 8 ac121 ro121 := ⟨Try.f121, _, Try.func121, by kernel_rfl, rfl, rfl, by kernel_rfl, by kernel_rfl, by decide⟩

theorem con120 (ws : List Cn) (hlen : ws.length ≤ 1048576) : Con Try.prog 120 true [.vw true (ws.map cRow)] (.sl 0 2 0 ws.length) [ws.map cRow] := by
  have hok : ∀ ws : List Cn, okRows 2 (ws.map cRow) = true := fun ws => okRows_map (f := cRow) (sz := 2) (fun _ => rfl) ws
  cases ws with
  | nil =>
    refine con_of_wp mixed fun120 (by simp) [0] (plain_map cRow_plain []) ?_
    unfold ac120 ro120
    simp only [zipT]
    repeat (first | refine wG_pure (o_isnil_vw rfl rfl) ?_ | refine wG_new (o_bsl rfl) ?_ | refine wG_app0 rfl rfl rfl (rows_vw rfl (hok [])) ?_ | (first
    | refine wC_a rfl ?_
    | refine q_s rfl ?_
    | refine q_b rfl ?_
    | refine wG_nil ?_
    | refine wG_g rfl ?_
    | refine wG_pure (o_len_vwm rfl) ?_
    | refine wG_pure (o_not_d rfl) ?_
    | refine wG_p rfl (by first | exact rfl | omega) ?_
    | refine wG_pure (o_str2 rfl rfl rfl) ?_
    | refine wG_pure (e_istr rfl rfl (by omega)) ?_
    | refine wG_pure (e_istr0 rfl rfl (by omega)) ?_
    | refine wG_pure (o_not rfl) ?_
    | refine wG_pure (e_ia_vw0 rfl rfl (by omega) rfl) ?_
    | refine wG_pure (e_ia_vwp rfl rfl (by omega) rfl) ?_
    | refine wG_pure (e_ia_vwm rfl rfl (by omega) (by omega) rfl) ?_
    | refine wG_pure (e_ia_vwi rfl rfl (by omega) rfl) ?_
    | refine wG_pure (e_ia_vwn rfl rfl (by omega) (by omega) rfl) ?_
    | refine wG_n rfl rfl ?_
    | refine wG_u rfl rfl ?_
    | refine wG_new (o_mks rfl rfl (by omega) (by decide)) ?_))
    exact ret_sl (.inr rfl) (retV_mv rfl) rfl
  | cons w ws =>
    refine con_of_wp mixed fun120 (by simp) [1] (plain_map cRow_plain (w :: ws)) ?_
    unfold ac120 ro120
    simp only [zipT]
    have hle : 0 + ((w :: ws).map cRow).length ≤ 4294967296 := by simp at hlen ⊢; omega
    repeat (first | refine wG_pure (o_isnil_vw rfl rfl) ?_ | refine wG_new (o_bsl rfl) ?_ | refine wG_app rfl rfl rfl (rows_vw rfl (hok (w :: ws))) (by simp) hle (by decide) ?_ | (first
    | refine wC_a rfl ?_
    | refine q_s rfl ?_
    | refine q_b rfl ?_
    | refine wG_nil ?_
    | refine wG_g rfl ?_
    | refine wG_pure (o_len_vwm rfl) ?_
    | refine wG_pure (o_not_d rfl) ?_
    | refine wG_p rfl (by first | exact rfl | omega) ?_
    | refine wG_pure (o_str2 rfl rfl rfl) ?_
    | refine wG_pure (e_istr rfl rfl (by omega)) ?_
    | refine wG_pure (e_istr0 rfl rfl (by omega)) ?_
    | refine wG_pure (o_not rfl) ?_
    | refine wG_pure (e_ia_vw0 rfl rfl (by omega) rfl) ?_
    | refine wG_pure (e_ia_vwp rfl rfl (by omega) rfl) ?_
    | refine wG_pure (e_ia_vwm rfl rfl (by omega) (by omega) rfl) ?_
    | refine wG_pure (e_ia_vwi rfl rfl (by omega) rfl) ?_
    | refine wG_pure (e_ia_vwn rfl rfl (by omega) (by omega) rfl) ?_
    | refine wG_n rfl rfl ?_
    | refine wG_u rfl rfl ?_
    | refine wG_new (o_mks rfl rfl (by omega) (by decide)) ?_))
    have e : 0 + ((w :: ws).map cRow).length = (w :: ws).length := by simp
    rw [e]
    exact ret_sl (.inr rfl) (retV_mv rfl) rfl
theorem con121 (ws : List Rl) (hlen : ws.length ≤ 1048576) : Con Try.prog 121 true [.vw true (ws.map xRow)] (.sl 0 2 0 ws.length) [ws.map xRow] := by
  have hok : ∀ ws : List Rl, okRows 2 (ws.map xRow) = true := fun ws => okRows_map (f := xRow) (sz := 2) (fun _ => rfl) ws
  cases ws with
  | nil =>
    refine con_of_wp mixed fun121 (by simp) [0] (plain_map xRow_plain []) ?_
    unfold ac121 ro121
    simp only [zipT]
    repeat (first | refine wG_pure (o_isnil_vw rfl rfl) ?_ | refine wG_new (o_bsl rfl) ?_ | refine wG_app0 rfl rfl rfl (rows_vw rfl (hok [])) ?_ | (first
    | refine wC_a rfl ?_
    | refine q_s rfl ?_
    | refine q_b rfl ?_
    | refine wG_nil ?_
    | refine wG_g rfl ?_
    | refine wG_pure (o_len_vwm rfl) ?_
    | refine wG_pure (o_not_d rfl) ?_
    | refine wG_p rfl (by first | exact rfl | omega) ?_
    | refine wG_pure (o_str2 rfl rfl rfl) ?_
    | refine wG_pure (e_istr rfl rfl (by omega)) ?_
    | refine wG_pure (e_istr0 rfl rfl (by omega)) ?_
    | refine wG_pure (o_not rfl) ?_
    | refine wG_pure (e_ia_vw0 rfl rfl (by omega) rfl) ?_
    | refine wG_pure (e_ia_vwp rfl rfl (by omega) rfl) ?_
    | refine wG_pure (e_ia_vwm rfl rfl (by omega) (by omega) rfl) ?_
    | refine wG_pure (e_ia_vwi rfl rfl (by omega) rfl) ?_
    | refine wG_pure (e_ia_vwn rfl rfl (by omega) (by omega) rfl) ?_
    | refine wG_n rfl rfl ?_
    | refine wG_u rfl rfl ?_
    | refine wG_new (o_mks rfl rfl (by omega) (by decide)) ?_))
    exact ret_sl (.inr rfl) (retV_mv rfl) rfl
  | cons w ws =>
    refine con_of_wp mixed fun121 (by simp) [1] (plain_map xRow_plain (w :: ws)) ?_
    unfold ac121 ro121
    simp only [zipT]
    have hle : 0 + ((w :: ws).map xRow).length ≤ 4294967296 := by simp at hlen ⊢; omega
    repeat (first | refine wG_pure (o_isnil_vw rfl rfl) ?_ | refine wG_new (o_bsl rfl) ?_ | refine wG_app rfl rfl rfl (rows_vw rfl (hok (w :: ws))) (by simp) hle (by decide) ?_ | (first
    | refine wC_a rfl ?_
    | refine q_s rfl ?_
    | refine q_b rfl ?_
    | refine wG_nil ?_
    | refine wG_g rfl ?_
    | refine wG_pure (o_len_vwm rfl) ?_
    | refine wG_pure (o_not_d rfl) ?_
    | refine wG_p rfl (by first | exact rfl | omega) ?_
    | refine wG_pure (o_str2 rfl rfl rfl) ?_
    | refine wG_pure (e_istr rfl rfl (by omega)) ?_
    | refine wG_pure (e_istr0 rfl rfl (by omega)) ?_
    | refine wG_pure (o_not rfl) ?_
    | refine wG_pure (e_ia_vw0 rfl rfl (by omega) rfl) ?_
    | refine wG_pure (e_ia_vwp rfl rfl (by omega) rfl) ?_
    | refine wG_pure (e_ia_vwm rfl rfl (by omega) (by omega) rfl) ?_
    | refine wG_pure (e_ia_vwi rfl rfl (by omega) rfl) ?_
    | refine wG_pure (e_ia_vwn rfl rfl (by omega) (by omega) rfl) ?_
    | refine wG_n rfl rfl ?_
    | refine wG_u rfl rfl ?_
    | refine wG_new (o_mks rfl rfl (by omega) (by decide)) ?_))
    have e : 0 + ((w :: ws).map xRow).length = (w :: ws).length := by simp
    rw [e]
    exact ret_sl (.inr rfl) (retV_mv rfl) rfl
theorem con98 (r : Rc) (h1 : r.cs.length ≤ 1048576) (h2 : r.xs.length ≤ 1048576) : Con Try.prog 98 true [.agg (rRow true true r)] (.agg [.sl 0 2 0 r.cs.length, .sl 1 2 0 r.xs.length]) [r.cs.map cRow, r.xs.map xRow] := by
  refine con_of_wp mixed fun98 (by simp) [2, 3] (by
    intro rows hr row hrow x hx
    simp at hr
    rcases hr with rfl | rfl
    · obtain ⟨p, _, rfl⟩ := List.mem_map.1 hrow; exact cRow_plain p x hx
    · obtain ⟨p, _, rfl⟩ := List.mem_map.1 hrow; exact xRow_plain p x hx) ?_
  unfold ac98 ro98
  simp only [zipT]
  repeat (first | refine wC_dregE ?_ | refine wE_call1 (con120 r.cs h1) rfl rfl rfl ?_ | refine wE_call1 (con121 r.xs h2) rfl rfl rfl ?_ | (first
    | refine wC_a rfl ?_
    | refine q_s rfl ?_
    | refine q_b rfl ?_
    | refine wG_nil ?_
    | refine wG_g rfl ?_
    | refine wG_pure (o_len_vwm rfl) ?_
    | refine wG_pure (o_not_d rfl) ?_
    | refine wG_p rfl (by first | exact rfl | omega) ?_
    | refine wG_pure (o_str2 rfl rfl rfl) ?_
    | refine wG_pure (e_istr rfl rfl (by omega)) ?_
    | refine wG_pure (e_istr0 rfl rfl (by omega)) ?_
    | refine wG_pure (o_not rfl) ?_
    | refine wG_pure (e_ia_vw0 rfl rfl (by omega) rfl) ?_
    | refine wG_pure (e_ia_vwp rfl rfl (by omega) rfl) ?_
    | refine wG_pure (e_ia_vwm rfl rfl (by omega) (by omega) rfl) ?_
    | refine wG_pure (e_ia_vwi rfl rfl (by omega) rfl) ?_
    | refine wG_pure (e_ia_vwn rfl rfl (by omega) (by omega) rfl) ?_
    | refine wG_n rfl rfl ?_
    | refine wG_u rfl rfl ?_
    | refine wG_new (o_mks rfl rfl (by omega) (by decide)) ?_) | (first
    | refine wE_nil (by kernel_rfl) ?_
    | refine wE_gy rfl ?_
    | refine wE_gn rfl rfl rfl ?_
    | refine wE_gu rfl rfl ?_
    | refine wE_gnn rfl rfl rfl ?_
    | refine wE_v (o_len_vwm rfl) rfl ?_
    | refine wE_v (o_not_d rfl) rfl ?_
    | refine wE_p rfl (by first | exact rfl | omega) rfl ?_
    | refine wE_v (o_str2 rfl rfl rfl) rfl ?_
    | refine wE_v (e_istr rfl rfl (by omega)) rfl ?_
    | refine wE_v (e_istr0 rfl rfl (by omega)) rfl ?_
    | refine wE_v (o_not rfl) rfl ?_
    | refine wE_v (e_ia_vw0 rfl rfl (by omega) rfl) rfl ?_
    | refine wE_v (e_ia_vwp rfl rfl (by omega) rfl) rfl ?_
    | refine wE_v (e_ia_vwm rfl rfl (by omega) (by omega) rfl) rfl ?_
    | refine wE_v (e_ia_vwi rfl rfl (by omega) rfl) rfl ?_
    | refine wE_v (e_ia_vwn rfl rfl (by omega) (by omega) rfl) rfl ?_
    | refine wE_n rfl rfl rfl ?_
    | refine wE_u rfl rfl rfl ?_
    | refine wE_new (o_mks rfl rfl (by omega) (by decide)) rfl ?_))
  refine ret_any (.inr rfl) (retV_ldt rfl rfl rfl rfl rfl) rfl trivial rfl rfl (by decide) (fun i rows h => ?_)
  match i, h with
  | 0, h => simp at h; subst h; rfl
  | 1, h => simp at h; subst h; rfl
end Go.Proofs.Ytkeobnaehgcloaa.Dst
namespace Go.Proofs.Ytkeobnaehgcloaa.Dst
open Go Go.Proofs.Ytkeobnaehgcloaa.Ab Go.Proofs.Ytkeobnaehgcloaa.Il Go.Proofs.Ytkeobnaehgcloaa.Rec
attribute [local irreducible] wpO wpC wpDr wpQ wpG wpE stepA seqQ blkQ Ret RetG ev
set_option maxRecDepth 10000
set_option maxHeartbeats 8000000
set_option linter.unusedSimpArgs false
set_option linter.unusedVariables false

def ac89 : AC := (.seq (.reg [⟨(some 1), none, (.box 2 true (.t 0))⟩, ⟨(some 2), none, (.alloc [.nilS, .nilS])⟩]) (.seq (.dreg [⟨(some 3), none, (.bsl 2 [(.int .i64 0), (.int .i64 0)] 0 [])⟩, ⟨(some 4), none, (.fa 0 (.t 1))⟩, ⟨(some 5), none, (.ld false 1 (.t 4))⟩, ⟨(some 6), none, (.app 2 16 [(.int .i64 0), (.int .i64 0)] (.t 3) (.t 5))⟩, ⟨(some 7), none, (.bsl 2 [(.int .i64 0), (.int .i64 0)] 0 [])⟩, ⟨(some 8), none, (.fa 1 (.t 1))⟩, ⟨(some 9), none, (.ld false 1 (.t 8))⟩, ⟨(some 10), none, (.app 2 16 [(.int .i64 0), (.int .i64 0)] (.t 7) (.t 9))⟩, ⟨(some 11), none, (.build [.nilS, .nilS] [(0, (1, (.t 6))), (1, (1, (.t 10)))])⟩, ⟨none, none, (.st 2 (.t 2) (.t 11))⟩] [[], [], [1], [0, 1, 2], [], [], [5], [0, 1, 2, 3, 4, 5, 6], [0, 1, 2, 3, 4, 5, 6, 7], [0, 1, 2, 3, 4, 5, 6, 7, 8]]) .ret))
def ro89 : List AOp := [(.ld true 2 (.t 2))]
theorem fun89 : Fun Try.prog 89 12 ac89 ro89 := ⟨Try.f89, _, Try.func89, by kernel_rfl, rfl, rfl, by kernel_rfl, by kernel_rfl, by decide⟩

theorem con89 (r : Rc) (h1 : r.cs.length ≤ 1048576) (h2 : r.xs.length ≤ 1048576) : Con Try.prog 89 true [.agg (rRow true true r)] (.agg [.sl 0 2 0 r.cs.length, .sl 1 2 0 r.xs.length]) [r.cs.map cRow, r.xs.map xRow] := by
  have hp : PlainObjs [r.cs.map cRow, r.xs.map xRow] := by
    intro rows hr row hrow x hx
    simp at hr
    rcases hr with rfl | rfl
    · obtain ⟨p, _, rfl⟩ := List.mem_map.1 hrow; exact cRow_plain p x hx
    · obtain ⟨p, _, rfl⟩ := List.mem_map.1 hrow; exact xRow_plain p x hx
  have okc : ∀ ws : List Cn, okRows 2 (ws.map cRow) = true := fun ws => okRows_map (f := cRow) (sz := 2) (fun _ => rfl) ws
  have okx : ∀ ws : List Rl, okRows 2 (ws.map xRow) = true := fun ws => okRows_map (f := xRow) (sz := 2) (fun _ => rfl) ws
  have lec : 0 + (r.cs.map cRow).length ≤ 4294967296 := by simp; omega
  have lex : 0 + (r.xs.map xRow).length ≤ 4294967296 := by simp; omega
  have ec : 0 + (r.cs.map cRow).length = r.cs.length := by simp
  have ex : 0 + (r.xs.map xRow).length = r.xs.length := by simp
  obtain ⟨cs, xs⟩ := r
  cases cs with
  | nil =>
    cases xs with
    | nil =>
      refine con_of_wp mixed fun89 (by simp) [2, 3] hp ?_
      unfold ac89 ro89
      simp only [zipT]
      repeat (first | refine wC_dregE ?_ | refine wE_new (o_bsl rfl) rfl ?_ | refine wE_some (o_app0 rfl rfl rfl (rows_vw rfl (okc []))) rfl ?_ | refine wE_some (o_app0 rfl rfl rfl (rows_vw rfl (okx []))) rfl ?_ | refine wE_app rfl rfl rfl (rows_vw rfl (okc (_ :: _))) (by simp) lec (by decide) rfl ?_ | refine wE_app rfl rfl rfl (rows_vw rfl (okx (_ :: _))) (by simp) lex (by decide) rfl ?_ | (first
    | refine wC_a rfl ?_
    | refine q_s rfl ?_
    | refine q_b rfl ?_
    | refine wG_nil ?_
    | refine wG_g rfl ?_
    | refine wG_pure (o_len_vwm rfl) ?_
    | refine wG_pure (o_not_d rfl) ?_
    | refine wG_p rfl (by first | exact rfl | omega) ?_
    | refine wG_pure (o_str2 rfl rfl rfl) ?_
    | refine wG_pure (e_istr rfl rfl (by omega)) ?_
    | refine wG_pure (e_istr0 rfl rfl (by omega)) ?_
    | refine wG_pure (o_not rfl) ?_
    | refine wG_pure (e_ia_vw0 rfl rfl (by omega) rfl) ?_
    | refine wG_pure (e_ia_vwp rfl rfl (by omega) rfl) ?_
    | refine wG_pure (e_ia_vwm rfl rfl (by omega) (by omega) rfl) ?_
    | refine wG_pure (e_ia_vwi rfl rfl (by omega) rfl) ?_
    | refine wG_pure (e_ia_vwn rfl rfl (by omega) (by omega) rfl) ?_
    | refine wG_n rfl rfl ?_
    | refine wG_u rfl rfl ?_
    | refine wG_new (o_mks rfl rfl (by omega) (by decide)) ?_) | (first
    | refine wE_nil (by kernel_rfl) ?_
    | refine wE_gy rfl ?_
    | refine wE_gn rfl rfl rfl ?_
    | refine wE_gu rfl rfl ?_
    | refine wE_gnn rfl rfl rfl ?_
    | refine wE_v (o_len_vwm rfl) rfl ?_
    | refine wE_v (o_not_d rfl) rfl ?_
    | refine wE_p rfl (by first | exact rfl | omega) rfl ?_
    | refine wE_v (o_str2 rfl rfl rfl) rfl ?_
    | refine wE_v (e_istr rfl rfl (by omega)) rfl ?_
    | refine wE_v (e_istr0 rfl rfl (by omega)) rfl ?_
    | refine wE_v (o_not rfl) rfl ?_
    | refine wE_v (e_ia_vw0 rfl rfl (by omega) rfl) rfl ?_
    | refine wE_v (e_ia_vwp rfl rfl (by omega) rfl) rfl ?_
    | refine wE_v (e_ia_vwm rfl rfl (by omega) (by omega) rfl) rfl ?_
    | refine wE_v (e_ia_vwi rfl rfl (by omega) rfl) rfl ?_
    | refine wE_v (e_ia_vwn rfl rfl (by omega) (by omega) rfl) rfl ?_
    | refine wE_n rfl rfl rfl ?_
    | refine wE_u rfl rfl rfl ?_
    | refine wE_new (o_mks rfl rfl (by omega) (by decide)) rfl ?_))
      try rw [ec]
      try rw [ex]
      refine ret_any (.inr rfl) (retV_ldt rfl rfl rfl rfl rfl) (by simp [rn, rnL, πof]) trivial rfl rfl (by decide) (fun i rows h => ?_)
      match i, h with
      | 0, h => simp at h; subst h; rfl
      | 1, h => simp at h; subst h; rfl
    | cons x xs =>
      refine con_of_wp mixed fun89 (by simp) [2, 4] hp ?_
      unfold ac89 ro89
      simp only [zipT]
      repeat (first | refine wC_dregE ?_ | refine wE_new (o_bsl rfl) rfl ?_ | refine wE_some (o_app0 rfl rfl rfl (rows_vw rfl (okc []))) rfl ?_ | refine wE_some (o_app0 rfl rfl rfl (rows_vw rfl (okx []))) rfl ?_ | refine wE_app rfl rfl rfl (rows_vw rfl (okc (_ :: _))) (by simp) lec (by decide) rfl ?_ | refine wE_app rfl rfl rfl (rows_vw rfl (okx (_ :: _))) (by simp) lex (by decide) rfl ?_ | (first
    | refine wC_a rfl ?_
    | refine q_s rfl ?_
    | refine q_b rfl ?_
    | refine wG_nil ?_
    | refine wG_g rfl ?_
    | refine wG_pure (o_len_vwm rfl) ?_
    | refine wG_pure (o_not_d rfl) ?_
    | refine wG_p rfl (by first | exact rfl | omega) ?_
    | refine wG_pure (o_str2 rfl rfl rfl) ?_
    | refine wG_pure (e_istr rfl rfl (by omega)) ?_
    | refine wG_pure (e_istr0 rfl rfl (by omega)) ?_
    | refine wG_pure (o_not rfl) ?_
    | refine wG_pure (e_ia_vw0 rfl rfl (by omega) rfl) ?_
    | refine wG_pure (e_ia_vwp rfl rfl (by omega) rfl) ?_
    | refine wG_pure (e_ia_vwm rfl rfl (by omega) (by omega) rfl) ?_
    | refine wG_pure (e_ia_vwi rfl rfl (by omega) rfl) ?_
    | refine wG_pure (e_ia_vwn rfl rfl (by omega) (by omega) rfl) ?_
    | refine wG_n rfl rfl ?_
    | refine wG_u rfl rfl ?_
    | refine wG_new (o_mks rfl rfl (by omega) (by decide)) ?_) | (first
    | refine wE_nil (by kernel_rfl) ?_
    | refine wE_gy rfl ?_
    | refine wE_gn rfl rfl rfl ?_
    | refine wE_gu rfl rfl ?_
    | refine wE_gnn rfl rfl rfl ?_
    | refine wE_v (o_len_vwm rfl) rfl ?_
    | refine wE_v (o_not_d rfl) rfl ?_
    | refine wE_p rfl (by first | exact rfl | omega) rfl ?_
    | refine wE_v (o_str2 rfl rfl rfl) rfl ?_
    | refine wE_v (e_istr rfl rfl (by omega)) rfl ?_
    | refine wE_v (e_istr0 rfl rfl (by omega)) rfl ?_
    | refine wE_v (o_not rfl) rfl ?_
    | refine wE_v (e_ia_vw0 rfl rfl (by omega) rfl) rfl ?_
    | refine wE_v (e_ia_vwp rfl rfl (by omega) rfl) rfl ?_
    | refine wE_v (e_ia_vwm rfl rfl (by omega) (by omega) rfl) rfl ?_
    | refine wE_v (e_ia_vwi rfl rfl (by omega) rfl) rfl ?_
    | refine wE_v (e_ia_vwn rfl rfl (by omega) (by omega) rfl) rfl ?_
    | refine wE_n rfl rfl rfl ?_
    | refine wE_u rfl rfl rfl ?_
    | refine wE_new (o_mks rfl rfl (by omega) (by decide)) rfl ?_))
      try rw [ec]
      try rw [ex]
      refine ret_any (.inr rfl) (retV_ldt rfl rfl rfl rfl rfl) (by simp [rn, rnL, πof]) trivial rfl rfl (by decide) (fun i rows h => ?_)
      match i, h with
      | 0, h => simp at h; subst h; rfl
      | 1, h => simp at h; subst h; rfl
  | cons c cs =>
    cases xs with
    | nil =>
      refine con_of_wp mixed fun89 (by simp) [3, 4] hp ?_
      unfold ac89 ro89
      simp only [zipT]
      repeat (first | refine wC_dregE ?_ | refine wE_new (o_bsl rfl) rfl ?_ | refine wE_some (o_app0 rfl rfl rfl (rows_vw rfl (okc []))) rfl ?_ | refine wE_some (o_app0 rfl rfl rfl (rows_vw rfl (okx []))) rfl ?_ | refine wE_app rfl rfl rfl (rows_vw rfl (okc (_ :: _))) (by simp) lec (by decide) rfl ?_ | refine wE_app rfl rfl rfl (rows_vw rfl (okx (_ :: _))) (by simp) lex (by decide) rfl ?_ | (first
    | refine wC_a rfl ?_
    | refine q_s rfl ?_
    | refine q_b rfl ?_
    | refine wG_nil ?_
    | refine wG_g rfl ?_
    | refine wG_pure (o_len_vwm rfl) ?_
    | refine wG_pure (o_not_d rfl) ?_
    | refine wG_p rfl (by first | exact rfl | omega) ?_
    | refine wG_pure (o_str2 rfl rfl rfl) ?_
    | refine wG_pure (e_istr rfl rfl (by omega)) ?_
    | refine wG_pure (e_istr0 rfl rfl (by omega)) ?_
    | refine wG_pure (o_not rfl) ?_
    | refine wG_pure (e_ia_vw0 rfl rfl (by omega) rfl) ?_
    | refine wG_pure (e_ia_vwp rfl rfl (by omega) rfl) ?_
    | refine wG_pure (e_ia_vwm rfl rfl (by omega) (by omega) rfl) ?_
    | refine wG_pure (e_ia_vwi rfl rfl (by omega) rfl) ?_
    | refine wG_pure (e_ia_vwn rfl rfl (by omega) (by omega) rfl) ?_
    | refine wG_n rfl rfl ?_
    | refine wG_u rfl rfl ?_
    | refine wG_new (o_mks rfl rfl (by omega) (by decide)) ?_) | (first
    | refine wE_nil (by kernel_rfl) ?_
    | refine wE_gy rfl ?_
    | refine wE_gn rfl rfl rfl ?_
    | refine wE_gu rfl rfl ?_
    | refine wE_gnn rfl rfl rfl ?_
    | refine wE_v (o_len_vwm rfl) rfl ?_
    | refine wE_v (o_not_d rfl) rfl ?_
    | refine wE_p rfl (by first | exact rfl | omega) rfl ?_
    | refine wE_v (o_str2 rfl rfl rfl) rfl ?_
    | refine wE_v (e_istr rfl rfl (by omega)) rfl ?_
    | refine wE_v (e_istr0 rfl rfl (by omega)) rfl ?_
    | refine wE_v (o_not rfl) rfl ?_
    | refine wE_v (e_ia_vw0 rfl rfl (by omega) rfl) rfl ?_
    | refine wE_v (e_ia_vwp rfl rfl (by omega) rfl) rfl ?_
    | refine wE_v (e_ia_vwm rfl rfl (by omega) (by omega) rfl) rfl ?_
    | refine wE_v (e_ia_vwi rfl rfl (by omega) rfl) rfl ?_
    | refine wE_v (e_ia_vwn rfl rfl (by omega) (by omega) rfl) rfl ?_
    | refine wE_n rfl rfl rfl ?_
    | refine wE_u rfl rfl rfl ?_
    | refine wE_new (o_mks rfl rfl (by omega) (by decide)) rfl ?_))
      try rw [ec]
      try rw [ex]
      refine ret_any (.inr rfl) (retV_ldt rfl rfl rfl rfl rfl) (by simp [rn, rnL, πof]) trivial rfl rfl (by decide) (fun i rows h => ?_)
      match i, h with
      | 0, h => simp at h; subst h; rfl
      | 1, h => simp at h; subst h; rfl
    | cons x xs =>
      refine con_of_wp mixed fun89 (by simp) [3, 5] hp ?_
      unfold ac89 ro89
      simp only [zipT]
      repeat (first | refine wC_dregE ?_ | refine wE_new (o_bsl rfl) rfl ?_ | refine wE_some (o_app0 rfl rfl rfl (rows_vw rfl (okc []))) rfl ?_ | refine wE_some (o_app0 rfl rfl rfl (rows_vw rfl (okx []))) rfl ?_ | refine wE_app rfl rfl rfl (rows_vw rfl (okc (_ :: _))) (by simp) lec (by decide) rfl ?_ | refine wE_app rfl rfl rfl (rows_vw rfl (okx (_ :: _))) (by simp) lex (by decide) rfl ?_ | (first
    | refine wC_a rfl ?_
    | refine q_s rfl ?_
    | refine q_b rfl ?_
    | refine wG_nil ?_
    | refine wG_g rfl ?_
    | refine wG_pure (o_len_vwm rfl) ?_
    | refine wG_pure (o_not_d rfl) ?_
    | refine wG_p rfl (by first | exact rfl | omega) ?_
    | refine wG_pure (o_str2 rfl rfl rfl) ?_
    | refine wG_pure (e_istr rfl rfl (by omega)) ?_
    | refine wG_pure (e_istr0 rfl rfl (by omega)) ?_
    | refine wG_pure (o_not rfl) ?_
    | refine wG_pure (e_ia_vw0 rfl rfl (by omega) rfl) ?_
    | refine wG_pure (e_ia_vwp rfl rfl (by omega) rfl) ?_
    | refine wG_pure (e_ia_vwm rfl rfl (by omega) (by omega) rfl) ?_
    | refine wG_pure (e_ia_vwi rfl rfl (by omega) rfl) ?_
    | refine wG_pure (e_ia_vwn rfl rfl (by omega) (by omega) rfl) ?_
    | refine wG_n rfl rfl ?_
    | refine wG_u rfl rfl ?_
    | refine wG_new (o_mks rfl rfl (by omega) (by decide)) ?_) | (first
    | refine wE_nil (by kernel_rfl) ?_
    | refine wE_gy rfl ?_
    | refine wE_gn rfl rfl rfl ?_
    | refine wE_gu rfl rfl ?_
    | refine wE_gnn rfl rfl rfl ?_
    | refine wE_v (o_len_vwm rfl) rfl ?_
    | refine wE_v (o_not_d rfl) rfl ?_
    | refine wE_p rfl (by first | exact rfl | omega) rfl ?_
    | refine wE_v (o_str2 rfl rfl rfl) rfl ?_
    | refine wE_v (e_istr rfl rfl (by omega)) rfl ?_
    | refine wE_v (e_istr0 rfl rfl (by omega)) rfl ?_
    | refine wE_v (o_not rfl) rfl ?_
    | refine wE_v (e_ia_vw0 rfl rfl (by omega) rfl) rfl ?_
    | refine wE_v (e_ia_vwp rfl rfl (by omega) rfl) rfl ?_
    | refine wE_v (e_ia_vwm rfl rfl (by omega) (by omega) rfl) rfl ?_
    | refine wE_v (e_ia_vwi rfl rfl (by omega) rfl) rfl ?_
    | refine wE_v (e_ia_vwn rfl rfl (by omega) (by omega) rfl) rfl ?_
    | refine wE_n rfl rfl rfl ?_
    | refine wE_u rfl rfl rfl ?_
    | refine wE_new (o_mks rfl rfl (by omega) (by decide)) rfl ?_))
      try rw [ec]
      try rw [ex]
      refine ret_any (.inr rfl) (retV_ldt rfl rfl rfl rfl rfl) (by simp [rn, rnL, πof]) trivial rfl rfl (by decide) (fun i rows h => ?_)
      match i, h with
      | 0, h => simp at h; subst h; rfl
      | 1, h => simp at h; subst h; rfl
end Go.Proofs.Ytkeobnaehgcloaa.Dst
