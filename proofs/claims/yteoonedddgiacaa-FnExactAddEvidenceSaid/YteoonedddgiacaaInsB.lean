/- slices.Insert of one element of three cells. -/
import Derived.Test.YteoonedddgiacaaInsA
import Derived.Test.YteoonedddgiacaaEvdA
import Derived.Test.YteoonedddgiacaaAb4
namespace Go.Proofs.Yteoonedddgiacaa.Rec
open Go Go.Proofs.Yteoonedddgiacaa.Ab Go.Proofs.Yteoonedddgiacaa.Il Go.Proofs.Yteoonedddgiacaa.Ins
attribute [local irreducible] wpO wpC wpDr wpQ wpG wpE stepA seqQ blkQ Ret RetG ev
set_option maxRecDepth 10000
set_option maxHeartbeats 8000000
set_option linter.unusedSimpArgs false
set_option linter.unusedVariables false

def ac33 : AC := (.seq (.reg [⟨(some 6), none, (.mv (.c .nilS))⟩]) (.seq (.reg [⟨(some 10), none, (.mv (.t 0))⟩, ⟨(some 11), none, (.mv (.t 1))⟩, ⟨(some 12), none, (.slc 3 (.t 10) (some (.t 11)) none)⟩]) (.seq (.reg [⟨(some 13), none, (.mv (.t 2))⟩, ⟨(some 14), none, (.len (.t 13))⟩, ⟨(some 7), none, (.mv (.t 14))⟩]) (.seq (.seq (.reg [⟨(some 15), none, (.mv (.t 7))⟩, ⟨(some 16), none, (.bin .eql (.t 15) (.c (.int .i64 0)))⟩]) (.cond (.t 16) (.seq (.reg [⟨(some 17), none, (.mv (.t 0))⟩, ⟨(some 6), none, (.mv (.t 17))⟩]) .ret) .skip)) (.seq (.reg [⟨(some 18), none, (.mv (.t 0))⟩, ⟨(some 19), none, (.len (.t 18))⟩, ⟨(some 8), none, (.mv (.t 19))⟩]) (.seq (.seq (.reg [⟨(some 20), none, (.mv (.t 1))⟩, ⟨(some 21), none, (.mv (.t 8))⟩, ⟨(some 22), none, (.bin .eql (.t 20) (.t 21))⟩]) (.cond (.t 22) (.seq (.reg [⟨(some 23), none, (.mv (.t 0))⟩, ⟨(some 24), none, (.mv (.t 2))⟩, ⟨(some 25), none, (.app 3 24 [(.int .i64 0), (.int .i64 0), (.int .i64 0)] (.t 23) (.t 24))⟩, ⟨(some 6), none, (.mv (.t 25))⟩]) .ret) .skip)) (.seq (.seq (.cond (.c .undef) .skip .skip) (.cond (.t 31) (.seq (.cond (.c .undef) .skip .skip) (.seq (.reg [⟨(some 41), none, (.mv (.t 9))⟩, ⟨(some 42), none, (.mv (.t 1))⟩, ⟨(some 43), none, (.slc 3 (.t 41) (some (.t 42)) none)⟩, ⟨(some 44), none, (.mv (.t 2))⟩, ⟨(some 45), none, (.cpy 3 (.t 43) (.t 44))⟩]) (.seq (.dreg [⟨(some 46), none, (.mv (.t 9))⟩, ⟨(some 47), none, (.mv (.t 1))⟩, ⟨(some 48), none, (.mv (.t 7))⟩, ⟨(some 49), none, (.bin .add (.t 47) (.t 48))⟩, ⟨(some 50), none, (.slc 3 (.t 46) (some (.t 49)) none)⟩, ⟨(some 51), none, (.mv (.t 0))⟩, ⟨(some 52), none, (.mv (.t 1))⟩, ⟨(some 53), none, (.slc 3 (.t 51) (some (.t 52)) none)⟩, ⟨(some 54), none, (.cpy 3 (.t 50) (.t 53))⟩] [[], [], [], [1, 2], [0, 1, 2, 3], [], [], [5, 6], [0, 1, 2, 3, 4, 5, 6, 7]]) (.seq (.reg [⟨(some 55), none, (.mv (.t 9))⟩, ⟨(some 6), none, (.mv (.t 55))⟩]) .ret)))) .skip)) (.seq (.reg [⟨(some 56), none, (.mv (.t 0))⟩, ⟨(some 57), none, (.mv (.t 8))⟩, ⟨(some 58), none, (.mv (.t 7))⟩, ⟨(some 59), none, (.bin .add (.t 57) (.t 58))⟩, ⟨(some 60), none, (.slc 3 (.t 56) none (some (.t 59)))⟩, ⟨(some 0), none, (.mv (.t 60))⟩]) (.seq (.seq (.reg [⟨(some 61), none, (.mv (.t 2))⟩, ⟨(some 62), none, (.mv (.t 0))⟩, ⟨(some 63), none, (.mv (.t 1))⟩, ⟨(some 64), none, (.mv (.t 7))⟩, ⟨(some 65), none, (.bin .add (.t 63) (.t 64))⟩, ⟨(some 66), none, (.slc 3 (.t 62) (some (.t 65)) none)⟩, ⟨(some 67), none, (.call 49 [(.t 61), (.t 66)])⟩, ⟨(some 68), none, (.un .not (.t 67))⟩]) (.cond (.t 68) (.seq (.dreg [⟨(some 69), none, (.mv (.t 0))⟩, ⟨(some 70), none, (.mv (.t 1))⟩, ⟨(some 71), none, (.mv (.t 7))⟩, ⟨(some 72), none, (.bin .add (.t 70) (.t 71))⟩, ⟨(some 73), none, (.slc 3 (.t 69) (some (.t 72)) none)⟩, ⟨(some 74), none, (.mv (.t 0))⟩, ⟨(some 75), none, (.mv (.t 1))⟩, ⟨(some 76), none, (.slc 3 (.t 74) (some (.t 75)) none)⟩, ⟨(some 77), none, (.cpy 3 (.t 73) (.t 76))⟩] [[], [], [], [1, 2], [0, 1, 2, 3], [], [], [5, 6], [0, 1, 2, 3, 4, 5, 6, 7]]) (.seq (.reg [⟨(some 78), none, (.mv (.t 0))⟩, ⟨(some 79), none, (.mv (.t 1))⟩, ⟨(some 80), none, (.slc 3 (.t 78) (some (.t 79)) none)⟩, ⟨(some 81), none, (.mv (.t 2))⟩, ⟨(some 82), none, (.cpy 3 (.t 80) (.t 81))⟩]) (.seq (.reg [⟨(some 83), none, (.mv (.t 0))⟩, ⟨(some 6), none, (.mv (.t 83))⟩]) .ret))) .skip)) (.seq (.reg [⟨(some 84), none, (.mv (.t 0))⟩, ⟨(some 85), none, (.mv (.t 8))⟩, ⟨(some 86), none, (.slc 3 (.t 84) (some (.t 85)) none)⟩, ⟨(some 87), none, (.mv (.t 2))⟩, ⟨(some 88), none, (.cpy 3 (.t 86) (.t 87))⟩]) (.seq (.reg [⟨(some 89), none, (.mv (.t 0))⟩, ⟨(some 90), none, (.mv (.t 1))⟩, ⟨(some 91), none, (.slc 3 (.t 89) (some (.t 90)) none)⟩, ⟨(some 92), none, (.mv (.t 7))⟩, ⟨(some 93), none, (.call 50 [(.t 91), (.t 92)])⟩]) (.seq (.reg [⟨(some 94), none, (.mv (.t 0))⟩, ⟨(some 6), none, (.mv (.t 94))⟩]) .ret))))))))))))
def ro33 : List AOp := [(.mv (.t 6))]
theorem fun33 : Fun Try.prog 33 95 ac33 ro33 := ⟨Try.f33, _, Try.func33, by kernel_rfl, rfl, rfl, by kernel_rfl, by kernel_rfl, by decide⟩

theorem rows_slgI {T : Nat → AV} {H : Nat → Option Ab.Rows} {y : AX} {r off n sz : Nat} {rows new : Ab.Rows} (h1 : gT T y = .sl r sz off n) (h2 : H r = some rows) (h3 : (rows.drop off).take n = new) : rowsOf H sz (gT T y) = some new := by
  simp only [rowsOf, h1, h2, if_true, Option.map_some, h3]
theorem sh33_lt {rows : Ab.Rows} {row : List AV} {n i : Nat} (hn : rows.length = n) (hlen : n ≤ 1048576) (hi : i < n) (hrow : row.length = 3) {h : List (Nat × Option Ab.Rows)} {nr r q : Nat} (hr : hg h r = some rows) (hq : hg h q = some [row]) (hrq : r ≠ q) :
    Sh Try.prog 33 [.sl r 3 0 n, .int .i64 (i : Int), .sl q 3 0 1] h nr (.sl nr 3 0 (n + 1)) ((r, none) :: (nr, some (rows.take i ++ [row] ++ rows.drop i)) :: h) (nr + 1) := by
  refine ⟨fun33.enters, fun B c0 cargs hrel ha => ?_⟩
  obtain ⟨u1, us1, e1, hv1, u2, us2, e2, hv2, u3, us3, e3, hv3, e4⟩ := ha
  have e2' : u2 = .int .i64 (i : Int) := hv2
  obtain ⟨hk, hsz, A, cap, rfl, hA, hin, hcap, hlive⟩ := hv1
  obtain ⟨kk, ksz, A2, cap2, rfl, kA, kin, kcap, klive⟩ := hv3
  have e5 : us3 = [] := e4
  subst e5 e3 e2 e2'
  have hln := hrel.hr.len r rows hr
  have hlq := hrel.hr.len q _ hq
  simp only [List.length_cons, List.length_nil] at hlq
  have hA := hA (by omega)
  have kA := kA (by omega)
  subst hA kA
  have ec : cargs = #[.slice (some ⟨(c0.ρ r).blk, (c0.ρ r).st, none⟩) n cap, .int .i64 (i : Int), .slice (some ⟨(c0.ρ q).blk, (c0.ρ q).st, none⟩) 1 cap2] := by
    apply Array.ext'
    rw [e1]
    simp
  subst ec
  obtain ⟨F, hFl, hF, h1F, hFV⟩ := cells_list hrel.hr hr hsz 0 i (by omega)
  obtain ⟨D, hDl, hD, h1D, hDV⟩ := cells_list hrel.hr hr hsz i (n - i) (by omega)
  obtain ⟨vs, hvl, hvs, h1v, hvV⟩ := cells_list hrel.hr hq ksz 0 1 (by simp)
  have hbne := hrel.hr.inj q r _ _ hq hr (Ne.symm hrq)
  have hbw := (hrel.hr.live r rows hr).lt
  have hvw := (hrel.hr.live q _ hq).lt
  simp only [Nat.zero_mul, Nat.add_zero, Nat.zero_add] at hF hvs hFV hvV hlive klive hin hcap kin kcap
  have hvV' : ∀ (j : Nat) x, row[j]? = some x → ∃ u, vs[j]? = some u ∧ V c0 x u := fun j x hx => by
    have := hvV 0 row (by omega) rfl j x hx
    simpa using this
  have hH : hg ((r, none) :: (nr, some (rows.take i ++ [row] ++ rows.drop i)) :: h) = upd (hg h) [(r, none), (nr, some (rows.take i ++ [row] ++ rows.drop i))] := hg_upd [(r, none), (nr, some (rows.take i ++ [row] ++ rows.drop i))] h
  rw [hH]
  by_cases hroom : n + 1 ≤ cap
  · refine (ins_shift (c0.ρ r).blk (c0.ρ r).st n cap i (c0.ρ q).blk (c0.ρ q).st 1 cap2 D vs c0.w hi (by omega) hroom (by omega) hbne hlive (klive.mono (by omega)) hDl (by omega) hD hvs h1D h1v).mono ?_
    rintro e w' ⟨rfl, rfl⟩
    obtain ⟨c', f1, f2, f3, f4⟩ := rel_shift hrel hr hn hi hsz hroom hlive hrow hDl h1D hDV (by omega) h1v hvV'
    exact ⟨c', _, rfl, f1, f2, f3, f4⟩
  · refine (ins_grow (c0.ρ r).blk (c0.ρ r).st n cap i (c0.ρ q).blk (c0.ρ q).st 1 cap2 F D vs c0.w hi (by omega) (by omega) (by omega) (by omega) hbw hvw hFl hDl (by omega) hF hD hvs h1F h1D h1v).mono ?_
    rintro e w' ⟨G, ROW, hG, hROW, rfl, rfl⟩
    obtain ⟨c', f1, f2, f3, f4⟩ := rel_grown hrel hr (T := 44) (G := G) (ROW := ROW) (F := F) hn hi hsz hG hrow (by rw [hROW, grown_size, hFl]; omega) (fun j hj => by rw [hROW]; exact grown_get _ _ _ _ hj) (by rw [hROW]; exact grown_one _ _ _ h1F) hFl hFV hDl h1D hDV (by omega) h1v hvV'
    exact ⟨c', _, rfl, f1, f2, f3, f4⟩

theorem sh33_eq {rows : Ab.Rows} {row : List AV} {n : Nat} (hn : rows.length = n) (hlen : n ≤ 1048576) (hrow : row.length = 3) (hpl : ∀ (m : Nat), ∀ x ∈ row, AV.ltr m x = true) (hpr : ∀ (m : Nat), ∀ rw' ∈ rows, ∀ x ∈ rw', AV.ltr m x = true) {h : List (Nat × Option Ab.Rows)} {nr r q : Nat} (hr : hg h r = some rows) (hq : hg h q = some [row]) (hw : wfH h nr) :
    Sh Try.prog 33 [.sl r 3 0 n, .int .i64 (n : Int), .sl q 3 0 1] h nr (.sl nr 3 0 (n + 1)) ((r, none) :: (nr, some (rows ++ [row])) :: h) (nr + 1) := by
  refine sh_of_wp mixed fun33 (by simp) ?_
  unfold ac33 ro33
  simp only [zipT]
  have hrn := (hw r _ hr).1
  have d1 : decide (((1 : Nat) : Int) = 0) = false := by decide
  have d2 : decide ((n : Int) = (n : Int)) = true := decide_eq_true rfl
  repeat (first
    | refine wC_a rfl ?_
    | refine q_s rfl ?_
    | refine q_b rfl ?_
    | refine wG_nil ?_
    | refine wG_g rfl ?_
    | refine wG_pure (o_len_vwm rfl) ?_
    | refine wG_pure (o_not_d rfl) ?_
    | refine wG_p rfl (by first | exact rfl | omega) ?_
    | refine wG_pure (o_str2 rfl rfl rfl) ?_
    | refine wG_pure (e_istr rfl rfl (by omega)) ?_
    | refine wG_pure (e_istr0 rfl rfl (by omega)) ?_
    | refine wG_pure (o_not rfl) ?_
    | refine wG_pure (e_ia_vw0 rfl rfl (by omega) rfl) ?_
    | refine wG_pure (e_ia_vwp rfl rfl (by omega) rfl) ?_
    | refine wG_pure (e_ia_vwm rfl rfl (by omega) (by omega) rfl) ?_
    | refine wG_pure (e_ia_vwi rfl rfl (by omega) rfl) ?_
    | refine wG_pure (e_ia_vwn rfl rfl (by omega) (by omega) rfl) ?_
    | refine wG_n rfl rfl ?_
    | refine wG_u rfl rfl ?_
    | refine wG_new (o_mks rfl rfl (by omega) (by decide)) ?_)
  refine wG_pure (o_slc_sl rfl hr (bd_i rfl) bd_n (by omega) (by omega)) ?_
  repeat (first | refine wC_cond_f (by first | rfl | exact congrArg AV.bool (decide_eq_false (by omega))) ?_ | refine wC_cond_t (by first | rfl | exact congrArg AV.bool (decide_eq_true rfl)) ?_ | (first
    | refine wC_a rfl ?_
    | refine q_s rfl ?_
    | refine q_b rfl ?_
    | refine wG_nil ?_
    | refine wG_g rfl ?_
    | refine wG_pure (o_len_vwm rfl) ?_
    | refine wG_pure (o_not_d rfl) ?_
    | refine wG_p rfl (by first | exact rfl | omega) ?_
    | refine wG_pure (o_str2 rfl rfl rfl) ?_
    | refine wG_pure (e_istr rfl rfl (by omega)) ?_
    | refine wG_pure (e_istr0 rfl rfl (by omega)) ?_
    | refine wG_pure (o_not rfl) ?_
    | refine wG_pure (e_ia_vw0 rfl rfl (by omega) rfl) ?_
    | refine wG_pure (e_ia_vwp rfl rfl (by omega) rfl) ?_
    | refine wG_pure (e_ia_vwm rfl rfl (by omega) (by omega) rfl) ?_
    | refine wG_pure (e_ia_vwi rfl rfl (by omega) rfl) ?_
    | refine wG_pure (e_ia_vwn rfl rfl (by omega) (by omega) rfl) ?_
    | refine wG_n rfl rfl ?_
    | refine wG_u rfl rfl ?_
    | refine wG_new (o_mks rfl rfl (by omega) (by decide)) ?_))
  refine wG_app rfl hr hn.symm (rows_slgI rfl hq rfl) (by simp) (by simp; omega) (by decide) ?_
  repeat (first
    | refine wC_a rfl ?_
    | refine q_s rfl ?_
    | refine q_b rfl ?_
    | refine wG_nil ?_
    | refine wG_g rfl ?_
    | refine wG_pure (o_len_vwm rfl) ?_
    | refine wG_pure (o_not_d rfl) ?_
    | refine wG_p rfl (by first | exact rfl | omega) ?_
    | refine wG_pure (o_str2 rfl rfl rfl) ?_
    | refine wG_pure (e_istr rfl rfl (by omega)) ?_
    | refine wG_pure (e_istr0 rfl rfl (by omega)) ?_
    | refine wG_pure (o_not rfl) ?_
    | refine wG_pure (e_ia_vw0 rfl rfl (by omega) rfl) ?_
    | refine wG_pure (e_ia_vwp rfl rfl (by omega) rfl) ?_
    | refine wG_pure (e_ia_vwm rfl rfl (by omega) (by omega) rfl) ?_
    | refine wG_pure (e_ia_vwi rfl rfl (by omega) rfl) ?_
    | refine wG_pure (e_ia_vwn rfl rfl (by omega) (by omega) rfl) ?_
    | refine wG_n rfl rfl ?_
    | refine wG_u rfl rfl ?_
    | refine wG_new (o_mks rfl rfl (by omega) (by decide)) ?_)
  have hwn : wfH ((nr, some (rows ++ [row])) :: h) (nr + 1) := wfH_cons (Nat.lt_succ_self nr) (fun rw' hm x hx => by
    rcases List.mem_append.1 hm with hm | hm
    · exact hpr _ rw' hm x hx
    · rw [List.mem_singleton] at hm
      subst hm
      exact hpl _ x hx) (wfH_le hw (Nat.le_succ nr))
  exact ⟨trivial, _, retVs_1 (retV_mv rfl), Le_of ⟨⟨rfl, by simp [AV.ltr]⟩, trivial⟩ (fun q rows hq => hq) (wfH_none hwn), Nat.le_succ nr⟩

/-- One element put into a list at a place. -/
theorem sh33 {rows : Ab.Rows} {row : List AV} {n i : Nat} (hn : rows.length = n) (hlen : n ≤ 1048576) (hi : i ≤ n) (hrow : row.length = 3) (hpl : ∀ (m : Nat), ∀ x ∈ row, AV.ltr m x = true) (hpr : ∀ (m : Nat), ∀ rw' ∈ rows, ∀ x ∈ rw', AV.ltr m x = true) {h : List (Nat × Option Ab.Rows)} {nr r q : Nat} (hr : hg h r = some rows) (hq : hg h q = some [row]) (hrq : r ≠ q) (hw : wfH h nr) :
    Sh Try.prog 33 [.sl r 3 0 n, .int .i64 (i : Int), .sl q 3 0 1] h nr (.sl nr 3 0 (n + 1)) ((r, none) :: (nr, some (rows.take i ++ [row] ++ rows.drop i)) :: h) (nr + 1) := by
  rcases Nat.lt_or_ge i n with h1 | h1
  · exact sh33_lt hn hlen h1 hrow hr hq hrq
  · obtain rfl : i = n := by omega
    rw [List.take_of_length_le (by omega), List.drop_eq_nil_of_le (by omega), List.append_nil]
    exact sh33_eq hn hlen hrow hpl hpr hr hq hw
