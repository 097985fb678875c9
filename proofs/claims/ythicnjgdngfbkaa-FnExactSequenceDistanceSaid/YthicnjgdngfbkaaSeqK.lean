/- The rank of a sequence: both sides. -/
import Derived.Test.YthicnjgdngfbkaaSeqH
namespace Go.Proofs.Ythicnjgdngfbkaa.Rec
open Go Go.Proofs.Ythicnjgdngfbkaa.Ab Go.Proofs.Ythicnjgdngfbkaa.Il
attribute [local irreducible] wpO wpC wpDr wpQ wpG wpE stepA seqQ blkQ Ret RetG ev
set_option maxRecDepth 10000
set_option maxHeartbeats 8000000
set_option linter.unusedSimpArgs false
set_option linter.unusedVariables false


theorem con27_yes (a b nn : Bool) (r : Rc) (ls : List Int) (h1 : r.cs.length ≤ 1048576) (h2 : r.xs.length ≤ 1048576) (h3 : ls.length ≤ 1048576) (hC : GoodC r) (hs : isSeq r ls) : Con Try.prog 27 true [.agg (rRow a b r), .vw nn (ls.map iRow)] (.tup [.int .i64 ((rk r ls r.cs.length : Nat) : Int), .bool true]) [] := by
  classical
  refine con_of_wp mixed fun27 (by simp) [] plain_nil ?_
  unfold ac27 ro27
  simp only [zipT]
  have c1 := con40 a b r h1 h2
  rw [decide_eq_true hC] at c1
  have c2 := con52 a b nn r ls hC.1 h3
  rw [decide_eq_true hs] at c2
  have c3 := con42 a b r hC.1
  have h10 := hC.1.1
  have c4 := con41 true (later r) h10
  have cI := fun m => con48 a b r m (by omega)
  have hl := hs.2
  have e0 : ∀ n : Nat, 0 + ((n : Int)).toNat = n := fun n => by simp
  repeat (first | refine wG_call c1 rfl rfl ?_ | refine wG_call c2 rfl rfl ?_ | refine wG_call1 c3 rfl rfl ?_ | refine wG_call1 c4 (ag_sl rfl rfl (maskL_len _ _).symm iRow_plain ag_nil) rfl ?_ | (first
    | refine wC_a rfl ?_
    | refine q_s rfl ?_
    | refine q_b rfl ?_
    | refine wG_nil ?_
    | refine wG_g rfl ?_
    | refine wG_pure (o_len_vwm rfl) ?_
    | refine wG_pure (o_not_d rfl) ?_
    | refine wG_p rfl (by first | exact rfl | omega) ?_
    | refine wG_pure (o_str2 rfl rfl rfl) ?_
    | refine wG_pure (e_istr rfl rfl (by omega)) ?_
    | refine wG_pure (e_istr0 rfl rfl (by omega)) ?_
    | refine wG_pure (o_not rfl) ?_
    | refine wG_pure (e_ia_vw0 rfl rfl (by omega) rfl) ?_
    | refine wG_pure (e_ia_vwp rfl rfl (by omega) rfl) ?_
    | refine wG_pure (e_ia_vwm rfl rfl (by omega) (by omega) rfl) ?_
    | refine wG_pure (e_ia_vwi rfl rfl (by omega) rfl) ?_
    | refine wG_pure (e_ia_vwn rfl rfl (by omega) (by omega) rfl) ?_
    | refine wG_n rfl rfl ?_
    | refine wG_u rfl rfl ?_
    | refine wG_new (o_mks rfl rfl (by omega) (by decide)) ?_))
  refine wC_loop Nat (fun q => ⟨[(1, .vw nn (ls.map iRow)), (2, .pt 0 0 0), (6, .sl 1 1 0 r.cs.length), (7, .sl 2 1 0 (2 ^ r.cs.length)), (8, .int .i64 ((rk r ls q : Nat) : Int)), (9, .int .i64 ((sqS r ls q : Nat) : Int)), (10, .int .i64 (q : Int))], [(2, some ((cntL r.cs.length (later r)).map iRow)), (1, some ((maskL (later r) r.cs.length).map iRow)), (0, some [rRow a b r])], 3⟩) (fun q => q ≤ ls.length) (fun q => ls.length - q) 0 (Nat.zero_le _) ?_ (fun _ _ => Nat.zero_le _) ?_
  · exact ⟨⟨⟨rfl, rfl⟩, ⟨rfl, rfl⟩, ⟨rfl, rfl⟩, ⟨rfl, rfl⟩, ⟨rfl, rfl⟩, ⟨rfl, rfl⟩, ⟨rfl, rfl⟩, trivial⟩, ⟨rfl, by show 2 < 3; decide, ltrI _ _⟩, ⟨rfl, by show 1 < 3; decide, ltrI _ _⟩, ⟨rfl, by show 0 < 3; decide, by simp [rRow, AV.ltr]⟩, trivial⟩
  intro q hq
  repeat (first
    | refine wC_a rfl ?_
    | refine q_s rfl ?_
    | refine q_b rfl ?_
    | refine wG_nil ?_
    | refine wG_g rfl ?_
    | refine wG_pure (o_len_vwm rfl) ?_
    | refine wG_pure (o_not_d rfl) ?_
    | refine wG_p rfl (by first | exact rfl | omega) ?_
    | refine wG_pure (o_str2 rfl rfl rfl) ?_
    | refine wG_pure (e_istr rfl rfl (by omega)) ?_
    | refine wG_pure (e_istr0 rfl rfl (by omega)) ?_
    | refine wG_pure (o_not rfl) ?_
    | refine wG_pure (e_ia_vw0 rfl rfl (by omega) rfl) ?_
    | refine wG_pure (e_ia_vwp rfl rfl (by omega) rfl) ?_
    | refine wG_pure (e_ia_vwm rfl rfl (by omega) (by omega) rfl) ?_
    | refine wG_pure (e_ia_vwi rfl rfl (by omega) rfl) ?_
    | refine wG_pure (e_ia_vwn rfl rfl (by omega) (by omega) rfl) ?_
    | refine wG_n rfl rfl ?_
    | refine wG_u rfl rfl ?_
    | refine wG_new (o_mks rfl rfl (by omega) (by decide)) ?_)
  refine wC_cond_d rfl (fun h4 => ?_) (fun h4 => ?_)
  · have hq2 : q < ls.length := by omega
    have cq := cI (ls.getD q default)
    have hokq := hs.1 q hq2
    have hk := sqI_eq hokq
    have hk2 := sqI_lt hokq
    rw [hk] at cq
    have hS := sqS_lt (r := r) (ls := ls) q (fun j hj => hs.1 j (by omega))
    have hS2 := lt10 h10 hS
    have bR := rk_le h10 q (fun j hj => hs.1 j (by omega))
    have hpk := p10 hk2 h10
    repeat (first | refine wG_call cq rfl rfl ?_ | (first
    | refine wC_a rfl ?_
    | refine q_s rfl ?_
    | refine q_b rfl ?_
    | refine wG_nil ?_
    | refine wG_g rfl ?_
    | refine wG_pure (o_len_vwm rfl) ?_
    | refine wG_pure (o_not_d rfl) ?_
    | refine wG_p rfl (by first | exact rfl | omega) ?_
    | refine wG_pure (o_str2 rfl rfl rfl) ?_
    | refine wG_pure (e_istr rfl rfl (by omega)) ?_
    | refine wG_pure (e_istr0 rfl rfl (by omega)) ?_
    | refine wG_pure (o_not rfl) ?_
    | refine wG_pure (e_ia_vw0 rfl rfl (by omega) rfl) ?_
    | refine wG_pure (e_ia_vwp rfl rfl (by omega) rfl) ?_
    | refine wG_pure (e_ia_vwm rfl rfl (by omega) (by omega) rfl) ?_
    | refine wG_pure (e_ia_vwi rfl rfl (by omega) rfl) ?_
    | refine wG_pure (e_ia_vwn rfl rfl (by omega) (by omega) rfl) ?_
    | refine wG_n rfl rfl ?_
    | refine wG_u rfl rfl ?_
    | refine wG_new (o_mks rfl rfl (by omega) (by decide)) ?_))
    refine wC_loop Nat (fun i => ⟨[(1, .vw nn (ls.map iRow)), (2, .pt 0 0 0), (6, .sl 1 1 0 r.cs.length), (7, .sl 2 1 0 (2 ^ r.cs.length)), (8, .int .i64 ((rk r ls q + sumTo (gS r.cs.length (later r) (sqS r ls q)) i : Nat) : Int)), (9, .int .i64 ((sqS r ls q : Nat) : Int)), (10, .int .i64 (q : Int)), (11, .int .i64 ((sqI r ls q : Nat) : Int)), (12, .int .i64 (i : Int))], [(2, some ((cntL r.cs.length (later r)).map iRow)), (1, some ((maskL (later r) r.cs.length).map iRow)), (0, some [rRow a b r])], 3⟩) (fun i => i ≤ sqI r ls q) (fun i => sqI r ls q - i) 0 (Nat.zero_le _) ?_ (fun _ _ => Nat.zero_le _) ?_
    · exact ⟨⟨⟨rfl, rfl⟩, ⟨rfl, rfl⟩, ⟨rfl, rfl⟩, ⟨rfl, rfl⟩, ⟨rfl, rfl⟩, ⟨rfl, rfl⟩, ⟨rfl, rfl⟩, ⟨rfl, rfl⟩, ⟨rfl, rfl⟩, trivial⟩, ⟨rfl, by show 2 < 3; decide, ltrI _ _⟩, ⟨rfl, by show 1 < 3; decide, ltrI _ _⟩, ⟨rfl, by show 0 < 3; decide, by simp [rRow, AV.ltr]⟩, trivial⟩
    intro i hi
    repeat (first
    | refine wC_a rfl ?_
    | refine q_s rfl ?_
    | refine q_b rfl ?_
    | refine wG_nil ?_
    | refine wG_g rfl ?_
    | refine wG_pure (o_len_vwm rfl) ?_
    | refine wG_pure (o_not_d rfl) ?_
    | refine wG_p rfl (by first | exact rfl | omega) ?_
    | refine wG_pure (o_str2 rfl rfl rfl) ?_
    | refine wG_pure (e_istr rfl rfl (by omega)) ?_
    | refine wG_pure (e_istr0 rfl rfl (by omega)) ?_
    | refine wG_pure (o_not rfl) ?_
    | refine wG_pure (e_ia_vw0 rfl rfl (by omega) rfl) ?_
    | refine wG_pure (e_ia_vwp rfl rfl (by omega) rfl) ?_
    | refine wG_pure (e_ia_vwm rfl rfl (by omega) (by omega) rfl) ?_
    | refine wG_pure (e_ia_vwi rfl rfl (by omega) rfl) ?_
    | refine wG_pure (e_ia_vwn rfl rfl (by omega) (by omega) rfl) ?_
    | refine wG_n rfl rfl ?_
    | refine wG_u rfl rfl ?_
    | refine wG_new (o_mks rfl rfl (by omega) (by decide)) ?_)
    refine wC_cond_d rfl (fun h5 => ?_) (fun h5 => ?_)
    · have hi2 : i < sqI r ls q := by omega
      have hi3 : i < r.cs.length := by omega
      have cR := con56 true (later r) h10 hS2 hi3
      have hp := p10 hi3 h10
      have hor := or_lt hS hi3
      have g2 := cntL_get (W := later r) hor
      have b1 := cnt_le (W := later r) h10 (sqS r ls q ||| 2 ^ i)
      have b2 := sumTo_b (W := later r) h10 (sqS r ls q) (Nat.le_of_lt hi3)
      have hsum : sumTo (gS r.cs.length (later r) (sqS r ls q)) (i + 1) = sumTo (gS r.cs.length (later r) (sqS r ls q)) i + gS r.cs.length (later r) (sqS r ls q) i := rfl
      by_cases hr : rdy r.cs.length (later r) (sqS r ls q) i
      · rw [decide_eq_true hr] at cR
        have e2 : gS r.cs.length (later r) (sqS r ls q) i = cnt r.cs.length (later r) (sqS r ls q ||| 2 ^ i) := if_pos hr
        rw [e2] at hsum
        repeat (first | refine wG_call cR (ag_sl rfl rfl (maskL_len _ _).symm iRow_plain (ag_int rfl (ag_int rfl ag_nil))) rfl ?_ | refine wG_pure (o_cvu rfl (by omega)) ?_ | refine wG_pure (o_shl1 rfl rfl (by omega)) ?_ | refine wG_pure (o_or rfl rfl (by omega) (by omega)) ?_ | (refine wG_pure (e_ia_sl rfl rfl (by omega) (by omega)) ?_; simp only [e0]) | refine wG_pure (o_ldf_pt rfl rfl g2 rfl) ?_ | (first
    | refine wC_a rfl ?_
    | refine q_s rfl ?_
    | refine q_b rfl ?_
    | refine wG_nil ?_
    | refine wG_g rfl ?_
    | refine wG_pure (o_len_vwm rfl) ?_
    | refine wG_pure (o_not_d rfl) ?_
    | refine wG_p rfl (by first | exact rfl | omega) ?_
    | refine wG_pure (o_str2 rfl rfl rfl) ?_
    | refine wG_pure (e_istr rfl rfl (by omega)) ?_
    | refine wG_pure (e_istr0 rfl rfl (by omega)) ?_
    | refine wG_pure (o_not rfl) ?_
    | refine wG_pure (e_ia_vw0 rfl rfl (by omega) rfl) ?_
    | refine wG_pure (e_ia_vwp rfl rfl (by omega) rfl) ?_
    | refine wG_pure (e_ia_vwm rfl rfl (by omega) (by omega) rfl) ?_
    | refine wG_pure (e_ia_vwi rfl rfl (by omega) rfl) ?_
    | refine wG_pure (e_ia_vwn rfl rfl (by omega) (by omega) rfl) ?_
    | refine wG_n rfl rfl ?_
    | refine wG_u rfl rfl ?_
    | refine wG_new (o_mks rfl rfl (by omega) (by decide)) ?_))
        refine ⟨i + 1, hi2, by omega, ⟨⟨rfl, rfl⟩, ⟨rfl, rfl⟩, ⟨rfl, rfl⟩, ⟨rfl, rfl⟩, ⟨?_, rfl⟩, ⟨rfl, rfl⟩, ⟨rfl, rfl⟩, ⟨rfl, rfl⟩, ⟨rfl, rfl⟩, trivial⟩, ⟨rfl, by show 2 < 3; decide, ltrI _ _⟩, ⟨rfl, by show 1 < 3; decide, ltrI _ _⟩, ⟨rfl, by show 0 < 3; decide, by simp [rRow, AV.ltr]⟩, trivial⟩
        rw [hsum, ← Nat.add_assoc]; rfl
      · rw [decide_eq_false hr] at cR
        have e2 : gS r.cs.length (later r) (sqS r ls q) i = 0 := if_neg hr
        rw [e2, Nat.add_zero] at hsum
        repeat (first | refine wG_call cR (ag_sl rfl rfl (maskL_len _ _).symm iRow_plain (ag_int rfl (ag_int rfl ag_nil))) rfl ?_ | (first
    | refine wC_a rfl ?_
    | refine q_s rfl ?_
    | refine q_b rfl ?_
    | refine wG_nil ?_
    | refine wG_g rfl ?_
    | refine wG_pure (o_len_vwm rfl) ?_
    | refine wG_pure (o_not_d rfl) ?_
    | refine wG_p rfl (by first | exact rfl | omega) ?_
    | refine wG_pure (o_str2 rfl rfl rfl) ?_
    | refine wG_pure (e_istr rfl rfl (by omega)) ?_
    | refine wG_pure (e_istr0 rfl rfl (by omega)) ?_
    | refine wG_pure (o_not rfl) ?_
    | refine wG_pure (e_ia_vw0 rfl rfl (by omega) rfl) ?_
    | refine wG_pure (e_ia_vwp rfl rfl (by omega) rfl) ?_
    | refine wG_pure (e_ia_vwm rfl rfl (by omega) (by omega) rfl) ?_
    | refine wG_pure (e_ia_vwi rfl rfl (by omega) rfl) ?_
    | refine wG_pure (e_ia_vwn rfl rfl (by omega) (by omega) rfl) ?_
    | refine wG_n rfl rfl ?_
    | refine wG_u rfl rfl ?_
    | refine wG_new (o_mks rfl rfl (by omega) (by decide)) ?_))
        refine ⟨i + 1, hi2, by omega, ⟨⟨rfl, rfl⟩, ⟨rfl, rfl⟩, ⟨rfl, rfl⟩, ⟨rfl, rfl⟩, ⟨?_, rfl⟩, ⟨rfl, rfl⟩, ⟨rfl, rfl⟩, ⟨rfl, rfl⟩, ⟨rfl, rfl⟩, trivial⟩, ⟨rfl, by show 2 < 3; decide, ltrI _ _⟩, ⟨rfl, by show 1 < 3; decide, ltrI _ _⟩, ⟨rfl, by show 0 < 3; decide, by simp [rRow, AV.ltr]⟩, trivial⟩
        rw [hsum]; rfl
    · have hi4 : i = sqI r ls q := by omega
      subst hi4
      repeat (first | refine wG_pure (o_cvu rfl (by omega)) ?_ | refine wG_pure (o_shl1 rfl rfl (by omega)) ?_ | refine wG_pure (o_or rfl rfl (by omega) (by omega)) ?_ | (first
    | refine wC_a rfl ?_
    | refine q_s rfl ?_
    | refine q_b rfl ?_
    | refine wG_nil ?_
    | refine wG_g rfl ?_
    | refine wG_pure (o_len_vwm rfl) ?_
    | refine wG_pure (o_not_d rfl) ?_
    | refine wG_p rfl (by first | exact rfl | omega) ?_
    | refine wG_pure (o_str2 rfl rfl rfl) ?_
    | refine wG_pure (e_istr rfl rfl (by omega)) ?_
    | refine wG_pure (e_istr0 rfl rfl (by omega)) ?_
    | refine wG_pure (o_not rfl) ?_
    | refine wG_pure (e_ia_vw0 rfl rfl (by omega) rfl) ?_
    | refine wG_pure (e_ia_vwp rfl rfl (by omega) rfl) ?_
    | refine wG_pure (e_ia_vwm rfl rfl (by omega) (by omega) rfl) ?_
    | refine wG_pure (e_ia_vwi rfl rfl (by omega) rfl) ?_
    | refine wG_pure (e_ia_vwn rfl rfl (by omega) (by omega) rfl) ?_
    | refine wG_n rfl rfl ?_
    | refine wG_u rfl rfl ?_
    | refine wG_new (o_mks rfl rfl (by omega) (by decide)) ?_))
      exact ⟨q + 1, hq2, by omega, ⟨⟨rfl, rfl⟩, ⟨rfl, rfl⟩, ⟨rfl, rfl⟩, ⟨rfl, rfl⟩, ⟨rfl, rfl⟩, ⟨rfl, rfl⟩, ⟨rfl, rfl⟩, trivial⟩, ⟨rfl, by show 2 < 3; decide, ltrI _ _⟩, ⟨rfl, by show 1 < 3; decide, ltrI _ _⟩, ⟨rfl, by show 0 < 3; decide, by simp [rRow, AV.ltr]⟩, trivial⟩
  · have hq3 : q = r.cs.length := by omega
    subst hq3
    repeat (first
    | refine wC_a rfl ?_
    | refine q_s rfl ?_
    | refine q_b rfl ?_
    | refine wG_nil ?_
    | refine wG_g rfl ?_
    | refine wG_pure (o_len_vwm rfl) ?_
    | refine wG_pure (o_not_d rfl) ?_
    | refine wG_p rfl (by first | exact rfl | omega) ?_
    | refine wG_pure (o_str2 rfl rfl rfl) ?_
    | refine wG_pure (e_istr rfl rfl (by omega)) ?_
    | refine wG_pure (e_istr0 rfl rfl (by omega)) ?_
    | refine wG_pure (o_not rfl) ?_
    | refine wG_pure (e_ia_vw0 rfl rfl (by omega) rfl) ?_
    | refine wG_pure (e_ia_vwp rfl rfl (by omega) rfl) ?_
    | refine wG_pure (e_ia_vwm rfl rfl (by omega) (by omega) rfl) ?_
    | refine wG_pure (e_ia_vwi rfl rfl (by omega) rfl) ?_
    | refine wG_pure (e_ia_vwn rfl rfl (by omega) (by omega) rfl) ?_
    | refine wG_n rfl rfl ?_
    | refine wG_u rfl rfl ?_
    | refine wG_new (o_mks rfl rfl (by omega) (by decide)) ?_)
    exact ret_pl (.inr rfl) (retVs_2 (retV_mv rfl) (retV_mv rfl)) rfl rfl (by simp)
theorem con27_no (a b nn : Bool) (r : Rc) (ls : List Int) (h1 : r.cs.length ≤ 1048576) (h2 : r.xs.length ≤ 1048576) (h3 : ls.length ≤ 1048576) (hC : ¬ (GoodC r ∧ isSeq r ls)) : Con Try.prog 27 true [.agg (rRow a b r), .vw nn (ls.map iRow)] (.tup [.int .i64 0, .bool false]) [] := by
  classical
  refine con_of_wp mixed fun27 (by simp) [] plain_nil ?_
  unfold ac27 ro27
  simp only [zipT]
  have c1 := con40 a b r h1 h2
  by_cases hG : GoodC r
  · rw [decide_eq_true hG] at c1
    have c2 := con52 a b nn r ls hG.1 h3
    rw [decide_eq_false (fun h => hC ⟨hG, h⟩)] at c2
    repeat (first | refine wG_call c1 rfl rfl ?_ | refine wG_call c2 rfl rfl ?_ | (first
    | refine wC_a rfl ?_
    | refine q_s rfl ?_
    | refine q_b rfl ?_
    | refine wG_nil ?_
    | refine wG_g rfl ?_
    | refine wG_pure (o_len_vwm rfl) ?_
    | refine wG_pure (o_not_d rfl) ?_
    | refine wG_p rfl (by first | exact rfl | omega) ?_
    | refine wG_pure (o_str2 rfl rfl rfl) ?_
    | refine wG_pure (e_istr rfl rfl (by omega)) ?_
    | refine wG_pure (e_istr0 rfl rfl (by omega)) ?_
    | refine wG_pure (o_not rfl) ?_
    | refine wG_pure (e_ia_vw0 rfl rfl (by omega) rfl) ?_
    | refine wG_pure (e_ia_vwp rfl rfl (by omega) rfl) ?_
    | refine wG_pure (e_ia_vwm rfl rfl (by omega) (by omega) rfl) ?_
    | refine wG_pure (e_ia_vwi rfl rfl (by omega) rfl) ?_
    | refine wG_pure (e_ia_vwn rfl rfl (by omega) (by omega) rfl) ?_
    | refine wG_n rfl rfl ?_
    | refine wG_u rfl rfl ?_
    | refine wG_new (o_mks rfl rfl (by omega) (by decide)) ?_))
    exact ret_pl (.inr rfl) (retVs_2 (retV_mv rfl) (retV_mv rfl)) rfl rfl (by simp)
  · rw [decide_eq_false hG] at c1
    repeat (first | refine wG_call c1 rfl rfl ?_ | (first
    | refine wC_a rfl ?_
    | refine q_s rfl ?_
    | refine q_b rfl ?_
    | refine wG_nil ?_
    | refine wG_g rfl ?_
    | refine wG_pure (o_len_vwm rfl) ?_
    | refine wG_pure (o_not_d rfl) ?_
    | refine wG_p rfl (by first | exact rfl | omega) ?_
    | refine wG_pure (o_str2 rfl rfl rfl) ?_
    | refine wG_pure (e_istr rfl rfl (by omega)) ?_
    | refine wG_pure (e_istr0 rfl rfl (by omega)) ?_
    | refine wG_pure (o_not rfl) ?_
    | refine wG_pure (e_ia_vw0 rfl rfl (by omega) rfl) ?_
    | refine wG_pure (e_ia_vwp rfl rfl (by omega) rfl) ?_
    | refine wG_pure (e_ia_vwm rfl rfl (by omega) (by omega) rfl) ?_
    | refine wG_pure (e_ia_vwi rfl rfl (by omega) rfl) ?_
    | refine wG_pure (e_ia_vwn rfl rfl (by omega) (by omega) rfl) ?_
    | refine wG_n rfl rfl ?_
    | refine wG_u rfl rfl ?_
    | refine wG_new (o_mks rfl rfl (by omega) (by decide)) ?_))
    exact ret_pl (.inr rfl) (retVs_2 (retV_mv rfl) (retV_mv rfl)) rfl rfl (by simp)
theorem con57 (nn : Bool) (r : Rc) (ls : List Int) (h10 : r.cs.length ≤ 10) (h3 : ls.length ≤ 1048576) (hs : isSeq r ls) : Con Try.prog 57 true [cgC r, .vw nn (ls.map iRow)] (.int .i64 ((rk r ls r.cs.length : Nat) : Int)) [] := by
  refine con_of_wp mixed fun57 (by simp) [] plain_nil ?_
  unfold ac57 ro57
  simp only [zipT]
  have hnl : (nums r r.cs.length).length = r.cs.length := nums_len (Nat.le_refl _)
  have cI := fun m => con55_num r m h10
  have hl := hs.2
  repeat (first
    | refine wC_a rfl ?_
    | refine q_s rfl ?_
    | refine q_b rfl ?_
    | refine wG_nil ?_
    | refine wG_g rfl ?_
    | refine wG_pure (o_len_vwm rfl) ?_
    | refine wG_pure (o_not_d rfl) ?_
    | refine wG_p rfl (by first | exact rfl | omega) ?_
    | refine wG_pure (o_str2 rfl rfl rfl) ?_
    | refine wG_pure (e_istr rfl rfl (by omega)) ?_
    | refine wG_pure (e_istr0 rfl rfl (by omega)) ?_
    | refine wG_pure (o_not rfl) ?_
    | refine wG_pure (e_ia_vw0 rfl rfl (by omega) rfl) ?_
    | refine wG_pure (e_ia_vwp rfl rfl (by omega) rfl) ?_
    | refine wG_pure (e_ia_vwm rfl rfl (by omega) (by omega) rfl) ?_
    | refine wG_pure (e_ia_vwi rfl rfl (by omega) rfl) ?_
    | refine wG_pure (e_ia_vwn rfl rfl (by omega) (by omega) rfl) ?_
    | refine wG_n rfl rfl ?_
    | refine wG_u rfl rfl ?_
    | refine wG_new (o_mks rfl rfl (by omega) (by decide)) ?_)
  refine wC_loop Nat (fun q => ⟨[(0, cgC r), (5, .int .i64 ((rk r ls q : Nat) : Int)), (6, .int .i64 ((sqS r ls q : Nat) : Int)), (11, .vw nn (ls.map iRow)), (12, .int .i64 (ls.length : Int)), (13, .int .i64 (q : Int))], [], 0⟩) (fun q => q ≤ ls.length) (fun q => ls.length - q) 0 (Nat.zero_le _) ?_ (fun _ _ => Nat.zero_le _) ?_
  · exact ⟨⟨⟨rfl, rfl⟩, ⟨rfl, rfl⟩, ⟨rfl, rfl⟩, ⟨rfl, rfl⟩, ⟨rfl, rfl⟩, ⟨rfl, rfl⟩, trivial⟩, trivial⟩
  intro q hq
  repeat (first
    | refine wC_a rfl ?_
    | refine q_s rfl ?_
    | refine q_b rfl ?_
    | refine wG_nil ?_
    | refine wG_g rfl ?_
    | refine wG_pure (o_len_vwm rfl) ?_
    | refine wG_pure (o_not_d rfl) ?_
    | refine wG_p rfl (by first | exact rfl | omega) ?_
    | refine wG_pure (o_str2 rfl rfl rfl) ?_
    | refine wG_pure (e_istr rfl rfl (by omega)) ?_
    | refine wG_pure (e_istr0 rfl rfl (by omega)) ?_
    | refine wG_pure (o_not rfl) ?_
    | refine wG_pure (e_ia_vw0 rfl rfl (by omega) rfl) ?_
    | refine wG_pure (e_ia_vwp rfl rfl (by omega) rfl) ?_
    | refine wG_pure (e_ia_vwm rfl rfl (by omega) (by omega) rfl) ?_
    | refine wG_pure (e_ia_vwi rfl rfl (by omega) rfl) ?_
    | refine wG_pure (e_ia_vwn rfl rfl (by omega) (by omega) rfl) ?_
    | refine wG_n rfl rfl ?_
    | refine wG_u rfl rfl ?_
    | refine wG_new (o_mks rfl rfl (by omega) (by decide)) ?_)
  refine wC_cond_d rfl (fun h4 => ?_) (fun h4 => ?_)
  · have hq2 : q < ls.length := by omega
    have cq := cI (ls.getD q default)
    have hokq := hs.1 q hq2
    have hk := sqI_eq hokq
    have hk2 := sqI_lt hokq
    rw [hk] at cq
    have hS := sqS_lt (r := r) (ls := ls) q (fun j hj => hs.1 j (by omega))
    have hS2 := lt10 h10 hS
    have bR := rk_le h10 q (fun j hj => hs.1 j (by omega))
    have hpk := p10 hk2 h10
    repeat (first | refine wG_call cq (ag_any (dr_numC _ _) (ag_int rfl ag_nil)) rfl ?_ | (first
    | refine wC_a rfl ?_
    | refine q_s rfl ?_
    | refine q_b rfl ?_
    | refine wG_nil ?_
    | refine wG_g rfl ?_
    | refine wG_pure (o_len_vwm rfl) ?_
    | refine wG_pure (o_not_d rfl) ?_
    | refine wG_p rfl (by first | exact rfl | omega) ?_
    | refine wG_pure (o_str2 rfl rfl rfl) ?_
    | refine wG_pure (e_istr rfl rfl (by omega)) ?_
    | refine wG_pure (e_istr0 rfl rfl (by omega)) ?_
    | refine wG_pure (o_not rfl) ?_
    | refine wG_pure (e_ia_vw0 rfl rfl (by omega) rfl) ?_
    | refine wG_pure (e_ia_vwp rfl rfl (by omega) rfl) ?_
    | refine wG_pure (e_ia_vwm rfl rfl (by omega) (by omega) rfl) ?_
    | refine wG_pure (e_ia_vwi rfl rfl (by omega) rfl) ?_
    | refine wG_pure (e_ia_vwn rfl rfl (by omega) (by omega) rfl) ?_
    | refine wG_n rfl rfl ?_
    | refine wG_u rfl rfl ?_
    | refine wG_new (o_mks rfl rfl (by omega) (by decide)) ?_))
    refine wC_loop Nat (fun i => ⟨[(0, cgC r), (5, .int .i64 ((rk r ls q + sumTo (gS r.cs.length (later r) (sqS r ls q)) i : Nat) : Int)), (6, .int .i64 ((sqS r ls q : Nat) : Int)), (9, .int .i64 ((sqI r ls q : Nat) : Int)), (11, .vw nn (ls.map iRow)), (12, .int .i64 (ls.length : Int)), (13, .int .i64 (q : Int)), (26, .int .i64 ((sqI r ls q : Nat) : Int)), (27, .int .i64 (i : Int))], [], 0⟩) (fun i => i ≤ sqI r ls q) (fun i => sqI r ls q - i) 0 (Nat.zero_le _) ?_ (fun _ _ => Nat.zero_le _) ?_
    · exact ⟨⟨⟨rfl, rfl⟩, ⟨rfl, rfl⟩, ⟨rfl, rfl⟩, ⟨rfl, rfl⟩, ⟨rfl, rfl⟩, ⟨rfl, rfl⟩, ⟨rfl, rfl⟩, ⟨rfl, rfl⟩, ⟨rfl, rfl⟩, trivial⟩, trivial⟩
    intro i hi
    repeat (first
    | refine wC_a rfl ?_
    | refine q_s rfl ?_
    | refine q_b rfl ?_
    | refine wG_nil ?_
    | refine wG_g rfl ?_
    | refine wG_pure (o_len_vwm rfl) ?_
    | refine wG_pure (o_not_d rfl) ?_
    | refine wG_p rfl (by first | exact rfl | omega) ?_
    | refine wG_pure (o_str2 rfl rfl rfl) ?_
    | refine wG_pure (e_istr rfl rfl (by omega)) ?_
    | refine wG_pure (e_istr0 rfl rfl (by omega)) ?_
    | refine wG_pure (o_not rfl) ?_
    | refine wG_pure (e_ia_vw0 rfl rfl (by omega) rfl) ?_
    | refine wG_pure (e_ia_vwp rfl rfl (by omega) rfl) ?_
    | refine wG_pure (e_ia_vwm rfl rfl (by omega) (by omega) rfl) ?_
    | refine wG_pure (e_ia_vwi rfl rfl (by omega) rfl) ?_
    | refine wG_pure (e_ia_vwn rfl rfl (by omega) (by omega) rfl) ?_
    | refine wG_n rfl rfl ?_
    | refine wG_u rfl rfl ?_
    | refine wG_new (o_mks rfl rfl (by omega) (by decide)) ?_)
    refine wC_cond_d rfl (fun h5 => ?_) (fun h5 => ?_)
    · have hi2 : i < sqI r ls q := by omega
      have hi3 : i < r.cs.length := by omega
      have cR := con51 (nums r r.cs.length) (later r) (lk0 r r.xs.length) hnl h10 hS2 hi3
      have hp := p10 hi3 h10
      have hor := or_lt hS hi3
      have g2 := cntL_get (W := later r) hor
      have b1 := cnt_le (W := later r) h10 (sqS r ls q ||| 2 ^ i)
      have b2 := sumTo_b (W := later r) h10 (sqS r ls q) (Nat.le_of_lt hi3)
      have hsum : sumTo (gS r.cs.length (later r) (sqS r ls q)) (i + 1) = sumTo (gS r.cs.length (later r) (sqS r ls q)) i + gS r.cs.length (later r) (sqS r ls q) i := rfl
      by_cases hr : rdy r.cs.length (later r) (sqS r ls q) i
      · rw [decide_eq_true hr] at cR
        have e2 : gS r.cs.length (later r) (sqS r ls q) i = cnt r.cs.length (later r) (sqS r ls q ||| 2 ^ i) := if_pos hr
        rw [e2] at hsum
        repeat (first | refine wG_call cR rfl rfl ?_ | refine wG_pure (o_shl1 rfl rfl (by omega)) ?_ | refine wG_pure (o_or rfl rfl (by omega) (by omega)) ?_ | refine wG_pure (e_row rfl rfl g2 rfl) ?_ | (first
    | refine wC_a rfl ?_
    | refine q_s rfl ?_
    | refine q_b rfl ?_
    | refine wG_nil ?_
    | refine wG_g rfl ?_
    | refine wG_pure (o_len_vwm rfl) ?_
    | refine wG_pure (o_not_d rfl) ?_
    | refine wG_p rfl (by first | exact rfl | omega) ?_
    | refine wG_pure (o_str2 rfl rfl rfl) ?_
    | refine wG_pure (e_istr rfl rfl (by omega)) ?_
    | refine wG_pure (e_istr0 rfl rfl (by omega)) ?_
    | refine wG_pure (o_not rfl) ?_
    | refine wG_pure (e_ia_vw0 rfl rfl (by omega) rfl) ?_
    | refine wG_pure (e_ia_vwp rfl rfl (by omega) rfl) ?_
    | refine wG_pure (e_ia_vwm rfl rfl (by omega) (by omega) rfl) ?_
    | refine wG_pure (e_ia_vwi rfl rfl (by omega) rfl) ?_
    | refine wG_pure (e_ia_vwn rfl rfl (by omega) (by omega) rfl) ?_
    | refine wG_n rfl rfl ?_
    | refine wG_u rfl rfl ?_
    | refine wG_new (o_mks rfl rfl (by omega) (by decide)) ?_))
        refine ⟨i + 1, hi2, by omega, ⟨⟨rfl, rfl⟩, ⟨?_, rfl⟩, ⟨rfl, rfl⟩, ⟨rfl, rfl⟩, ⟨rfl, rfl⟩, ⟨rfl, rfl⟩, ⟨rfl, rfl⟩, ⟨rfl, rfl⟩, ⟨rfl, rfl⟩, trivial⟩, trivial⟩
        rw [hsum, ← Nat.add_assoc]; rfl
      · rw [decide_eq_false hr] at cR
        have e2 : gS r.cs.length (later r) (sqS r ls q) i = 0 := if_neg hr
        rw [e2, Nat.add_zero] at hsum
        repeat (first | refine wG_call cR rfl rfl ?_ | (first
    | refine wC_a rfl ?_
    | refine q_s rfl ?_
    | refine q_b rfl ?_
    | refine wG_nil ?_
    | refine wG_g rfl ?_
    | refine wG_pure (o_len_vwm rfl) ?_
    | refine wG_pure (o_not_d rfl) ?_
    | refine wG_p rfl (by first | exact rfl | omega) ?_
    | refine wG_pure (o_str2 rfl rfl rfl) ?_
    | refine wG_pure (e_istr rfl rfl (by omega)) ?_
    | refine wG_pure (e_istr0 rfl rfl (by omega)) ?_
    | refine wG_pure (o_not rfl) ?_
    | refine wG_pure (e_ia_vw0 rfl rfl (by omega) rfl) ?_
    | refine wG_pure (e_ia_vwp rfl rfl (by omega) rfl) ?_
    | refine wG_pure (e_ia_vwm rfl rfl (by omega) (by omega) rfl) ?_
    | refine wG_pure (e_ia_vwi rfl rfl (by omega) rfl) ?_
    | refine wG_pure (e_ia_vwn rfl rfl (by omega) (by omega) rfl) ?_
    | refine wG_n rfl rfl ?_
    | refine wG_u rfl rfl ?_
    | refine wG_new (o_mks rfl rfl (by omega) (by decide)) ?_))
        refine ⟨i + 1, hi2, by omega, ⟨⟨rfl, rfl⟩, ⟨?_, rfl⟩, ⟨rfl, rfl⟩, ⟨rfl, rfl⟩, ⟨rfl, rfl⟩, ⟨rfl, rfl⟩, ⟨rfl, rfl⟩, ⟨rfl, rfl⟩, ⟨rfl, rfl⟩, trivial⟩, trivial⟩
        rw [hsum]; rfl
    · have hi4 : i = sqI r ls q := by omega
      subst hi4
      repeat (first | refine wG_pure (o_shl1 rfl rfl (by omega)) ?_ | refine wG_pure (o_or rfl rfl (by omega) (by omega)) ?_ | (first
    | refine wC_a rfl ?_
    | refine q_s rfl ?_
    | refine q_b rfl ?_
    | refine wG_nil ?_
    | refine wG_g rfl ?_
    | refine wG_pure (o_len_vwm rfl) ?_
    | refine wG_pure (o_not_d rfl) ?_
    | refine wG_p rfl (by first | exact rfl | omega) ?_
    | refine wG_pure (o_str2 rfl rfl rfl) ?_
    | refine wG_pure (e_istr rfl rfl (by omega)) ?_
    | refine wG_pure (e_istr0 rfl rfl (by omega)) ?_
    | refine wG_pure (o_not rfl) ?_
    | refine wG_pure (e_ia_vw0 rfl rfl (by omega) rfl) ?_
    | refine wG_pure (e_ia_vwp rfl rfl (by omega) rfl) ?_
    | refine wG_pure (e_ia_vwm rfl rfl (by omega) (by omega) rfl) ?_
    | refine wG_pure (e_ia_vwi rfl rfl (by omega) rfl) ?_
    | refine wG_pure (e_ia_vwn rfl rfl (by omega) (by omega) rfl) ?_
    | refine wG_n rfl rfl ?_
    | refine wG_u rfl rfl ?_
    | refine wG_new (o_mks rfl rfl (by omega) (by decide)) ?_))
      exact ⟨q + 1, hq2, by omega, ⟨⟨rfl, rfl⟩, ⟨rfl, rfl⟩, ⟨rfl, rfl⟩, ⟨rfl, rfl⟩, ⟨rfl, rfl⟩, ⟨rfl, rfl⟩, trivial⟩, trivial⟩
  · have hq3 : q = r.cs.length := by omega
    subst hq3
    repeat (first
    | refine wC_a rfl ?_
    | refine q_s rfl ?_
    | refine q_b rfl ?_
    | refine wG_nil ?_
    | refine wG_g rfl ?_
    | refine wG_pure (o_len_vwm rfl) ?_
    | refine wG_pure (o_not_d rfl) ?_
    | refine wG_p rfl (by first | exact rfl | omega) ?_
    | refine wG_pure (o_str2 rfl rfl rfl) ?_
    | refine wG_pure (e_istr rfl rfl (by omega)) ?_
    | refine wG_pure (e_istr0 rfl rfl (by omega)) ?_
    | refine wG_pure (o_not rfl) ?_
    | refine wG_pure (e_ia_vw0 rfl rfl (by omega) rfl) ?_
    | refine wG_pure (e_ia_vwp rfl rfl (by omega) rfl) ?_
    | refine wG_pure (e_ia_vwm rfl rfl (by omega) (by omega) rfl) ?_
    | refine wG_pure (e_ia_vwi rfl rfl (by omega) rfl) ?_
    | refine wG_pure (e_ia_vwn rfl rfl (by omega) (by omega) rfl) ?_
    | refine wG_n rfl rfl ?_
    | refine wG_u rfl rfl ?_
    | refine wG_new (o_mks rfl rfl (by omega) (by decide)) ?_)
    exact ret_intE (.inr rfl) ⟨_, retV_mv rfl, rfl⟩
theorem con28_yes (a b nn : Bool) (r : Rc) (ls : List Int) (h1 : r.cs.length ≤ 1048576) (h2 : r.xs.length ≤ 1048576) (h3 : ls.length ≤ 1048576) (hC : GoodC r) (hs : isSeq r ls) : Con Try.prog 28 true [.agg (rRow a b r), .vw nn (ls.map iRow)] (.tup [.int .i64 ((rk r ls r.cs.length : Nat) : Int), .bool true]) [] := by
  classical
  refine con_of_wp mixed fun28 (by simp) [] plain_nil ?_
  unfold ac28 ro28
  simp only [zipT]
  have c2 := con53 nn r ls hC.1.1 h3
  rw [decide_eq_true hs] at c2
  have c3 := con57 nn r ls hC.1.1 h3 hs
  repeat (first
    | refine wC_a rfl ?_
    | refine q_s rfl ?_
    | refine q_b rfl ?_
    | refine wG_nil ?_
    | refine wG_g rfl ?_
    | refine wG_pure (o_len_vwm rfl) ?_
    | refine wG_pure (o_not_d rfl) ?_
    | refine wG_p rfl (by first | exact rfl | omega) ?_
    | refine wG_pure (o_str2 rfl rfl rfl) ?_
    | refine wG_pure (e_istr rfl rfl (by omega)) ?_
    | refine wG_pure (e_istr0 rfl rfl (by omega)) ?_
    | refine wG_pure (o_not rfl) ?_
    | refine wG_pure (e_ia_vw0 rfl rfl (by omega) rfl) ?_
    | refine wG_pure (e_ia_vwp rfl rfl (by omega) rfl) ?_
    | refine wG_pure (e_ia_vwm rfl rfl (by omega) (by omega) rfl) ?_
    | refine wG_pure (e_ia_vwi rfl rfl (by omega) rfl) ?_
    | refine wG_pure (e_ia_vwn rfl rfl (by omega) (by omega) rfl) ?_
    | refine wG_n rfl rfl ?_
    | refine wG_u rfl rfl ?_
    | refine wG_new (o_mks rfl rfl (by omega) (by decide)) ?_)
  refine wG_callG (v' := .tup [.pt (1 + ((oO r).length + 2)) 0 0, .bool true]) (con45_yes a b r h1 h2 hC) rfl rfl rfl ?_
  change wpG _ _ _ ⟨_, gH a b r, _⟩ _
  repeat (first | refine wG_call c2 (ag_any drg (ag_vw rfl ag_nil)) rfl ?_ | refine wG_call c3 (ag_any drg (ag_vw rfl ag_nil)) rfl ?_ | (first
    | refine wC_a rfl ?_
    | refine q_s rfl ?_
    | refine q_b rfl ?_
    | refine wG_nil ?_
    | refine wG_g rfl ?_
    | refine wG_pure (o_len_vwm rfl) ?_
    | refine wG_pure (o_not_d rfl) ?_
    | refine wG_p rfl (by first | exact rfl | omega) ?_
    | refine wG_pure (o_str2 rfl rfl rfl) ?_
    | refine wG_pure (e_istr rfl rfl (by omega)) ?_
    | refine wG_pure (e_istr0 rfl rfl (by omega)) ?_
    | refine wG_pure (o_not rfl) ?_
    | refine wG_pure (e_ia_vw0 rfl rfl (by omega) rfl) ?_
    | refine wG_pure (e_ia_vwp rfl rfl (by omega) rfl) ?_
    | refine wG_pure (e_ia_vwm rfl rfl (by omega) (by omega) rfl) ?_
    | refine wG_pure (e_ia_vwi rfl rfl (by omega) rfl) ?_
    | refine wG_pure (e_ia_vwn rfl rfl (by omega) (by omega) rfl) ?_
    | refine wG_n rfl rfl ?_
    | refine wG_u rfl rfl ?_
    | refine wG_new (o_mks rfl rfl (by omega) (by decide)) ?_))
  exact ret_pl (.inr rfl) (retVs_2 (retV_mv rfl) (retV_mv rfl)) rfl rfl (by simp)
theorem con28_no (a b nn : Bool) (r : Rc) (ls : List Int) (h1 : r.cs.length ≤ 1048576) (h2 : r.xs.length ≤ 1048576) (h3 : ls.length ≤ 1048576) (hC : ¬ (GoodC r ∧ isSeq r ls)) : Con Try.prog 28 true [.agg (rRow a b r), .vw nn (ls.map iRow)] (.tup [.int .i64 0, .bool false]) [] := by
  classical
  refine con_of_wp mixed fun28 (by simp) [] plain_nil ?_
  unfold ac28 ro28
  simp only [zipT]
  by_cases hG : GoodC r
  · have c2 := con53 nn r ls hG.1.1 h3
    rw [decide_eq_false (fun h => hC ⟨hG, h⟩)] at c2
    repeat (first
    | refine wC_a rfl ?_
    | refine q_s rfl ?_
    | refine q_b rfl ?_
    | refine wG_nil ?_
    | refine wG_g rfl ?_
    | refine wG_pure (o_len_vwm rfl) ?_
    | refine wG_pure (o_not_d rfl) ?_
    | refine wG_p rfl (by first | exact rfl | omega) ?_
    | refine wG_pure (o_str2 rfl rfl rfl) ?_
    | refine wG_pure (e_istr rfl rfl (by omega)) ?_
    | refine wG_pure (e_istr0 rfl rfl (by omega)) ?_
    | refine wG_pure (o_not rfl) ?_
    | refine wG_pure (e_ia_vw0 rfl rfl (by omega) rfl) ?_
    | refine wG_pure (e_ia_vwp rfl rfl (by omega) rfl) ?_
    | refine wG_pure (e_ia_vwm rfl rfl (by omega) (by omega) rfl) ?_
    | refine wG_pure (e_ia_vwi rfl rfl (by omega) rfl) ?_
    | refine wG_pure (e_ia_vwn rfl rfl (by omega) (by omega) rfl) ?_
    | refine wG_n rfl rfl ?_
    | refine wG_u rfl rfl ?_
    | refine wG_new (o_mks rfl rfl (by omega) (by decide)) ?_)
    refine wG_callG (v' := .tup [.pt (1 + ((oO r).length + 2)) 0 0, .bool true]) (con45_yes a b r h1 h2 hG) rfl rfl rfl ?_
    change wpG _ _ _ ⟨_, gH a b r, _⟩ _
    repeat (first | refine wG_call c2 (ag_any drg (ag_vw rfl ag_nil)) rfl ?_ | (first
    | refine wC_a rfl ?_
    | refine q_s rfl ?_
    | refine q_b rfl ?_
    | refine wG_nil ?_
    | refine wG_g rfl ?_
    | refine wG_pure (o_len_vwm rfl) ?_
    | refine wG_pure (o_not_d rfl) ?_
    | refine wG_p rfl (by first | exact rfl | omega) ?_
    | refine wG_pure (o_str2 rfl rfl rfl) ?_
    | refine wG_pure (e_istr rfl rfl (by omega)) ?_
    | refine wG_pure (e_istr0 rfl rfl (by omega)) ?_
    | refine wG_pure (o_not rfl) ?_
    | refine wG_pure (e_ia_vw0 rfl rfl (by omega) rfl) ?_
    | refine wG_pure (e_ia_vwp rfl rfl (by omega) rfl) ?_
    | refine wG_pure (e_ia_vwm rfl rfl (by omega) (by omega) rfl) ?_
    | refine wG_pure (e_ia_vwi rfl rfl (by omega) rfl) ?_
    | refine wG_pure (e_ia_vwn rfl rfl (by omega) (by omega) rfl) ?_
    | refine wG_n rfl rfl ?_
    | refine wG_u rfl rfl ?_
    | refine wG_new (o_mks rfl rfl (by omega) (by decide)) ?_))
    exact ret_pl (.inr rfl) (retVs_2 (retV_mv rfl) (retV_mv rfl)) rfl rfl (by simp)
  · have c1 := con45_no a b r h1 h2 hG
    repeat (first | refine wG_call c1 rfl rfl ?_ | (first
    | refine wC_a rfl ?_
    | refine q_s rfl ?_
    | refine q_b rfl ?_
    | refine wG_nil ?_
    | refine wG_g rfl ?_
    | refine wG_pure (o_len_vwm rfl) ?_
    | refine wG_pure (o_not_d rfl) ?_
    | refine wG_p rfl (by first | exact rfl | omega) ?_
    | refine wG_pure (o_str2 rfl rfl rfl) ?_
    | refine wG_pure (e_istr rfl rfl (by omega)) ?_
    | refine wG_pure (e_istr0 rfl rfl (by omega)) ?_
    | refine wG_pure (o_not rfl) ?_
    | refine wG_pure (e_ia_vw0 rfl rfl (by omega) rfl) ?_
    | refine wG_pure (e_ia_vwp rfl rfl (by omega) rfl) ?_
    | refine wG_pure (e_ia_vwm rfl rfl (by omega) (by omega) rfl) ?_
    | refine wG_pure (e_ia_vwi rfl rfl (by omega) rfl) ?_
    | refine wG_pure (e_ia_vwn rfl rfl (by omega) (by omega) rfl) ?_
    | refine wG_n rfl rfl ?_
    | refine wG_u rfl rfl ?_
    | refine wG_new (o_mks rfl rfl (by omega) (by decide)) ?_))
    exact ret_pl (.inr rfl) (retVs_2 (retV_mv rfl) (retV_mv rfl)) rfl rfl (by simp)
end Go.Proofs.Ythicnjgdngfbkaa.Rec
