/- The greatest of independent years: the implementation; both sides of the quantile. -/
import Derived.Test.YtnohaclnpbpjbaaPlB
namespace Go.Proofs.Ytnohaclnpbpjbaa.Dst
open Go Go.Proofs.Ytnohaclnpbpjbaa.Ab Go.Proofs.Ytnohaclnpbpjbaa.Il
attribute [local irreducible] wpO wpC wpDr wpQ wpG wpE stepA seqQ blkQ Ret RetG ev
set_option maxRecDepth 10000
set_option maxHeartbeats 8000000
set_option linter.unusedSimpArgs false
set_option linter.unusedVariables false

def ac19 : AC := (.seq (.reg [⟨(some 2), none, (.alloc [(.int .i64 0), .nilS])⟩, ⟨(some 3), none, (.mv (.c (.bool false)))⟩]) (.seq (.seq (.reg [⟨(some 18), none, (.mv (.t 0))⟩, ⟨(some 19), none, (.len (.t 18))⟩, ⟨(some 20), none, (.call 42 [(.t 19), (.c (.int .i64 1)), (.c (.int .i64 4))])⟩, ⟨(some 21), none, (.un .not (.t 20))⟩]) (.cond (.t 21) (.seq (.reg [⟨(some 22), none, (.build [(.int .i64 0), .nilS] [])⟩, ⟨none, none, (.st 2 (.t 2) (.t 22))⟩, ⟨(some 3), none, (.mv (.c (.bool false)))⟩]) .ret) .skip)) (.seq (.reg [⟨(some 4), none, (.mv (.c (.int .i64 1)))⟩]) (.seq (.reg [⟨(some 5), none, (.mv (.c (.int .i64 2100)))⟩, ⟨(some 6), none, (.mv (.c (.int .i64 (-20000))))⟩]) (.seq (.seq (.reg [⟨(some 23), none, (.mv (.t 0))⟩, ⟨(some 24), none, (.len (.t 23))⟩, ⟨(some 25), none, (.mv (.c (.int .i64 0)))⟩]) (.blk 0 (.loop (.seq (.reg [⟨(some 26), none, (.bin .lss (.t 25) (.t 24))⟩]) (.seq (.cond (.t 26) .skip (.exit 0)) (.seq (.blk 1 (.seq (.reg [⟨(some 27), none, (.ia 2 (.t 23) (.t 25))⟩, ⟨(some 28), none, (.ld true 2 (.t 27))⟩, ⟨(some 8), none, (.alloc [(.int .i64 0), .nilS])⟩, ⟨none, none, (.st 2 (.t 8) (.t 28))⟩]) (.seq (.seq (.reg [⟨(some 29), none, (.ld true 2 (.t 8))⟩, ⟨(some 30), none, (.call 43 [(.t 29)])⟩, ⟨(some 31), none, (.un .not (.t 30))⟩, ⟨(some 32), none, (.mv (.t 31))⟩, ⟨(some 33), (some (32, false)), (.mv (.t 4))⟩, ⟨(some 34), (some (32, false)), (.ld true 2 (.t 8))⟩, ⟨(some 35), (some (32, false)), (.call 44 [(.t 34)])⟩, ⟨(some 36), (some (32, false)), (.bin .quo (.c (.int .i64 1000000000000000)) (.t 35))⟩, ⟨(some 37), (some (32, false)), (.bin .gtr (.t 33) (.t 36))⟩, ⟨(some 38), none, (.pick (.t 32) (.c (.bool true)) (.t 37))⟩]) (.cond (.t 38) (.seq (.reg [⟨(some 39), none, (.build [(.int .i64 0), .nilS] [])⟩, ⟨none, none, (.st 2 (.t 2) (.t 39))⟩, ⟨(some 3), none, (.mv (.c (.bool false)))⟩]) .ret) .skip)) (.seq (.reg [⟨(some 40), none, (.mv (.t 4))⟩, ⟨(some 41), none, (.ld true 2 (.t 8))⟩, ⟨(some 42), none, (.call 44 [(.t 41)])⟩, ⟨(some 43), none, (.bin .mul (.t 40) (.t 42))⟩, ⟨(some 4), none, (.mv (.t 43))⟩]) (.seq (.reg [⟨(some 44), none, (.mv (.t 5))⟩, ⟨(some 45), none, (.fa 0 (.t 8))⟩, ⟨(some 46), none, (.ld false 1 (.t 45))⟩, ⟨(some 47), none, (.mn (.t 44) (.t 46))⟩, ⟨(some 5), none, (.mv (.t 47))⟩]) (.reg [⟨(some 48), none, (.mv (.t 6))⟩, ⟨(some 49), none, (.ld true 2 (.t 8))⟩, ⟨(some 50), none, (.call 55 [(.t 49)])⟩, ⟨(some 51), none, (.mx (.t 48) (.t 50))⟩, ⟨(some 6), none, (.mv (.t 51))⟩])))))) (.reg [⟨(some 52), none, (.bin .add (.t 25) (.c (.int .i64 1)))⟩, ⟨(some 25), none, (.mv (.t 52))⟩]))))))) (.seq (.seq (.reg [⟨(some 53), none, (.mv (.t 6))⟩, ⟨(some 54), none, (.mv (.t 5))⟩, ⟨(some 55), none, (.bin .sub (.t 53) (.t 54))⟩, ⟨(some 56), none, (.bin .add (.t 55) (.c (.int .i64 1)))⟩, ⟨(some 57), none, (.bin .gtr (.t 56) (.c (.int .i64 200)))⟩]) (.cond (.t 57) (.seq (.reg [⟨(some 58), none, (.build [(.int .i64 0), .nilS] [])⟩, ⟨none, none, (.st 2 (.t 2) (.t 58))⟩, ⟨(some 3), none, (.mv (.c (.bool false)))⟩]) .ret) .skip)) (.seq (.reg [⟨(some 59), none, (.bsl 1 [(.int .i64 0)] 0 [])⟩, ⟨(some 9), none, (.mv (.t 59))⟩]) (.seq (.reg [⟨(some 10), none, (.mv (.c (.int .i64 0)))⟩]) (.seq (.seq (.reg [⟨(some 60), none, (.mv (.t 5))⟩, ⟨(some 11), none, (.mv (.t 60))⟩]) (.blk 2 (.loop (.seq (.seq (.reg [⟨(some 61), none, (.mv (.t 11))⟩, ⟨(some 62), none, (.mv (.t 6))⟩, ⟨(some 63), none, (.bin .leq (.t 61) (.t 62))⟩]) (.cond (.t 63) .skip (.exit 2))) (.seq (.blk 3 (.seq (.reg [⟨(some 12), none, (.mv (.c (.int .i64 1)))⟩]) (.seq (.seq (.reg [⟨(some 66), none, (.mv (.t 0))⟩, ⟨(some 67), none, (.len (.t 66))⟩, ⟨(some 68), none, (.mv (.c (.int .i64 0)))⟩]) (.blk 4 (.loop (.seq (.reg [⟨(some 69), none, (.bin .lss (.t 68) (.t 67))⟩]) (.seq (.cond (.t 69) .skip (.exit 4)) (.seq (.blk 5 (.seq (.reg [⟨(some 70), none, (.ia 2 (.t 66) (.t 68))⟩, ⟨(some 71), none, (.ld true 2 (.t 70))⟩, ⟨(some 14), none, (.alloc [(.int .i64 0), .nilS])⟩, ⟨none, none, (.st 2 (.t 14) (.t 71))⟩]) (.seq (.reg [⟨(some 15), none, (.mv (.c (.int .i64 0)))⟩]) (.seq (.seq (.reg [⟨(some 72), none, (.fa 1 (.t 14))⟩, ⟨(some 73), none, (.ld false 1 (.t 72))⟩, ⟨(some 74), none, (.len (.t 73))⟩, ⟨(some 75), none, (.mv (.c (.int .i64 0)))⟩]) (.blk 6 (.loop (.seq (.reg [⟨(some 76), none, (.bin .lss (.t 75) (.t 74))⟩]) (.seq (.cond (.t 76) .skip (.exit 6)) (.seq (.blk 7 (.seq (.reg [⟨(some 77), none, (.mv (.t 75))⟩, ⟨(some 78), none, (.ia 1 (.t 73) (.t 75))⟩, ⟨(some 79), none, (.ld false 1 (.t 78))⟩, ⟨(some 16), none, (.mv (.t 77))⟩, ⟨(some 17), none, (.mv (.t 79))⟩]) (.seq (.reg [⟨(some 80), none, (.fa 0 (.t 14))⟩, ⟨(some 81), none, (.ld false 1 (.t 80))⟩, ⟨(some 82), none, (.mv (.t 16))⟩, ⟨(some 83), none, (.bin .add (.t 81) (.t 82))⟩, ⟨(some 84), none, (.mv (.t 11))⟩, ⟨(some 85), none, (.bin .leq (.t 83) (.t 84))⟩]) (.cond (.t 85) (.reg [⟨(some 86), none, (.mv (.t 15))⟩, ⟨(some 87), none, (.mv (.t 17))⟩, ⟨(some 88), none, (.bin .add (.t 86) (.t 87))⟩, ⟨(some 15), none, (.mv (.t 88))⟩]) .skip)))) (.reg [⟨(some 89), none, (.bin .add (.t 75) (.c (.int .i64 1)))⟩, ⟨(some 75), none, (.mv (.t 89))⟩]))))))) (.reg [⟨(some 90), none, (.mv (.t 12))⟩, ⟨(some 91), none, (.mv (.t 15))⟩, ⟨(some 92), none, (.bin .mul (.t 90) (.t 91))⟩, ⟨(some 12), none, (.mv (.t 92))⟩]))))) (.reg [⟨(some 93), none, (.bin .add (.t 68) (.c (.int .i64 1)))⟩, ⟨(some 68), none, (.mv (.t 93))⟩]))))))) (.seq (.reg [⟨(some 94), none, (.mv (.t 9))⟩, ⟨(some 95), none, (.mv (.t 12))⟩, ⟨(some 96), none, (.mv (.t 10))⟩, ⟨(some 97), none, (.bin .sub (.t 95) (.t 96))⟩, ⟨(some 98), none, (.bsl 1 [(.int .i64 0)] 1 [(0, (.t 97))])⟩, ⟨(some 99), none, (.app 1 8 [(.int .i64 0)] (.t 94) (.t 98))⟩, ⟨(some 9), none, (.mv (.t 99))⟩]) (.reg [⟨(some 100), none, (.mv (.t 12))⟩, ⟨(some 10), none, (.mv (.t 100))⟩]))))) (.reg [⟨(some 64), none, (.mv (.t 11))⟩, ⟨(some 65), none, (.bin .add (.t 64) (.c (.int .i64 1)))⟩, ⟨(some 11), none, (.mv (.t 65))⟩])))))) (.seq (.reg [⟨(some 101), none, (.mv (.t 5))⟩, ⟨(some 102), none, (.mv (.t 9))⟩, ⟨(some 103), none, (.call 56 [(.t 101), (.t 102)])⟩, ⟨(some 104), none, (.ext (.t 103) 0)⟩, ⟨(some 105), none, (.ext (.t 103) 1)⟩, ⟨none, none, (.st 2 (.t 2) (.t 104))⟩, ⟨(some 3), none, (.mv (.t 105))⟩]) .ret))))))))))
def ro19 : List AOp := [(.ld true 2 (.t 2)), (.mv (.t 3))]
theorem fun19 : Fun Try.prog 19 106 ac19 ro19 := ⟨Try.f19, _, Try.func19, by kernel_rfl, rfl, rfl, by kernel_rfl, by kernel_rfl, by decide⟩

def untS (d : Ds) (y : Int) : Nat → Int
  | 0 => 0
  | k + 1 => if d.f + k ≤ y then untS d y k + d.ws.getD k default else untS d y k
theorem untS_eq (d : Ds) (y : Int) : ∀ k, k ≤ d.ws.length → untS d y k = sm d.ws (min k (clp d (y - d.f + 1)))
  | 0, _ => by rw [untS, Nat.zero_min]; rfl
  | k + 1, hk => by
    rw [untS, untS_eq d y k (by omega)]
    by_cases h : d.f + k ≤ y
    · have h1 : min (k + 1) (clp d (y - d.f + 1)) = k + 1 := by unfold clp; omega
      have h2 : min k (clp d (y - d.f + 1)) = k := by unfold clp; omega
      rw [if_pos h, h1, h2, sm]
    · have h1 : min (k + 1) (clp d (y - d.f + 1)) = min k (clp d (y - d.f + 1)) := by unfold clp; omega
      rw [if_neg h, h1]
theorem untS_b {d : Ds} (hG : GoodD d) (y : Int) {k : Nat} (hk : k ≤ d.ws.length) : 0 ≤ untS d y k ∧ untS d y k ≤ 60000000 := by
  rw [untS_eq d y k hk]
  have h1 := sm_b hG.bnd (min k (clp d (y - d.f + 1))) (by omega)
  have h2 := hG.1.2
  omega
theorem untS_end (d : Ds) (y : Int) : untS d y d.ws.length = unt d y := by
  rw [untS_eq d y _ (Nat.le_refl _), Nat.min_eq_right (clp_le _ _)]; rfl
theorem con19_all (nn : Bool) (xs : List Dn) (h3 : xs.length ≤ 1048576) (hL : LenN xs 1048576) (v : AV) (rs : List Nat) (objs : List Ab.Rows) (hv : v.nvf = true) (hp : PlainObjs objs)
    (hend : (GoodL xs ∧ mkOK (fsL xs xs.length) (scO (lG (nL xs) (gL xs))) → v = mYes (mkO (fsL xs xs.length) (scO (lG (nL xs) (gL xs)))) ∧ rs = [2] ∧ objs = [(mkO (fsL xs xs.length) (scO (lG (nL xs) (gL xs)))).ws.map iRow]) ∧ (¬ (GoodL xs ∧ mkOK (fsL xs xs.length) (scO (lG (nL xs) (gL xs)))) → v = mNo ∧ rs = [] ∧ objs = [])) :
    Con Try.prog 19 true [.vw nn (xs.map nD)] v objs := by
  classical
  suffices key : Con Try.prog 19 v.nvf [.vw nn (xs.map nD)] v objs by rwa [hv] at key
  refine con_of_wp mixed fun19 (by simp) rs hp ?_
  unfold ac19 ro19
  simp only [zipT]
  have c1 := con42 (xs.length : Int) 1 4
  by_cases hn : 1 ≤ (xs.length : Int) ∧ (xs.length : Int) ≤ 4
  case neg =>
    rw [decide_eq_false hn] at c1
    obtain ⟨rfl, rfl, rfl⟩ := hend.2 (fun h => hn (by have := h.1.1; omega))
    repeat (first | refine wG_call c1 rfl rfl ?_ | (first
    | refine wC_a rfl ?_
    | refine q_s rfl ?_
    | refine q_b rfl ?_
    | refine wG_nil ?_
    | refine wG_g rfl ?_
    | refine wG_pure (o_len_vwm rfl) ?_
    | refine wG_pure (o_not_d rfl) ?_
    | refine wG_p rfl (by first | exact rfl | omega) ?_
    | refine wG_pure (o_str2 rfl rfl rfl) ?_
    | refine wG_pure (e_istr rfl rfl (by omega)) ?_
    | refine wG_pure (e_istr0 rfl rfl (by omega)) ?_
    | refine wG_pure (o_not rfl) ?_
    | refine wG_pure (e_ia_vw0 rfl rfl (by omega) rfl) ?_
    | refine wG_pure (e_ia_vwp rfl rfl (by omega) rfl) ?_
    | refine wG_pure (e_ia_vwm rfl rfl (by omega) (by omega) rfl) ?_
    | refine wG_pure (e_ia_vwi rfl rfl (by omega) rfl) ?_
    | refine wG_pure (e_ia_vwn rfl rfl (by omega) (by omega) rfl) ?_
    | refine wG_n rfl rfl ?_
    | refine wG_u rfl rfl ?_
    | refine wG_new (o_mks rfl rfl (by omega) (by decide)) ?_))
    exact ret_d0 (.inr rfl) rfl (retV_ldt rfl rfl rfl rfl rfl) (retV_mv rfl)
  rw [decide_eq_true hn] at c1
  repeat (first | refine wG_call c1 rfl rfl ?_ | (first
    | refine wC_a rfl ?_
    | refine q_s rfl ?_
    | refine q_b rfl ?_
    | refine wG_nil ?_
    | refine wG_g rfl ?_
    | refine wG_pure (o_len_vwm rfl) ?_
    | refine wG_pure (o_not_d rfl) ?_
    | refine wG_p rfl (by first | exact rfl | omega) ?_
    | refine wG_pure (o_str2 rfl rfl rfl) ?_
    | refine wG_pure (e_istr rfl rfl (by omega)) ?_
    | refine wG_pure (e_istr0 rfl rfl (by omega)) ?_
    | refine wG_pure (o_not rfl) ?_
    | refine wG_pure (e_ia_vw0 rfl rfl (by omega) rfl) ?_
    | refine wG_pure (e_ia_vwp rfl rfl (by omega) rfl) ?_
    | refine wG_pure (e_ia_vwm rfl rfl (by omega) (by omega) rfl) ?_
    | refine wG_pure (e_ia_vwi rfl rfl (by omega) rfl) ?_
    | refine wG_pure (e_ia_vwn rfl rfl (by omega) (by omega) rfl) ?_
    | refine wG_n rfl rfl ?_
    | refine wG_u rfl rfl ?_
    | refine wG_new (o_mks rfl rfl (by omega) (by decide)) ?_))
  refine wC_loop Nat (fun i => ⟨[(0, .vw nn (xs.map nD)), (2, .pt 0 0 0), (4, .int .i64 (wgL xs i)), (5, .int .i64 (fsL xs i)), (6, .int .i64 (lsL xs i)), (23, .vw nn (xs.map nD)), (24, .int .i64 (xs.length : Int)), (25, .int .i64 (i : Int))], [(0, some [[.int .i64 0, .nilS]])], 1⟩) (fun i => i ≤ xs.length ∧ ∀ j, j < i → okL xs j) (fun i => xs.length - i) 0 ⟨Nat.zero_le _, fun j hj => absurd hj (Nat.not_lt_zero _)⟩ ?_ (fun _ _ => Nat.zero_le _) ?_
  · exact ⟨⟨⟨rfl, rfl⟩, ⟨rfl, rfl⟩, ⟨rfl, rfl⟩, ⟨rfl, rfl⟩, ⟨rfl, rfl⟩, ⟨rfl, rfl⟩, ⟨rfl, rfl⟩, ⟨rfl, rfl⟩, trivial⟩, ⟨rfl, by show 0 < 1; decide, by simp [AV.ltr]⟩, trivial⟩
  rintro i ⟨hi, hok⟩
  obtain ⟨w1, w2⟩ := wgL_b i hok
  obtain ⟨b1, b2, b3, _⟩ := fsL_b i hok
  repeat (first
    | refine wC_a rfl ?_
    | refine q_s rfl ?_
    | refine q_b rfl ?_
    | refine wG_nil ?_
    | refine wG_g rfl ?_
    | refine wG_pure (o_len_vwm rfl) ?_
    | refine wG_pure (o_not_d rfl) ?_
    | refine wG_p rfl (by first | exact rfl | omega) ?_
    | refine wG_pure (o_str2 rfl rfl rfl) ?_
    | refine wG_pure (e_istr rfl rfl (by omega)) ?_
    | refine wG_pure (e_istr0 rfl rfl (by omega)) ?_
    | refine wG_pure (o_not rfl) ?_
    | refine wG_pure (e_ia_vw0 rfl rfl (by omega) rfl) ?_
    | refine wG_pure (e_ia_vwp rfl rfl (by omega) rfl) ?_
    | refine wG_pure (e_ia_vwm rfl rfl (by omega) (by omega) rfl) ?_
    | refine wG_pure (e_ia_vwi rfl rfl (by omega) rfl) ?_
    | refine wG_pure (e_ia_vwn rfl rfl (by omega) (by omega) rfl) ?_
    | refine wG_n rfl rfl ?_
    | refine wG_u rfl rfl ?_
    | refine wG_new (o_mks rfl rfl (by omega) (by decide)) ?_)
  refine wC_cond_d rfl (fun h5 => ?_) (fun h5 => ?_)
  · have hi2 : i < xs.length := by omega
    have e2 := con43 (xs.getD i default).b (xs.getD i default).d (hL i hi2)
    by_cases g2 : GoodD (xs.getD i default).d
    case neg =>
      rw [decide_eq_false g2] at e2
      obtain ⟨rfl, rfl, rfl⟩ := hend.2 (fun h => g2 (h.1.2.1 i hi2).1)
      repeat (first | refine wG_call e2 rfl rfl ?_ | (first
    | refine wC_a rfl ?_
    | refine q_s rfl ?_
    | refine q_b rfl ?_
    | refine wG_nil ?_
    | refine wG_g rfl ?_
    | refine wG_pure (o_len_vwm rfl) ?_
    | refine wG_pure (o_not_d rfl) ?_
    | refine wG_p rfl (by first | exact rfl | omega) ?_
    | refine wG_pure (o_str2 rfl rfl rfl) ?_
    | refine wG_pure (e_istr rfl rfl (by omega)) ?_
    | refine wG_pure (e_istr0 rfl rfl (by omega)) ?_
    | refine wG_pure (o_not rfl) ?_
    | refine wG_pure (e_ia_vw0 rfl rfl (by omega) rfl) ?_
    | refine wG_pure (e_ia_vwp rfl rfl (by omega) rfl) ?_
    | refine wG_pure (e_ia_vwm rfl rfl (by omega) (by omega) rfl) ?_
    | refine wG_pure (e_ia_vwi rfl rfl (by omega) rfl) ?_
    | refine wG_pure (e_ia_vwn rfl rfl (by omega) (by omega) rfl) ?_
    | refine wG_n rfl rfl ?_
    | refine wG_u rfl rfl ?_
    | refine wG_new (o_mks rfl rfl (by omega) (by decide)) ?_))
      exact ret_d0 (.inr rfl) rfl (retV_ldt rfl rfl rfl rfl rfl) (retV_mv rfl)
    rw [decide_eq_true g2] at e2
    have h60 := g2.1
    have hff := g2.2.1
    have e4 := con44 (xs.getD i default).b (xs.getD i default).d g2
    have e5 := con55 (xs.getD i default).b (xs.getD i default).d (hL i hi2) (by omega) (by omega)
    have ht := g2.pos
    have ht2 := g2.total_b.2
    have hdv : (1000000000000000 : Int).tdiv (total (xs.getD i default).d) ≤ 1000000000000000 ∧ 0 ≤ (1000000000000000 : Int).tdiv (total (xs.getD i default).d) := by
      rw [Int.tdiv_eq_ediv_of_nonneg (by omega)]
      exact ⟨Int.ediv_le_self _ (by omega), Int.ediv_nonneg (by omega) (by omega)⟩
    repeat (first | refine wG_call e2 rfl rfl ?_ | refine wG_call e4 rfl rfl ?_ | (first
    | refine wC_a rfl ?_
    | refine q_s rfl ?_
    | refine q_b rfl ?_
    | refine wG_nil ?_
    | refine wG_g rfl ?_
    | refine wG_pure (o_len_vwm rfl) ?_
    | refine wG_pure (o_not_d rfl) ?_
    | refine wG_p rfl (by first | exact rfl | omega) ?_
    | refine wG_pure (o_str2 rfl rfl rfl) ?_
    | refine wG_pure (e_istr rfl rfl (by omega)) ?_
    | refine wG_pure (e_istr0 rfl rfl (by omega)) ?_
    | refine wG_pure (o_not rfl) ?_
    | refine wG_pure (e_ia_vw0 rfl rfl (by omega) rfl) ?_
    | refine wG_pure (e_ia_vwp rfl rfl (by omega) rfl) ?_
    | refine wG_pure (e_ia_vwm rfl rfl (by omega) (by omega) rfl) ?_
    | refine wG_pure (e_ia_vwi rfl rfl (by omega) rfl) ?_
    | refine wG_pure (e_ia_vwn rfl rfl (by omega) (by omega) rfl) ?_
    | refine wG_n rfl rfl ?_
    | refine wG_u rfl rfl ?_
    | refine wG_new (o_mks rfl rfl (by omega) (by decide)) ?_))
    by_cases g4 : wgL xs i > (1000000000000000 : Int).tdiv (total (xs.getD i default).d)
    · simp only [decide_eq_true g4]
      obtain ⟨rfl, rfl, rfl⟩ := hend.2 (fun h => (h.1.2.1 i hi2).2 g4)
      repeat (first
    | refine wC_a rfl ?_
    | refine q_s rfl ?_
    | refine q_b rfl ?_
    | refine wG_nil ?_
    | refine wG_g rfl ?_
    | refine wG_pure (o_len_vwm rfl) ?_
    | refine wG_pure (o_not_d rfl) ?_
    | refine wG_p rfl (by first | exact rfl | omega) ?_
    | refine wG_pure (o_str2 rfl rfl rfl) ?_
    | refine wG_pure (e_istr rfl rfl (by omega)) ?_
    | refine wG_pure (e_istr0 rfl rfl (by omega)) ?_
    | refine wG_pure (o_not rfl) ?_
    | refine wG_pure (e_ia_vw0 rfl rfl (by omega) rfl) ?_
    | refine wG_pure (e_ia_vwp rfl rfl (by omega) rfl) ?_
    | refine wG_pure (e_ia_vwm rfl rfl (by omega) (by omega) rfl) ?_
    | refine wG_pure (e_ia_vwi rfl rfl (by omega) rfl) ?_
    | refine wG_pure (e_ia_vwn rfl rfl (by omega) (by omega) rfl) ?_
    | refine wG_n rfl rfl ?_
    | refine wG_u rfl rfl ?_
    | refine wG_new (o_mks rfl rfl (by omega) (by decide)) ?_)
      exact ret_d0 (.inr rfl) rfl (retV_ldt rfl rfl rfl rfl rfl) (retV_mv rfl)
    · simp only [decide_eq_false g4]
      have hw := le_tdiv ht (by omega) g4
      have hw0 : 0 ≤ wgL xs i * total (xs.getD i default).d := Int.mul_nonneg (by omega) (by omega)
      repeat (first | refine wC_dregE ?_ | refine wG_call e4 rfl rfl ?_ | refine wG_call e5 rfl rfl ?_ | (first
    | refine wC_a rfl ?_
    | refine q_s rfl ?_
    | refine q_b rfl ?_
    | refine wG_nil ?_
    | refine wG_g rfl ?_
    | refine wG_pure (o_len_vwm rfl) ?_
    | refine wG_pure (o_not_d rfl) ?_
    | refine wG_p rfl (by first | exact rfl | omega) ?_
    | refine wG_pure (o_str2 rfl rfl rfl) ?_
    | refine wG_pure (e_istr rfl rfl (by omega)) ?_
    | refine wG_pure (e_istr0 rfl rfl (by omega)) ?_
    | refine wG_pure (o_not rfl) ?_
    | refine wG_pure (e_ia_vw0 rfl rfl (by omega) rfl) ?_
    | refine wG_pure (e_ia_vwp rfl rfl (by omega) rfl) ?_
    | refine wG_pure (e_ia_vwm rfl rfl (by omega) (by omega) rfl) ?_
    | refine wG_pure (e_ia_vwi rfl rfl (by omega) rfl) ?_
    | refine wG_pure (e_ia_vwn rfl rfl (by omega) (by omega) rfl) ?_
    | refine wG_n rfl rfl ?_
    | refine wG_u rfl rfl ?_
    | refine wG_new (o_mks rfl rfl (by omega) (by decide)) ?_) | (first
    | refine wE_nil (by kernel_rfl) ?_
    | refine wE_gy rfl ?_
    | refine wE_gn rfl rfl rfl ?_
    | refine wE_gu rfl rfl ?_
    | refine wE_gnn rfl rfl rfl ?_
    | refine wE_v (o_len_vwm rfl) rfl ?_
    | refine wE_v (o_not_d rfl) rfl ?_
    | refine wE_p rfl (by first | exact rfl | omega) rfl ?_
    | refine wE_v (o_str2 rfl rfl rfl) rfl ?_
    | refine wE_v (e_istr rfl rfl (by omega)) rfl ?_
    | refine wE_v (e_istr0 rfl rfl (by omega)) rfl ?_
    | refine wE_v (o_not rfl) rfl ?_
    | refine wE_v (e_ia_vw0 rfl rfl (by omega) rfl) rfl ?_
    | refine wE_v (e_ia_vwp rfl rfl (by omega) rfl) rfl ?_
    | refine wE_v (e_ia_vwm rfl rfl (by omega) (by omega) rfl) rfl ?_
    | refine wE_v (e_ia_vwi rfl rfl (by omega) rfl) rfl ?_
    | refine wE_v (e_ia_vwn rfl rfl (by omega) (by omega) rfl) rfl ?_
    | refine wE_n rfl rfl rfl ?_
    | refine wE_u rfl rfl rfl ?_
    | refine wE_new (o_mks rfl rfl (by omega) (by decide)) rfl ?_))
      exact ⟨i + 1, ⟨hi2, lt_upL hok ⟨g2, g4⟩⟩, by omega, ⟨⟨rfl, rfl⟩, ⟨rfl, rfl⟩, ⟨rfl, rfl⟩, ⟨rfl, rfl⟩, ⟨rfl, rfl⟩, ⟨rfl, rfl⟩, ⟨rfl, rfl⟩, ⟨rfl, rfl⟩, trivial⟩, ⟨rfl, by show 0 < 1; decide, by simp [AV.ltr]⟩, trivial⟩
  have hi3 : i = xs.length := by omega
  subst hi3
  obtain ⟨_, _, _, b4⟩ := fsL_b xs.length hok
  have b4 := b4 (by omega)
  by_cases hsp : lsL xs xs.length - fsL xs xs.length + 1 > 200
  · have d1 : decide (lsL xs xs.length - fsL xs xs.length + 1 > 200) = true := decide_eq_true hsp
    obtain ⟨rfl, rfl, rfl⟩ := hend.2 (fun h => by have := h.1.2.2; omega)
    repeat (first
    | refine wC_a rfl ?_
    | refine q_s rfl ?_
    | refine q_b rfl ?_
    | refine wG_nil ?_
    | refine wG_g rfl ?_
    | refine wG_pure (o_len_vwm rfl) ?_
    | refine wG_pure (o_not_d rfl) ?_
    | refine wG_p rfl (by first | exact rfl | omega) ?_
    | refine wG_pure (o_str2 rfl rfl rfl) ?_
    | refine wG_pure (e_istr rfl rfl (by omega)) ?_
    | refine wG_pure (e_istr0 rfl rfl (by omega)) ?_
    | refine wG_pure (o_not rfl) ?_
    | refine wG_pure (e_ia_vw0 rfl rfl (by omega) rfl) ?_
    | refine wG_pure (e_ia_vwp rfl rfl (by omega) rfl) ?_
    | refine wG_pure (e_ia_vwm rfl rfl (by omega) (by omega) rfl) ?_
    | refine wG_pure (e_ia_vwi rfl rfl (by omega) rfl) ?_
    | refine wG_pure (e_ia_vwn rfl rfl (by omega) (by omega) rfl) ?_
    | refine wG_n rfl rfl ?_
    | refine wG_u rfl rfl ?_
    | refine wG_new (o_mks rfl rfl (by omega) (by decide)) ?_)
    simp only [d1]
    repeat (first
    | refine wC_a rfl ?_
    | refine q_s rfl ?_
    | refine q_b rfl ?_
    | refine wG_nil ?_
    | refine wG_g rfl ?_
    | refine wG_pure (o_len_vwm rfl) ?_
    | refine wG_pure (o_not_d rfl) ?_
    | refine wG_p rfl (by first | exact rfl | omega) ?_
    | refine wG_pure (o_str2 rfl rfl rfl) ?_
    | refine wG_pure (e_istr rfl rfl (by omega)) ?_
    | refine wG_pure (e_istr0 rfl rfl (by omega)) ?_
    | refine wG_pure (o_not rfl) ?_
    | refine wG_pure (e_ia_vw0 rfl rfl (by omega) rfl) ?_
    | refine wG_pure (e_ia_vwp rfl rfl (by omega) rfl) ?_
    | refine wG_pure (e_ia_vwm rfl rfl (by omega) (by omega) rfl) ?_
    | refine wG_pure (e_ia_vwi rfl rfl (by omega) rfl) ?_
    | refine wG_pure (e_ia_vwn rfl rfl (by omega) (by omega) rfl) ?_
    | refine wG_n rfl rfl ?_
    | refine wG_u rfl rfl ?_
    | refine wG_new (o_mks rfl rfl (by omega) (by decide)) ?_)
    exact ret_d0 (.inr rfl) rfl (retV_ldt rfl rfl rfl rfl rfl) (retV_mv rfl)
  have d1 : decide (lsL xs xs.length - fsL xs xs.length + 1 > 200) = false := decide_eq_false hsp
  have hG : GoodL xs := ⟨by omega, hok, by omega⟩
  have hnL : ((nL xs : Nat) : Int) = lsL xs xs.length - fsL xs xs.length + 1 := by unfold nL; omega
  have hww := wgL_b xs.length hok
  repeat (first
    | refine wC_a rfl ?_
    | refine q_s rfl ?_
    | refine q_b rfl ?_
    | refine wG_nil ?_
    | refine wG_g rfl ?_
    | refine wG_pure (o_len_vwm rfl) ?_
    | refine wG_pure (o_not_d rfl) ?_
    | refine wG_p rfl (by first | exact rfl | omega) ?_
    | refine wG_pure (o_str2 rfl rfl rfl) ?_
    | refine wG_pure (e_istr rfl rfl (by omega)) ?_
    | refine wG_pure (e_istr0 rfl rfl (by omega)) ?_
    | refine wG_pure (o_not rfl) ?_
    | refine wG_pure (e_ia_vw0 rfl rfl (by omega) rfl) ?_
    | refine wG_pure (e_ia_vwp rfl rfl (by omega) rfl) ?_
    | refine wG_pure (e_ia_vwm rfl rfl (by omega) (by omega) rfl) ?_
    | refine wG_pure (e_ia_vwi rfl rfl (by omega) rfl) ?_
    | refine wG_pure (e_ia_vwn rfl rfl (by omega) (by omega) rfl) ?_
    | refine wG_n rfl rfl ?_
    | refine wG_u rfl rfl ?_
    | refine wG_new (o_mks rfl rfl (by omega) (by decide)) ?_)
  simp only [d1]
  repeat (first
    | refine wC_a rfl ?_
    | refine q_s rfl ?_
    | refine q_b rfl ?_
    | refine wG_nil ?_
    | refine wG_g rfl ?_
    | refine wG_pure (o_len_vwm rfl) ?_
    | refine wG_pure (o_not_d rfl) ?_
    | refine wG_p rfl (by first | exact rfl | omega) ?_
    | refine wG_pure (o_str2 rfl rfl rfl) ?_
    | refine wG_pure (e_istr rfl rfl (by omega)) ?_
    | refine wG_pure (e_istr0 rfl rfl (by omega)) ?_
    | refine wG_pure (o_not rfl) ?_
    | refine wG_pure (e_ia_vw0 rfl rfl (by omega) rfl) ?_
    | refine wG_pure (e_ia_vwp rfl rfl (by omega) rfl) ?_
    | refine wG_pure (e_ia_vwm rfl rfl (by omega) (by omega) rfl) ?_
    | refine wG_pure (e_ia_vwi rfl rfl (by omega) rfl) ?_
    | refine wG_pure (e_ia_vwn rfl rfl (by omega) (by omega) rfl) ?_
    | refine wG_n rfl rfl ?_
    | refine wG_u rfl rfl ?_
    | refine wG_new (o_mks rfl rfl (by omega) (by decide)) ?_)
  refine wC_loopR Nat (fun t => ⟨[(0, .vw nn (xs.map nD)), (2, .pt 0 0 0), (5, .int .i64 (fsL xs xs.length)), (6, .int .i64 (lsL xs xs.length)), (9, .sl 1 1 0 t), (10, .int .i64 (bfL xs t)), (11, .int .i64 (fsL xs xs.length + t))], [(1, some ((lG t (gL xs)).map iRow)), (0, some [[.int .i64 0, .nilS]])], 2⟩) (fun t => t ≤ nL xs) (fun t => nL xs - t) 0 (Nat.zero_le _) ⟨[0, 1], ?_⟩ ?_
  · exact ⟨⟨⟨rfl, rfl⟩, ⟨rfl, rfl⟩, ⟨rfl, rfl⟩, ⟨rfl, rfl⟩, ⟨rfl, rfl⟩, ⟨rfl, rfl⟩, ⟨by show AV.int _ _ = AV.int _ _; congr 1; simp, rfl⟩, trivial⟩, ⟨⟨⟨_, rfl, rfl⟩, (by show 1 < 2; decide), ltrI _ _⟩, ⟨⟨_, rfl, rfl⟩, (by show 0 < 2; decide), by simp [AV.ltr]⟩, trivial⟩, rfl, by decide⟩
  intro t ht
  have hll := lG_len t (gL xs)
  have hup := lG_up t (gL xs)
  have hbf := bfL_b hG t
  have hgb := gL_b hG t
  repeat (first
    | refine wC_a rfl ?_
    | refine q_s rfl ?_
    | refine q_b rfl ?_
    | refine wG_nil ?_
    | refine wG_g rfl ?_
    | refine wG_pure (o_len_vwm rfl) ?_
    | refine wG_pure (o_not_d rfl) ?_
    | refine wG_p rfl (by first | exact rfl | omega) ?_
    | refine wG_pure (o_str2 rfl rfl rfl) ?_
    | refine wG_pure (e_istr rfl rfl (by omega)) ?_
    | refine wG_pure (e_istr0 rfl rfl (by omega)) ?_
    | refine wG_pure (o_not rfl) ?_
    | refine wG_pure (e_ia_vw0 rfl rfl (by omega) rfl) ?_
    | refine wG_pure (e_ia_vwp rfl rfl (by omega) rfl) ?_
    | refine wG_pure (e_ia_vwm rfl rfl (by omega) (by omega) rfl) ?_
    | refine wG_pure (e_ia_vwi rfl rfl (by omega) rfl) ?_
    | refine wG_pure (e_ia_vwn rfl rfl (by omega) (by omega) rfl) ?_
    | refine wG_n rfl rfl ?_
    | refine wG_u rfl rfl ?_
    | refine wG_new (o_mks rfl rfl (by omega) (by decide)) ?_)
  refine wC_cond_d rfl (fun h6 => ?_) (fun h6 => ?_)
  · repeat (first
    | refine wC_a rfl ?_
    | refine q_s rfl ?_
    | refine q_b rfl ?_
    | refine wG_nil ?_
    | refine wG_g rfl ?_
    | refine wG_pure (o_len_vwm rfl) ?_
    | refine wG_pure (o_not_d rfl) ?_
    | refine wG_p rfl (by first | exact rfl | omega) ?_
    | refine wG_pure (o_str2 rfl rfl rfl) ?_
    | refine wG_pure (e_istr rfl rfl (by omega)) ?_
    | refine wG_pure (e_istr0 rfl rfl (by omega)) ?_
    | refine wG_pure (o_not rfl) ?_
    | refine wG_pure (e_ia_vw0 rfl rfl (by omega) rfl) ?_
    | refine wG_pure (e_ia_vwp rfl rfl (by omega) rfl) ?_
    | refine wG_pure (e_ia_vwm rfl rfl (by omega) (by omega) rfl) ?_
    | refine wG_pure (e_ia_vwi rfl rfl (by omega) rfl) ?_
    | refine wG_pure (e_ia_vwn rfl rfl (by omega) (by omega) rfl) ?_
    | refine wG_n rfl rfl ?_
    | refine wG_u rfl rfl ?_
    | refine wG_new (o_mks rfl rfl (by omega) (by decide)) ?_)
    refine wC_loop Nat (fun i => ⟨[(0, .vw nn (xs.map nD)), (2, .pt 0 0 0), (5, .int .i64 (fsL xs xs.length)), (6, .int .i64 (lsL xs xs.length)), (9, .sl 1 1 0 t), (10, .int .i64 (bfL xs t)), (11, .int .i64 (fsL xs xs.length + t)), (12, .int .i64 (nwL xs (fsL xs xs.length + t) i)), (66, .vw nn (xs.map nD)), (67, .int .i64 (xs.length : Int)), (68, .int .i64 (i : Int))], [(1, some ((lG t (gL xs)).map iRow)), (0, some [[.int .i64 0, .nilS]])], 2⟩) (fun i => i ≤ xs.length) (fun i => xs.length - i) 0 (Nat.zero_le _) ?_ (fun _ _ => Nat.zero_le _) ?_
    · exact ⟨⟨⟨rfl, rfl⟩, ⟨rfl, rfl⟩, ⟨rfl, rfl⟩, ⟨rfl, rfl⟩, ⟨rfl, rfl⟩, ⟨rfl, rfl⟩, ⟨rfl, rfl⟩, ⟨rfl, rfl⟩, ⟨rfl, rfl⟩, ⟨rfl, rfl⟩, ⟨rfl, rfl⟩, trivial⟩, ⟨rfl, by show 1 < 2; decide, ltrI _ _⟩, ⟨rfl, by show 0 < 2; decide, by simp [AV.ltr]⟩, trivial⟩
    intro i hi4
    repeat (first
    | refine wC_a rfl ?_
    | refine q_s rfl ?_
    | refine q_b rfl ?_
    | refine wG_nil ?_
    | refine wG_g rfl ?_
    | refine wG_pure (o_len_vwm rfl) ?_
    | refine wG_pure (o_not_d rfl) ?_
    | refine wG_p rfl (by first | exact rfl | omega) ?_
    | refine wG_pure (o_str2 rfl rfl rfl) ?_
    | refine wG_pure (e_istr rfl rfl (by omega)) ?_
    | refine wG_pure (e_istr0 rfl rfl (by omega)) ?_
    | refine wG_pure (o_not rfl) ?_
    | refine wG_pure (e_ia_vw0 rfl rfl (by omega) rfl) ?_
    | refine wG_pure (e_ia_vwp rfl rfl (by omega) rfl) ?_
    | refine wG_pure (e_ia_vwm rfl rfl (by omega) (by omega) rfl) ?_
    | refine wG_pure (e_ia_vwi rfl rfl (by omega) rfl) ?_
    | refine wG_pure (e_ia_vwn rfl rfl (by omega) (by omega) rfl) ?_
    | refine wG_n rfl rfl ?_
    | refine wG_u rfl rfl ?_
    | refine wG_new (o_mks rfl rfl (by omega) (by decide)) ?_)
    refine wC_cond_d rfl (fun h7 => ?_) (fun h7 => ?_)
    · have hi5 : i < xs.length := by omega
      have g2 := (hok i hi5).1
      have h60 := g2.1
      have hff := g2.2.1
      have n1 := nwL_b (fsL xs xs.length + t) (i + 1) (fun j hj => hok j (by omega))
      have n2 := wgL_b (i + 1) (fun j hj => hok j (by omega))
      rw [nwL] at n1
      repeat (first
    | refine wC_a rfl ?_
    | refine q_s rfl ?_
    | refine q_b rfl ?_
    | refine wG_nil ?_
    | refine wG_g rfl ?_
    | refine wG_pure (o_len_vwm rfl) ?_
    | refine wG_pure (o_not_d rfl) ?_
    | refine wG_p rfl (by first | exact rfl | omega) ?_
    | refine wG_pure (o_str2 rfl rfl rfl) ?_
    | refine wG_pure (e_istr rfl rfl (by omega)) ?_
    | refine wG_pure (e_istr0 rfl rfl (by omega)) ?_
    | refine wG_pure (o_not rfl) ?_
    | refine wG_pure (e_ia_vw0 rfl rfl (by omega) rfl) ?_
    | refine wG_pure (e_ia_vwp rfl rfl (by omega) rfl) ?_
    | refine wG_pure (e_ia_vwm rfl rfl (by omega) (by omega) rfl) ?_
    | refine wG_pure (e_ia_vwi rfl rfl (by omega) rfl) ?_
    | refine wG_pure (e_ia_vwn rfl rfl (by omega) (by omega) rfl) ?_
    | refine wG_n rfl rfl ?_
    | refine wG_u rfl rfl ?_
    | refine wG_new (o_mks rfl rfl (by omega) (by decide)) ?_)
      refine wC_loop Nat (fun k => ⟨[(0, .vw nn (xs.map nD)), (2, .pt 0 0 0), (5, .int .i64 (fsL xs xs.length)), (6, .int .i64 (lsL xs xs.length)), (9, .sl 1 1 0 t), (10, .int .i64 (bfL xs t)), (11, .int .i64 (fsL xs xs.length + t)), (12, .int .i64 (nwL xs (fsL xs xs.length + t) i)), (66, .vw nn (xs.map nD)), (67, .int .i64 (xs.length : Int)), (68, .int .i64 (i : Int)), (14, .pt 2 0 0), (15, .int .i64 (untS (xs.getD i default).d (fsL xs xs.length + t) k)), (73, .vw (xs.getD i default).b ((xs.getD i default).d.ws.map iRow)), (74, .int .i64 ((xs.getD i default).d.ws.length : Int)), (75, .int .i64 (k : Int))], [(2, some [nD (xs.getD i default)]), (1, some ((lG t (gL xs)).map iRow)), (0, some [[.int .i64 0, .nilS]])], 3⟩) (fun k => k ≤ (xs.getD i default).d.ws.length) (fun k => (xs.getD i default).d.ws.length - k) 0 (Nat.zero_le _) ?_ (fun _ _ => Nat.zero_le _) ?_
      · exact ⟨⟨⟨rfl, rfl⟩, ⟨rfl, rfl⟩, ⟨rfl, rfl⟩, ⟨rfl, rfl⟩, ⟨rfl, rfl⟩, ⟨rfl, rfl⟩, ⟨rfl, rfl⟩, ⟨rfl, rfl⟩, ⟨rfl, rfl⟩, ⟨rfl, rfl⟩, ⟨rfl, rfl⟩, ⟨rfl, rfl⟩, ⟨rfl, rfl⟩, ⟨rfl, rfl⟩, ⟨rfl, rfl⟩, ⟨rfl, rfl⟩, trivial⟩, ⟨rfl, by show 2 < 3; decide, nD_ltr1 _⟩, ⟨rfl, by show 1 < 3; decide, ltrI _ _⟩, ⟨rfl, by show 0 < 3; decide, by simp [AV.ltr]⟩, trivial⟩
      intro k hk
      have s0 := untS_b g2 (fsL xs xs.length + t) hk
      repeat (first
    | refine wC_a rfl ?_
    | refine q_s rfl ?_
    | refine q_b rfl ?_
    | refine wG_nil ?_
    | refine wG_g rfl ?_
    | refine wG_pure (o_len_vwm rfl) ?_
    | refine wG_pure (o_not_d rfl) ?_
    | refine wG_p rfl (by first | exact rfl | omega) ?_
    | refine wG_pure (o_str2 rfl rfl rfl) ?_
    | refine wG_pure (e_istr rfl rfl (by omega)) ?_
    | refine wG_pure (e_istr0 rfl rfl (by omega)) ?_
    | refine wG_pure (o_not rfl) ?_
    | refine wG_pure (e_ia_vw0 rfl rfl (by omega) rfl) ?_
    | refine wG_pure (e_ia_vwp rfl rfl (by omega) rfl) ?_
    | refine wG_pure (e_ia_vwm rfl rfl (by omega) (by omega) rfl) ?_
    | refine wG_pure (e_ia_vwi rfl rfl (by omega) rfl) ?_
    | refine wG_pure (e_ia_vwn rfl rfl (by omega) (by omega) rfl) ?_
    | refine wG_n rfl rfl ?_
    | refine wG_u rfl rfl ?_
    | refine wG_new (o_mks rfl rfl (by omega) (by decide)) ?_)
      refine wC_cond_d rfl (fun h8 => ?_) (fun h8 => ?_)
      · have hk2 : k < (xs.getD i default).d.ws.length := by omega
        have s1 := untS_b g2 (fsL xs xs.length + t) (k := k + 1) hk2
        have wb := g2.bnd k hk2
        repeat (first
    | refine wC_a rfl ?_
    | refine q_s rfl ?_
    | refine q_b rfl ?_
    | refine wG_nil ?_
    | refine wG_g rfl ?_
    | refine wG_pure (o_len_vwm rfl) ?_
    | refine wG_pure (o_not_d rfl) ?_
    | refine wG_p rfl (by first | exact rfl | omega) ?_
    | refine wG_pure (o_str2 rfl rfl rfl) ?_
    | refine wG_pure (e_istr rfl rfl (by omega)) ?_
    | refine wG_pure (e_istr0 rfl rfl (by omega)) ?_
    | refine wG_pure (o_not rfl) ?_
    | refine wG_pure (e_ia_vw0 rfl rfl (by omega) rfl) ?_
    | refine wG_pure (e_ia_vwp rfl rfl (by omega) rfl) ?_
    | refine wG_pure (e_ia_vwm rfl rfl (by omega) (by omega) rfl) ?_
    | refine wG_pure (e_ia_vwi rfl rfl (by omega) rfl) ?_
    | refine wG_pure (e_ia_vwn rfl rfl (by omega) (by omega) rfl) ?_
    | refine wG_n rfl rfl ?_
    | refine wG_u rfl rfl ?_
    | refine wG_new (o_mks rfl rfl (by omega) (by decide)) ?_)
        refine wC_cond_d rfl (fun h9 => ?_) (fun h9 => ?_)
        · have e1 : untS (xs.getD i default).d (fsL xs xs.length + t) (k + 1) = untS (xs.getD i default).d (fsL xs xs.length + t) k + (xs.getD i default).d.ws.getD k default := by rw [untS, if_pos h9]
          rw [e1] at s1
          repeat (first
    | refine wC_a rfl ?_
    | refine q_s rfl ?_
    | refine q_b rfl ?_
    | refine wG_nil ?_
    | refine wG_g rfl ?_
    | refine wG_pure (o_len_vwm rfl) ?_
    | refine wG_pure (o_not_d rfl) ?_
    | refine wG_p rfl (by first | exact rfl | omega) ?_
    | refine wG_pure (o_str2 rfl rfl rfl) ?_
    | refine wG_pure (e_istr rfl rfl (by omega)) ?_
    | refine wG_pure (e_istr0 rfl rfl (by omega)) ?_
    | refine wG_pure (o_not rfl) ?_
    | refine wG_pure (e_ia_vw0 rfl rfl (by omega) rfl) ?_
    | refine wG_pure (e_ia_vwp rfl rfl (by omega) rfl) ?_
    | refine wG_pure (e_ia_vwm rfl rfl (by omega) (by omega) rfl) ?_
    | refine wG_pure (e_ia_vwi rfl rfl (by omega) rfl) ?_
    | refine wG_pure (e_ia_vwn rfl rfl (by omega) (by omega) rfl) ?_
    | refine wG_n rfl rfl ?_
    | refine wG_u rfl rfl ?_
    | refine wG_new (o_mks rfl rfl (by omega) (by decide)) ?_)
          refine ⟨k + 1, hk2, by omega, ⟨⟨rfl, rfl⟩, ⟨rfl, rfl⟩, ⟨rfl, rfl⟩, ⟨rfl, rfl⟩, ⟨rfl, rfl⟩, ⟨rfl, rfl⟩, ⟨rfl, rfl⟩, ⟨rfl, rfl⟩, ⟨rfl, rfl⟩, ⟨rfl, rfl⟩, ⟨rfl, rfl⟩, ⟨rfl, rfl⟩, ⟨?_, rfl⟩, ⟨rfl, rfl⟩, ⟨rfl, rfl⟩, ⟨rfl, rfl⟩, trivial⟩, ⟨rfl, by show 2 < 3; decide, nD_ltr1 _⟩, ⟨rfl, by show 1 < 3; decide, ltrI _ _⟩, ⟨rfl, by show 0 < 3; decide, by simp [AV.ltr]⟩, trivial⟩
          rw [e1]; rfl
        · have e1 : untS (xs.getD i default).d (fsL xs xs.length + t) (k + 1) = untS (xs.getD i default).d (fsL xs xs.length + t) k := by rw [untS, if_neg h9]
          repeat (first
    | refine wC_a rfl ?_
    | refine q_s rfl ?_
    | refine q_b rfl ?_
    | refine wG_nil ?_
    | refine wG_g rfl ?_
    | refine wG_pure (o_len_vwm rfl) ?_
    | refine wG_pure (o_not_d rfl) ?_
    | refine wG_p rfl (by first | exact rfl | omega) ?_
    | refine wG_pure (o_str2 rfl rfl rfl) ?_
    | refine wG_pure (e_istr rfl rfl (by omega)) ?_
    | refine wG_pure (e_istr0 rfl rfl (by omega)) ?_
    | refine wG_pure (o_not rfl) ?_
    | refine wG_pure (e_ia_vw0 rfl rfl (by omega) rfl) ?_
    | refine wG_pure (e_ia_vwp rfl rfl (by omega) rfl) ?_
    | refine wG_pure (e_ia_vwm rfl rfl (by omega) (by omega) rfl) ?_
    | refine wG_pure (e_ia_vwi rfl rfl (by omega) rfl) ?_
    | refine wG_pure (e_ia_vwn rfl rfl (by omega) (by omega) rfl) ?_
    | refine wG_n rfl rfl ?_
    | refine wG_u rfl rfl ?_
    | refine wG_new (o_mks rfl rfl (by omega) (by decide)) ?_)
          refine ⟨k + 1, hk2, by omega, ⟨⟨rfl, rfl⟩, ⟨rfl, rfl⟩, ⟨rfl, rfl⟩, ⟨rfl, rfl⟩, ⟨rfl, rfl⟩, ⟨rfl, rfl⟩, ⟨rfl, rfl⟩, ⟨rfl, rfl⟩, ⟨rfl, rfl⟩, ⟨rfl, rfl⟩, ⟨rfl, rfl⟩, ⟨rfl, rfl⟩, ⟨?_, rfl⟩, ⟨rfl, rfl⟩, ⟨rfl, rfl⟩, ⟨rfl, rfl⟩, trivial⟩, ⟨rfl, by show 2 < 3; decide, nD_ltr1 _⟩, ⟨rfl, by show 1 < 3; decide, ltrI _ _⟩, ⟨rfl, by show 0 < 3; decide, by simp [AV.ltr]⟩, trivial⟩
          rw [e1]; rfl
      · have hk3 : k = (xs.getD i default).d.ws.length := by omega
        subst hk3
        rw [untS_end]
        repeat (first
    | refine wC_a rfl ?_
    | refine q_s rfl ?_
    | refine q_b rfl ?_
    | refine wG_nil ?_
    | refine wG_g rfl ?_
    | refine wG_pure (o_len_vwm rfl) ?_
    | refine wG_pure (o_not_d rfl) ?_
    | refine wG_p rfl (by first | exact rfl | omega) ?_
    | refine wG_pure (o_str2 rfl rfl rfl) ?_
    | refine wG_pure (e_istr rfl rfl (by omega)) ?_
    | refine wG_pure (e_istr0 rfl rfl (by omega)) ?_
    | refine wG_pure (o_not rfl) ?_
    | refine wG_pure (e_ia_vw0 rfl rfl (by omega) rfl) ?_
    | refine wG_pure (e_ia_vwp rfl rfl (by omega) rfl) ?_
    | refine wG_pure (e_ia_vwm rfl rfl (by omega) (by omega) rfl) ?_
    | refine wG_pure (e_ia_vwi rfl rfl (by omega) rfl) ?_
    | refine wG_pure (e_ia_vwn rfl rfl (by omega) (by omega) rfl) ?_
    | refine wG_n rfl rfl ?_
    | refine wG_u rfl rfl ?_
    | refine wG_new (o_mks rfl rfl (by omega) (by decide)) ?_)
        exact ⟨i + 1, hi5, by omega, ⟨⟨rfl, rfl⟩, ⟨rfl, rfl⟩, ⟨rfl, rfl⟩, ⟨rfl, rfl⟩, ⟨rfl, rfl⟩, ⟨rfl, rfl⟩, ⟨rfl, rfl⟩, ⟨rfl, rfl⟩, ⟨rfl, rfl⟩, ⟨rfl, rfl⟩, ⟨rfl, rfl⟩, trivial⟩, ⟨rfl, by show 1 < 2; decide, ltrI _ _⟩, ⟨rfl, by show 0 < 2; decide, by simp [AV.ltr]⟩, trivial⟩
    · have hi6 : i = xs.length := by omega
      subst hi6
      have n1 := nwL_b (fsL xs xs.length + t) xs.length hok
      repeat (first | refine wG_app rfl rfl (by rw [List.length_map, hll]) (rows_sl rfl rfl rfl) (by simp) (by simp; omega) (by decide) ?_ | (first
    | refine wC_a rfl ?_
    | refine q_s rfl ?_
    | refine q_b rfl ?_
    | refine wG_nil ?_
    | refine wG_g rfl ?_
    | refine wG_pure (o_len_vwm rfl) ?_
    | refine wG_pure (o_not_d rfl) ?_
    | refine wG_p rfl (by first | exact rfl | omega) ?_
    | refine wG_pure (o_str2 rfl rfl rfl) ?_
    | refine wG_pure (e_istr rfl rfl (by omega)) ?_
    | refine wG_pure (e_istr0 rfl rfl (by omega)) ?_
    | refine wG_pure (o_not rfl) ?_
    | refine wG_pure (e_ia_vw0 rfl rfl (by omega) rfl) ?_
    | refine wG_pure (e_ia_vwp rfl rfl (by omega) rfl) ?_
    | refine wG_pure (e_ia_vwm rfl rfl (by omega) (by omega) rfl) ?_
    | refine wG_pure (e_ia_vwi rfl rfl (by omega) rfl) ?_
    | refine wG_pure (e_ia_vwn rfl rfl (by omega) (by omega) rfl) ?_
    | refine wG_n rfl rfl ?_
    | refine wG_u rfl rfl ?_
    | refine wG_new (o_mks rfl rfl (by omega) (by decide)) ?_))
      refine ⟨t + 1, by omega, by omega, [0, 3], ?_⟩
      rw [hup]
      refine ⟨⟨⟨rfl, rfl⟩, ⟨rfl, rfl⟩, ⟨rfl, rfl⟩, ⟨rfl, rfl⟩, ⟨rfl, rfl⟩, ⟨rfl, rfl⟩, ⟨?_, rfl⟩, trivial⟩, ⟨⟨⟨_, rfl, ?_⟩, (by show 1 < 2; decide), ltrI _ _⟩, ⟨⟨_, rfl, rfl⟩, (by show 0 < 2; decide), by simp [AV.ltr]⟩, trivial⟩, rfl, by decide⟩
      · show AV.int _ _ = AV.int _ _
        congr 1
        show fsL xs xs.length + (t : Int) + 1 = _
        omega
      · rw [← rn_rows (rowsP _), List.map_append]; rfl
  · have ht3 : t = nL xs := by omega
    subst ht3
    have mb := vL_b hG (nL xs)
    have hl200 : (lG (nL xs) (gL xs)).length ≤ 200 := by rw [hll]; omega
    have hl0 : 0 < (lG (nL xs) (gL xs)).length := by rw [hll]; omega
    by_cases hk2 : mkOK (fsL xs xs.length) (scO (lG (nL xs) (gL xs)))
    · have c5 := con56_Y true (fsL xs xs.length) (lG (nL xs) (gL xs)) hl0 hl200 mb (by decide) (by decide) (by omega) (by omega) hk2
      obtain ⟨rfl, rfl, rfl⟩ := hend.1 ⟨hG, hk2⟩
      unfold mYes at c5
      repeat (first | refine wG_call1 c5 (ag_int rfl (ag_sl rfl rfl hll.symm iRow_plain ag_nil)) rfl ?_ | (first
    | refine wC_a rfl ?_
    | refine q_s rfl ?_
    | refine q_b rfl ?_
    | refine wG_nil ?_
    | refine wG_g rfl ?_
    | refine wG_pure (o_len_vwm rfl) ?_
    | refine wG_pure (o_not_d rfl) ?_
    | refine wG_p rfl (by first | exact rfl | omega) ?_
    | refine wG_pure (o_str2 rfl rfl rfl) ?_
    | refine wG_pure (e_istr rfl rfl (by omega)) ?_
    | refine wG_pure (e_istr0 rfl rfl (by omega)) ?_
    | refine wG_pure (o_not rfl) ?_
    | refine wG_pure (e_ia_vw0 rfl rfl (by omega) rfl) ?_
    | refine wG_pure (e_ia_vwp rfl rfl (by omega) rfl) ?_
    | refine wG_pure (e_ia_vwm rfl rfl (by omega) (by omega) rfl) ?_
    | refine wG_pure (e_ia_vwi rfl rfl (by omega) rfl) ?_
    | refine wG_pure (e_ia_vwn rfl rfl (by omega) (by omega) rfl) ?_
    | refine wG_n rfl rfl ?_
    | refine wG_u rfl rfl ?_
    | refine wG_new (o_mks rfl rfl (by omega) (by decide)) ?_))
      exact ret_db (.inr rfl) rfl (retV_ldt rfl rfl rfl rfl rfl) (retV_mv rfl) rfl
    · have c5 := con56_N true (fsL xs xs.length) (lG (nL xs) (gL xs)) hl0 hl200 mb (by decide) (by decide) (by omega) (by omega) hk2
      obtain ⟨rfl, rfl, rfl⟩ := hend.2 (fun h => hk2 h.2)
      unfold mNo at c5
      repeat (first | refine wG_call c5 (ag_int rfl (ag_sl rfl rfl hll.symm iRow_plain ag_nil)) rfl ?_ | (first
    | refine wC_a rfl ?_
    | refine q_s rfl ?_
    | refine q_b rfl ?_
    | refine wG_nil ?_
    | refine wG_g rfl ?_
    | refine wG_pure (o_len_vwm rfl) ?_
    | refine wG_pure (o_not_d rfl) ?_
    | refine wG_p rfl (by first | exact rfl | omega) ?_
    | refine wG_pure (o_str2 rfl rfl rfl) ?_
    | refine wG_pure (e_istr rfl rfl (by omega)) ?_
    | refine wG_pure (e_istr0 rfl rfl (by omega)) ?_
    | refine wG_pure (o_not rfl) ?_
    | refine wG_pure (e_ia_vw0 rfl rfl (by omega) rfl) ?_
    | refine wG_pure (e_ia_vwp rfl rfl (by omega) rfl) ?_
    | refine wG_pure (e_ia_vwm rfl rfl (by omega) (by omega) rfl) ?_
    | refine wG_pure (e_ia_vwi rfl rfl (by omega) rfl) ?_
    | refine wG_pure (e_ia_vwn rfl rfl (by omega) (by omega) rfl) ?_
    | refine wG_n rfl rfl ?_
    | refine wG_u rfl rfl ?_
    | refine wG_new (o_mks rfl rfl (by omega) (by decide)) ?_))
      exact ret_d0 (.inr rfl) rfl (retV_ldt rfl rfl rfl rfl rfl) (retV_mv rfl)
theorem diL (xs : List Dn) (h3 : xs.length ≤ 1048576) (hL : LenN xs 1048576) : (∃ (f : Int) (vs : List Int), vs.length ≤ 60 ∧ Con Try.prog 17 true [.vw true (xs.map nD)] (.tup [.agg [.int .i64 f, .sl 0 1 0 vs.length], .bool true]) [vs.map iRow] ∧ Con Try.prog 19 true [.vw true (xs.map nD)] (.tup [.agg [.int .i64 f, .sl 0 1 0 vs.length], .bool true]) [vs.map iRow]) ∨ (Con Try.prog 17 true [.vw true (xs.map nD)] (.tup [.agg [.int .i64 0, .nilS], .bool false]) [] ∧ Con Try.prog 19 true [.vw true (xs.map nD)] (.tup [.agg [.int .i64 0, .nilS], .bool false]) []) := by
  classical
  by_cases hm : GoodL xs ∧ mkOK (fsL xs xs.length) (scO (lG (nL xs) (gL xs)))
  · exact .inl ⟨_, _, hm.2.2.1.2, con17_all true xs h3 hL _ [3] _ rfl (plain_map iRow_plain _) ⟨fun _ => ⟨rfl, rfl, rfl⟩, fun hn => absurd hm hn⟩, con19_all true xs h3 hL _ [2] _ rfl (plain_map iRow_plain _) ⟨fun _ => ⟨rfl, rfl, rfl⟩, fun hn => absurd hm hn⟩⟩
  · exact .inr ⟨con17_all true xs h3 hL _ [] _ rfl plain_nil ⟨fun hy => absurd hy hm, fun _ => ⟨rfl, rfl, rfl⟩⟩, con19_all true xs h3 hL _ [] _ rfl plain_nil ⟨fun hy => absurd hy hm, fun _ => ⟨rfl, rfl, rfl⟩⟩⟩
end Go.Proofs.Ytnohaclnpbpjbaa.Dst
