/- Weights of lists of boundaries: both sides. -/
import Derived.Test.YtnohaclnpbpjbaaPmF
namespace Go.Proofs.Ytnohaclnpbpjbaa.Dst
open Go Go.Proofs.Ytnohaclnpbpjbaa.Ab Go.Proofs.Ytnohaclnpbpjbaa.Il
attribute [local irreducible] wpO wpC wpDr wpQ wpG wpE stepA seqQ blkQ Ret RetG ev
set_option maxRecDepth 10000
set_option maxHeartbeats 8000000
set_option linter.unusedSimpArgs false
set_option linter.unusedVariables false

def ac66 : AC := (.seq (.reg [⟨(some 3), none, (.box 4 true (.t 0))⟩, ⟨(some 6), none, (.mv (.c (.int .i64 0)))⟩]) (.seq (.reg [⟨(some 7), none, (.mv (.c (.int .i64 1)))⟩]) (.seq (.seq (.reg [⟨(some 10), none, (.fa 3 (.t 3))⟩, ⟨(some 11), none, (.ld false 1 (.t 10))⟩, ⟨(some 12), none, (.len (.t 11))⟩, ⟨(some 13), none, (.mv (.c (.int .i64 0)))⟩]) (.blk 0 (.loop (.seq (.reg [⟨(some 14), none, (.bin .lss (.t 13) (.t 12))⟩]) (.seq (.cond (.t 14) .skip (.exit 0)) (.seq (.blk 1 (.seq (.reg [⟨(some 15), none, (.mv (.t 13))⟩, ⟨(some 16), none, (.ia 4 (.t 11) (.t 13))⟩, ⟨(some 17), none, (.ld true 4 (.t 16))⟩, ⟨(some 9), none, (.alloc [(.int .i64 0), (.int .i64 0), .nilS, (.int .i64 0)])⟩, ⟨(some 8), none, (.mv (.t 15))⟩, ⟨none, none, (.st 4 (.t 9) (.t 17))⟩]) (.seq (.reg [⟨(some 18), none, (.mv (.t 8))⟩, ⟨(some 19), none, (.mv (.t 2))⟩, ⟨(some 20), none, (.bin .neq (.t 18) (.t 19))⟩]) (.cond (.t 20) (.dreg [⟨(some 21), none, (.mv (.t 7))⟩, ⟨(some 22), none, (.ld true 4 (.t 3))⟩, ⟨(some 23), none, (.ld true 4 (.t 9))⟩, ⟨(some 24), none, (.mv (.t 1))⟩, ⟨(some 25), none, (.fa 0 (.t 9))⟩, ⟨(some 26), none, (.ld false 1 (.t 25))⟩, ⟨(some 27), none, (.ia 1 (.t 24) (.t 26))⟩, ⟨(some 28), none, (.ld false 1 (.t 27))⟩, ⟨(some 29), none, (.mv (.t 1))⟩, ⟨(some 30), none, (.fa 0 (.t 9))⟩, ⟨(some 31), none, (.ld false 1 (.t 30))⟩, ⟨(some 32), none, (.bin .add (.t 31) (.c (.int .i64 1)))⟩, ⟨(some 33), none, (.ia 1 (.t 29) (.t 32))⟩, ⟨(some 34), none, (.ld false 1 (.t 33))⟩, ⟨(some 35), none, (.build [(.bool false), (.bool false)] [(0, (1, (.c (.bool true)))), (1, (1, (.c (.bool true))))])⟩, ⟨(some 36), none, (.call 70 [(.t 22), (.t 23), (.t 28), (.t 34), (.t 35)])⟩, ⟨(some 37), none, (.bin .mul (.t 21) (.t 36))⟩, ⟨(some 7), none, (.mv (.t 37))⟩] [[], [], [], [], [], [4], [3, 4, 5], [3, 4, 5, 6], [], [], [9], [9, 10], [8, 9, 10, 11], [8, 9, 10, 11, 12], [], [1, 2, 3, 4, 5, 6, 7, 8, 9, 10, 11, 12, 13, 14], [0, 1, 2, 3, 4, 5, 6, 7, 8, 9, 10, 11, 12, 13, 14, 15], [0, 1, 2, 3, 4, 5, 6, 7, 8, 9, 10, 11, 12, 13, 14, 15, 16]]) .skip)))) (.reg [⟨(some 38), none, (.bin .add (.t 13) (.c (.int .i64 1)))⟩, ⟨(some 13), none, (.mv (.t 38))⟩]))))))) (.seq (.reg [⟨(some 39), none, (.mv (.t 7))⟩, ⟨(some 6), none, (.mv (.t 39))⟩]) .ret))))
def ro66 : List AOp := [(.mv (.t 6))]
theorem fun66 : Fun Try.prog 66 40 ac66 ro66 := ⟨Try.f66, _, Try.func66, by kernel_rfl, rfl, rfl, by kernel_rfl, by kernel_rfl, by decide⟩
def ac70 : AC := (.seq (.reg [⟨(some 5), none, (.box 4 true (.t 0))⟩, ⟨(some 6), none, (.box 4 true (.t 1))⟩, ⟨(some 9), none, (.box 2 true (.t 4))⟩, ⟨(some 10), none, (.mv (.c (.int .i64 0)))⟩]) (.seq (.reg [⟨(some 11), none, (.mv (.c (.int .i64 0)))⟩]) (.seq (.seq (.reg [⟨(some 13), none, (.mv (.t 2))⟩, ⟨(some 12), none, (.mv (.t 13))⟩]) (.blk 0 (.loop (.seq (.seq (.reg [⟨(some 14), none, (.mv (.t 12))⟩, ⟨(some 15), none, (.mv (.t 3))⟩, ⟨(some 16), none, (.bin .leq (.t 14) (.t 15))⟩]) (.cond (.t 16) .skip (.exit 0))) (.seq (.blk 1 (.reg [⟨(some 19), none, (.mv (.t 11))⟩, ⟨(some 20), none, (.ld true 4 (.t 5))⟩, ⟨(some 21), none, (.ld true 4 (.t 6))⟩, ⟨(some 22), none, (.mv (.t 12))⟩, ⟨(some 23), none, (.ld true 2 (.t 9))⟩, ⟨(some 24), none, (.call 79 [(.t 20), (.t 21), (.t 22), (.t 23)])⟩, ⟨(some 25), none, (.bin .add (.t 19) (.t 24))⟩, ⟨(some 11), none, (.mv (.t 25))⟩])) (.reg [⟨(some 17), none, (.mv (.t 12))⟩, ⟨(some 18), none, (.bin .add (.t 17) (.c (.int .i64 1)))⟩, ⟨(some 12), none, (.mv (.t 18))⟩])))))) (.seq (.reg [⟨(some 26), none, (.mv (.t 11))⟩, ⟨(some 10), none, (.mv (.t 26))⟩]) .ret))))
def ro70 : List AOp := [(.mv (.t 10))]
theorem fun70 : Fun Try.prog 70 27 ac70 ro70 := ⟨Try.f70, _, Try.func70, by kernel_rfl, rfl, rfl, by kernel_rfl, by kernel_rfl, by decide⟩
def ac74 : AC := (.seq (.reg [⟨(some 4), none, (.box 4 true (.t 0))⟩, ⟨(some 8), none, (.mv (.c (.int .i64 0)))⟩]) (.seq (.reg [⟨(some 9), none, (.mv (.c (.int .i64 1)))⟩]) (.seq (.seq (.reg [⟨(some 10), none, (.mv (.c (.int .i64 0)))⟩]) (.blk 0 (.loop (.seq (.seq (.reg [⟨(some 12), none, (.mv (.t 10))⟩, ⟨(some 13), none, (.mv (.t 1))⟩, ⟨(some 14), none, (.len (.t 13))⟩, ⟨(some 15), none, (.bin .lss (.t 12) (.t 14))⟩]) (.cond (.t 15) .skip (.exit 0))) (.seq (.blk 1 (.seq (.reg [⟨(some 18), none, (.mv (.t 10))⟩, ⟨(some 19), none, (.mv (.t 3))⟩, ⟨(some 20), none, (.bin .neq (.t 18) (.t 19))⟩]) (.cond (.t 20) (.seq (.reg [⟨(some 21), none, (.fa 3 (.t 4))⟩, ⟨(some 22), none, (.ld false 1 (.t 21))⟩, ⟨(some 23), none, (.mv (.t 10))⟩, ⟨(some 24), none, (.ia 4 (.t 22) (.t 23))⟩, ⟨(some 25), none, (.fa 0 (.t 24))⟩, ⟨(some 26), none, (.ld false 1 (.t 25))⟩, ⟨(some 11), none, (.mv (.t 26))⟩]) (.dreg [⟨(some 27), none, (.mv (.t 9))⟩, ⟨(some 28), none, (.mv (.t 1))⟩, ⟨(some 29), none, (.mv (.t 10))⟩, ⟨(some 30), none, (.ia 1 (.t 28) (.t 29))⟩, ⟨(some 31), none, (.ld false 1 (.t 30))⟩, ⟨(some 32), none, (.mv (.t 2))⟩, ⟨(some 33), none, (.mv (.t 11))⟩, ⟨(some 34), none, (.ia 1 (.t 32) (.t 33))⟩, ⟨(some 35), none, (.ld false 1 (.t 34))⟩, ⟨(some 36), none, (.mv (.t 2))⟩, ⟨(some 37), none, (.mv (.t 11))⟩, ⟨(some 38), none, (.bin .add (.t 37) (.c (.int .i64 1)))⟩, ⟨(some 39), none, (.ia 1 (.t 36) (.t 38))⟩, ⟨(some 40), none, (.ld false 1 (.t 39))⟩, ⟨(some 41), none, (.bin .add (.t 40) (.c (.int .i64 1)))⟩, ⟨(some 42), none, (.slc 1 (.t 31) (some (.t 35)) (some (.t 41)))⟩, ⟨(some 43), none, (.call 49 [(.t 42)])⟩, ⟨(some 44), none, (.bin .mul (.t 27) (.t 43))⟩, ⟨(some 9), none, (.mv (.t 44))⟩] [[], [], [], [1, 2], [1, 2, 3], [], [], [5, 6], [5, 6, 7], [], [], [10], [9, 10, 11], [9, 10, 11, 12], [9, 10, 11, 12, 13], [1, 2, 3, 4, 5, 6, 7, 8, 9, 10, 11, 12, 13, 14], [1, 2, 3, 4, 5, 6, 7, 8, 9, 10, 11, 12, 13, 14, 15], [0, 1, 2, 3, 4, 5, 6, 7, 8, 9, 10, 11, 12, 13, 14, 15, 16], [0, 1, 2, 3, 4, 5, 6, 7, 8, 9, 10, 11, 12, 13, 14, 15, 16, 17]])) .skip))) (.reg [⟨(some 16), none, (.mv (.t 10))⟩, ⟨(some 17), none, (.bin .add (.t 16) (.c (.int .i64 1)))⟩, ⟨(some 10), none, (.mv (.t 17))⟩])))))) (.seq (.reg [⟨(some 45), none, (.mv (.t 9))⟩, ⟨(some 8), none, (.mv (.t 45))⟩]) .ret))))
def ro74 : List AOp := [(.mv (.t 8))]
theorem fun74 : Fun Try.prog 74 46 ac74 ro74 := ⟨Try.f74, _, Try.func74, by kernel_rfl, rfl, rfl, by kernel_rfl, by kernel_rfl, by decide⟩
def ac79 : AC := (.seq (.reg [⟨(some 4), none, (.box 4 true (.t 0))⟩, ⟨(some 5), none, (.box 4 true (.t 1))⟩, ⟨(some 7), none, (.box 2 true (.t 3))⟩, ⟨(some 8), none, (.mv (.c (.int .i64 0)))⟩]) (.seq (.reg [⟨(some 9), none, (.mv (.c (.int .i64 0)))⟩]) (.seq (.seq (.reg [⟨(some 10), none, (.fa 0 (.t 7))⟩, ⟨(some 11), none, (.ld false 1 (.t 10))⟩]) (.cond (.t 11) (.dreg [⟨(some 12), none, (.mv (.t 9))⟩, ⟨(some 13), none, (.fa 3 (.t 5))⟩, ⟨(some 14), none, (.ld false 1 (.t 13))⟩, ⟨(some 15), none, (.bin .sub (.c (.int .i64 100)) (.t 14))⟩, ⟨(some 16), none, (.fa 1 (.t 4))⟩, ⟨(some 17), none, (.ld false 1 (.t 16))⟩, ⟨(some 18), none, (.bin .mul (.t 15) (.t 17))⟩, ⟨(some 19), none, (.fa 1 (.t 5))⟩, ⟨(some 20), none, (.ld true 2 (.t 19))⟩, ⟨(some 21), none, (.fa 0 (.t 4))⟩, ⟨(some 22), none, (.ld false 1 (.t 21))⟩, ⟨(some 23), none, (.mv (.t 2))⟩, ⟨(some 24), none, (.bin .add (.t 22) (.t 23))⟩, ⟨(some 25), none, (.call 99 [(.t 20), (.t 24)])⟩, ⟨(some 26), none, (.bin .mul (.t 18) (.t 25))⟩, ⟨(some 27), none, (.bin .add (.t 12) (.t 26))⟩, ⟨(some 9), none, (.mv (.t 27))⟩] [[], [], [1], [1, 2], [], [4], [1, 2, 3, 4, 5], [], [7], [], [9], [], [9, 10, 11], [7, 8, 9, 10, 11, 12], [1, 2, 3, 4, 5, 6, 7, 8, 9, 10, 11, 12, 13], [0, 1, 2, 3, 4, 5, 6, 7, 8, 9, 10, 11, 12, 13, 14], [0, 1, 2, 3, 4, 5, 6, 7, 8, 9, 10, 11, 12, 13, 14, 15]]) .skip)) (.seq (.seq (.reg [⟨(some 28), none, (.fa 1 (.t 7))⟩, ⟨(some 29), none, (.ld false 1 (.t 28))⟩]) (.cond (.t 29) (.dreg [⟨(some 30), none, (.mv (.t 9))⟩, ⟨(some 31), none, (.fa 3 (.t 5))⟩, ⟨(some 32), none, (.ld false 1 (.t 31))⟩, ⟨(some 33), none, (.fa 1 (.t 5))⟩, ⟨(some 34), none, (.ld true 2 (.t 33))⟩, ⟨(some 35), none, (.call 44 [(.t 34)])⟩, ⟨(some 36), none, (.bin .mul (.t 32) (.t 35))⟩, ⟨(some 37), none, (.bin .add (.t 30) (.t 36))⟩, ⟨(some 9), none, (.mv (.t 37))⟩] [[], [], [1], [], [3], [3, 4], [1, 2, 3, 4, 5], [0, 1, 2, 3, 4, 5, 6], [0, 1, 2, 3, 4, 5, 6, 7]]) .skip)) (.seq (.reg [⟨(some 38), none, (.mv (.t 9))⟩, ⟨(some 8), none, (.mv (.t 38))⟩]) .ret)))))
def ro79 : List AOp := [(.mv (.t 8))]
theorem fun79 : Fun Try.prog 79 39 ac79 ro79 := ⟨Try.f79, _, Try.func79, by kernel_rfl, rfl, rfl, by kernel_rfl, by kernel_rfl, by decide⟩

def nRow (u : Nat) : List AV := iRow (u : Int)
theorem cb (b : List Nat) : (ci b).map iRow = b.map nRow := by rw [ci, List.map_map]; rfl
theorem ew_fac {m : Md} {xs : List Ev} (hG : GoodM m xs) {i : Nat} (hi : i < xs.length) (q : Bool) (y : Nat) : 0 ≤ ew m (xs.getD i default) q y ∧ ew m (xs.getD i default) q y ≤ fac m.y (xs.getD i default) := by
  have hY := hG.1
  obtain ⟨g1, g2, g3, _⟩ := hG.2.2.2.2 i hi
  have := sp_fac (m := m) hY.1 g2 g3 q y 1 (by omega)
  have e : sp (ew m (xs.getD i default) q) y 1 = 0 + ew m (xs.getD i default) q y := rfl
  rw [e] at this
  omega
theorem con74 (c nn nb : Bool) (m : Md) (xs : List Ev) (hG : GoodM m xs) (k : Int) (b : List Nat) (hb : GoodB m.y.toNat (m.p.toNat + 1) b) (skip : Int) : Con Try.prog 74 true [.agg (mdR c m xs), .vw nn ((pL m xs k xs.length).map nI), .vw nb (b.map nRow), .int .i64 skip] (.int .i64 (lw xs (gE m xs k) b skip xs.length)) [] := by
  refine con_of_wp mixed fun74 (by simp) [] plain_nil ?_
  unfold ac74 ro74
  simp only [zipT]
  have hn4 := hG.2.2.2.1
  have hY := hG.1
  have hpl := pL_len m xs k xs.length
  have hbl := hb.len
  have hPb := hG.2.2.1
  repeat (first
    | refine wC_a rfl ?_
    | refine q_s rfl ?_
    | refine q_b rfl ?_
    | refine wG_nil ?_
    | refine wG_g rfl ?_
    | refine wG_pure (o_len_vwm rfl) ?_
    | refine wG_pure (o_not_d rfl) ?_
    | refine wG_p rfl (by first | exact rfl | omega) ?_
    | refine wG_pure (o_str2 rfl rfl rfl) ?_
    | refine wG_pure (e_istr rfl rfl (by omega)) ?_
    | refine wG_pure (e_istr0 rfl rfl (by omega)) ?_
    | refine wG_pure (o_not rfl) ?_
    | refine wG_pure (e_ia_vw0 rfl rfl (by omega) rfl) ?_
    | refine wG_pure (e_ia_vwp rfl rfl (by omega) rfl) ?_
    | refine wG_pure (e_ia_vwm rfl rfl (by omega) (by omega) rfl) ?_
    | refine wG_pure (e_ia_vwi rfl rfl (by omega) rfl) ?_
    | refine wG_pure (e_ia_vwn rfl rfl (by omega) (by omega) rfl) ?_
    | refine wG_n rfl rfl ?_
    | refine wG_u rfl rfl ?_
    | refine wG_new (o_mks rfl rfl (by omega) (by decide)) ?_)
  refine wC_loop Nat (fun i => ⟨[(1, .vw nn ((pL m xs k xs.length).map nI)), (2, .vw nb (b.map nRow)), (3, .int .i64 skip), (4, .pt 0 0 0), (9, .int .i64 (lw xs (gE m xs k) b skip i)), (10, .int .i64 (i : Int))], [(0, some [mdR c m xs])], 1⟩) (fun i => i ≤ xs.length) (fun i => xs.length - i) 0 (Nat.zero_le _) ?_ (fun _ _ => Nat.zero_le _) ?_
  · exact ⟨⟨⟨rfl, rfl⟩, ⟨rfl, rfl⟩, ⟨rfl, rfl⟩, ⟨rfl, rfl⟩, ⟨rfl, rfl⟩, ⟨rfl, rfl⟩, trivial⟩, ⟨rfl, by show 0 < 1; decide, mdR_ltr1' _⟩, trivial⟩
  intro i hi
  repeat (first
    | refine wC_a rfl ?_
    | refine q_s rfl ?_
    | refine q_b rfl ?_
    | refine wG_nil ?_
    | refine wG_g rfl ?_
    | refine wG_pure (o_len_vwm rfl) ?_
    | refine wG_pure (o_not_d rfl) ?_
    | refine wG_p rfl (by first | exact rfl | omega) ?_
    | refine wG_pure (o_str2 rfl rfl rfl) ?_
    | refine wG_pure (e_istr rfl rfl (by omega)) ?_
    | refine wG_pure (e_istr0 rfl rfl (by omega)) ?_
    | refine wG_pure (o_not rfl) ?_
    | refine wG_pure (e_ia_vw0 rfl rfl (by omega) rfl) ?_
    | refine wG_pure (e_ia_vwp rfl rfl (by omega) rfl) ?_
    | refine wG_pure (e_ia_vwm rfl rfl (by omega) (by omega) rfl) ?_
    | refine wG_pure (e_ia_vwi rfl rfl (by omega) rfl) ?_
    | refine wG_pure (e_ia_vwn rfl rfl (by omega) (by omega) rfl) ?_
    | refine wG_n rfl rfl ?_
    | refine wG_u rfl rfl ?_
    | refine wG_new (o_mks rfl rfl (by omega) (by decide)) ?_)
  refine wC_cond_d rfl (fun h5 => ?_) (fun h5 => ?_)
  · have hi2 : i < xs.length := by omega
    repeat (first
    | refine wC_a rfl ?_
    | refine q_s rfl ?_
    | refine q_b rfl ?_
    | refine wG_nil ?_
    | refine wG_g rfl ?_
    | refine wG_pure (o_len_vwm rfl) ?_
    | refine wG_pure (o_not_d rfl) ?_
    | refine wG_p rfl (by first | exact rfl | omega) ?_
    | refine wG_pure (o_str2 rfl rfl rfl) ?_
    | refine wG_pure (e_istr rfl rfl (by omega)) ?_
    | refine wG_pure (e_istr0 rfl rfl (by omega)) ?_
    | refine wG_pure (o_not rfl) ?_
    | refine wG_pure (e_ia_vw0 rfl rfl (by omega) rfl) ?_
    | refine wG_pure (e_ia_vwp rfl rfl (by omega) rfl) ?_
    | refine wG_pure (e_ia_vwm rfl rfl (by omega) (by omega) rfl) ?_
    | refine wG_pure (e_ia_vwi rfl rfl (by omega) rfl) ?_
    | refine wG_pure (e_ia_vwn rfl rfl (by omega) (by omega) rfl) ?_
    | refine wG_n rfl rfl ?_
    | refine wG_u rfl rfl ?_
    | refine wG_new (o_mks rfl rfl (by omega) (by decide)) ?_)
    refine wC_cond_d rfl (fun h6 => ?_) (fun h6 => ?_)
    · obtain ⟨a1, a2, a3, a4⟩ := b_in hG hb hi2
      have hf := fac_b (x := xs.getD i default) hY (hG.2.2.2.2 i hi2).2.1
      have l1 := lw_15 hG hb k skip (i := i + 1) hi2
      have l0 := lw_15 hG hb k skip (i := i) (by omega)
      have s1 := spn_b hG hb hi2 k
      have hup : lw xs (gE m xs k) b skip (i + 1) = lw xs (gE m xs k) b skip i * spn xs (gE m xs k) b i := if_pos h6
      rw [hup] at l1
      have hpg := pL_get (m := m) (xs := xs) (k := k) hi2
      have hll : (lG m.y.toNat (gE m xs k i)).length = m.y.toNat := lG_len _ _
      have cS : Con Try.prog 49 true [.vw true ((((lG m.y.toNat (gE m xs k i)).drop (gN b (pE xs i))).take (gN b (pE xs i + 1) + 1 - gN b (pE xs i))).map iRow)] (.int .i64 (spn xs (gE m xs k) b i)) [] := by
        have hlen : (((lG m.y.toNat (gE m xs k i)).drop (gN b (pE xs i))).take (gN b (pE xs i + 1) + 1 - gN b (pE xs i))).length = gN b (pE xs i + 1) + 1 - gN b (pE xs i) := by
          rw [List.length_take, List.length_drop, lG_len]; omega
        have := con49 true (((lG m.y.toNat (gE m xs k i)).drop (gN b (pE xs i))).take (gN b (pE xs i + 1) + 1 - gN b (pE xs i))) (by omega) (B := 120000000000) (fun j hj => by
          rw [hlen] at hj
          rw [sl_get hj, lG_get (by omega)]
          have := ew_fac hG hi2 (decide ((i : Int) = k)) (gN b (pE xs i) + j)
          exact ⟨this.1, by unfold gE; omega⟩) (by decide) (by omega)
        rw [hlen, sm_sl (by omega) _ (Nat.le_refl _)] at this
        exact this
      have hP : ((xs.getD i default).p) = ((pE xs i : Nat) : Int) := a4
      generalize hA : pE xs i = A at *
      have gA : b.getD A default = gN b A := rfl
      have eA1 : ((A : Int) + 1).toNat = A + 1 := by omega
      have gA1 : b.getD (A + 1) default = gN b (A + 1) := rfl
      repeat (first
    | refine wC_a rfl ?_
    | refine q_s rfl ?_
    | refine q_b rfl ?_
    | refine wG_nil ?_
    | refine wG_g rfl ?_
    | refine wG_pure (o_len_vwm rfl) ?_
    | refine wG_pure (o_not_d rfl) ?_
    | refine wG_p rfl (by first | exact rfl | omega) ?_
    | refine wG_pure (o_str2 rfl rfl rfl) ?_
    | refine wG_pure (e_istr rfl rfl (by omega)) ?_
    | refine wG_pure (e_istr0 rfl rfl (by omega)) ?_
    | refine wG_pure (o_not rfl) ?_
    | refine wG_pure (e_ia_vw0 rfl rfl (by omega) rfl) ?_
    | refine wG_pure (e_ia_vwp rfl rfl (by omega) rfl) ?_
    | refine wG_pure (e_ia_vwm rfl rfl (by omega) (by omega) rfl) ?_
    | refine wG_pure (e_ia_vwi rfl rfl (by omega) rfl) ?_
    | refine wG_pure (e_ia_vwn rfl rfl (by omega) (by omega) rfl) ?_
    | refine wG_n rfl rfl ?_
    | refine wG_u rfl rfl ?_
    | refine wG_new (o_mks rfl rfl (by omega) (by decide)) ?_)
      simp only [hP, hpg, Int.toNat_natCast, gA]
      repeat (first
    | refine wC_a rfl ?_
    | refine q_s rfl ?_
    | refine q_b rfl ?_
    | refine wG_nil ?_
    | refine wG_g rfl ?_
    | refine wG_pure (o_len_vwm rfl) ?_
    | refine wG_pure (o_not_d rfl) ?_
    | refine wG_p rfl (by first | exact rfl | omega) ?_
    | refine wG_pure (o_str2 rfl rfl rfl) ?_
    | refine wG_pure (e_istr rfl rfl (by omega)) ?_
    | refine wG_pure (e_istr0 rfl rfl (by omega)) ?_
    | refine wG_pure (o_not rfl) ?_
    | refine wG_pure (e_ia_vw0 rfl rfl (by omega) rfl) ?_
    | refine wG_pure (e_ia_vwp rfl rfl (by omega) rfl) ?_
    | refine wG_pure (e_ia_vwm rfl rfl (by omega) (by omega) rfl) ?_
    | refine wG_pure (e_ia_vwi rfl rfl (by omega) rfl) ?_
    | refine wG_pure (e_ia_vwn rfl rfl (by omega) (by omega) rfl) ?_
    | refine wG_n rfl rfl ?_
    | refine wG_u rfl rfl ?_
    | refine wG_new (o_mks rfl rfl (by omega) (by decide)) ?_)
      simp only [eA1, gA1]
      repeat (first | refine wE_call cS rfl rfl rfl ?_ | refine wG_call cS rfl rfl ?_ | refine wG_pure (o_slc_m (l := gN b A) (h := gN b (A + 1) + 1) rfl (bd_i rfl) (bd_i (n := gN b (A + 1) + 1) rfl) (by omega) (by rw [lG_len]; omega) (okI _)) ?_ | (first
    | refine wC_a rfl ?_
    | refine q_s rfl ?_
    | refine q_b rfl ?_
    | refine wG_nil ?_
    | refine wG_g rfl ?_
    | refine wG_pure (o_len_vwm rfl) ?_
    | refine wG_pure (o_not_d rfl) ?_
    | refine wG_p rfl (by first | exact rfl | omega) ?_
    | refine wG_pure (o_str2 rfl rfl rfl) ?_
    | refine wG_pure (e_istr rfl rfl (by omega)) ?_
    | refine wG_pure (e_istr0 rfl rfl (by omega)) ?_
    | refine wG_pure (o_not rfl) ?_
    | refine wG_pure (e_ia_vw0 rfl rfl (by omega) rfl) ?_
    | refine wG_pure (e_ia_vwp rfl rfl (by omega) rfl) ?_
    | refine wG_pure (e_ia_vwm rfl rfl (by omega) (by omega) rfl) ?_
    | refine wG_pure (e_ia_vwi rfl rfl (by omega) rfl) ?_
    | refine wG_pure (e_ia_vwn rfl rfl (by omega) (by omega) rfl) ?_
    | refine wG_n rfl rfl ?_
    | refine wG_u rfl rfl ?_
    | refine wG_new (o_mks rfl rfl (by omega) (by decide)) ?_) | (first
    | refine wE_nil (by kernel_rfl) ?_
    | refine wE_gy rfl ?_
    | refine wE_gn rfl rfl rfl ?_
    | refine wE_gu rfl rfl ?_
    | refine wE_gnn rfl rfl rfl ?_
    | refine wE_v (o_len_vwm rfl) rfl ?_
    | refine wE_v (o_not_d rfl) rfl ?_
    | refine wE_p rfl (by first | exact rfl | omega) rfl ?_
    | refine wE_v (o_str2 rfl rfl rfl) rfl ?_
    | refine wE_v (e_istr rfl rfl (by omega)) rfl ?_
    | refine wE_v (e_istr0 rfl rfl (by omega)) rfl ?_
    | refine wE_v (o_not rfl) rfl ?_
    | refine wE_v (e_ia_vw0 rfl rfl (by omega) rfl) rfl ?_
    | refine wE_v (e_ia_vwp rfl rfl (by omega) rfl) rfl ?_
    | refine wE_v (e_ia_vwm rfl rfl (by omega) (by omega) rfl) rfl ?_
    | refine wE_v (e_ia_vwi rfl rfl (by omega) rfl) rfl ?_
    | refine wE_v (e_ia_vwn rfl rfl (by omega) (by omega) rfl) rfl ?_
    | refine wE_n rfl rfl rfl ?_
    | refine wE_u rfl rfl rfl ?_
    | refine wE_new (o_mks rfl rfl (by omega) (by decide)) rfl ?_))
      refine ⟨i + 1, hi2, by omega, ⟨⟨rfl, rfl⟩, ⟨rfl, rfl⟩, ⟨rfl, rfl⟩, ⟨rfl, rfl⟩, ⟨?_, rfl⟩, ⟨rfl, rfl⟩, trivial⟩, ⟨rfl, by show 0 < 1; decide, mdR_ltr1' _⟩, trivial⟩
      rw [hup]; rfl
    · have hup : lw xs (gE m xs k) b skip (i + 1) = lw xs (gE m xs k) b skip i := if_neg h6
      repeat (first
    | refine wC_a rfl ?_
    | refine q_s rfl ?_
    | refine q_b rfl ?_
    | refine wG_nil ?_
    | refine wG_g rfl ?_
    | refine wG_pure (o_len_vwm rfl) ?_
    | refine wG_pure (o_not_d rfl) ?_
    | refine wG_p rfl (by first | exact rfl | omega) ?_
    | refine wG_pure (o_str2 rfl rfl rfl) ?_
    | refine wG_pure (e_istr rfl rfl (by omega)) ?_
    | refine wG_pure (e_istr0 rfl rfl (by omega)) ?_
    | refine wG_pure (o_not rfl) ?_
    | refine wG_pure (e_ia_vw0 rfl rfl (by omega) rfl) ?_
    | refine wG_pure (e_ia_vwp rfl rfl (by omega) rfl) ?_
    | refine wG_pure (e_ia_vwm rfl rfl (by omega) (by omega) rfl) ?_
    | refine wG_pure (e_ia_vwi rfl rfl (by omega) rfl) ?_
    | refine wG_pure (e_ia_vwn rfl rfl (by omega) (by omega) rfl) ?_
    | refine wG_n rfl rfl ?_
    | refine wG_u rfl rfl ?_
    | refine wG_new (o_mks rfl rfl (by omega) (by decide)) ?_)
      refine ⟨i + 1, hi2, by omega, ⟨⟨rfl, rfl⟩, ⟨rfl, rfl⟩, ⟨rfl, rfl⟩, ⟨rfl, rfl⟩, ⟨?_, rfl⟩, ⟨rfl, rfl⟩, trivial⟩, ⟨rfl, by show 0 < 1; decide, mdR_ltr1' _⟩, trivial⟩
      rw [hup]; rfl
  · have hi3 : i = xs.length := by omega
    subst hi3
    repeat (first
    | refine wC_a rfl ?_
    | refine q_s rfl ?_
    | refine q_b rfl ?_
    | refine wG_nil ?_
    | refine wG_g rfl ?_
    | refine wG_pure (o_len_vwm rfl) ?_
    | refine wG_pure (o_not_d rfl) ?_
    | refine wG_p rfl (by first | exact rfl | omega) ?_
    | refine wG_pure (o_str2 rfl rfl rfl) ?_
    | refine wG_pure (e_istr rfl rfl (by omega)) ?_
    | refine wG_pure (e_istr0 rfl rfl (by omega)) ?_
    | refine wG_pure (o_not rfl) ?_
    | refine wG_pure (e_ia_vw0 rfl rfl (by omega) rfl) ?_
    | refine wG_pure (e_ia_vwp rfl rfl (by omega) rfl) ?_
    | refine wG_pure (e_ia_vwm rfl rfl (by omega) (by omega) rfl) ?_
    | refine wG_pure (e_ia_vwi rfl rfl (by omega) rfl) ?_
    | refine wG_pure (e_ia_vwn rfl rfl (by omega) (by omega) rfl) ?_
    | refine wG_n rfl rfl ?_
    | refine wG_u rfl rfl ?_
    | refine wG_new (o_mks rfl rfl (by omega) (by decide)) ?_)
    exact ret_intE (.inr rfl) ⟨_, retV_mv rfl, rfl⟩

/-! ### The implementation -/
theorem con79 (c : Bool) (m : Md) (xs : List Ev) (hG : GoodM m xs) {i : Nat} (hi : i < xs.length) (q : Bool) (y : Nat) (hy : y < m.y.toNat) : Con Try.prog 79 true [.agg (mdR c m xs), .agg (nE (xs.getD i default)), .int .i64 (y : Int), .agg [.bool (!q), .bool true]] (.int .i64 (ew m (xs.getD i default) q y)) [] := by
  refine con_of_wp mixed fun79 (by simp) [] plain_nil ?_
  unfold ac79 ro79
  simp only [zipT]
  have hY := hG.1
  have hf := hG.2.1
  obtain ⟨g1, g2, g3, _⟩ := hG.2.2.2.2 i hi
  have hT := g2.total_b
  have hat := g2.at_b (m.f + y)
  have m1 := mulB (X := 100) g3 hT
  have m2 := mulB (x := 100 - (xs.getD i default).o) (X := 100) (y := m.y) (Y := 20) ⟨by omega, by omega⟩ ⟨by omega, by omega⟩
  have m3 := mulB (X := 2000) m2 hat
  have c1 := con99 (xs.getD i default).b (xs.getD i default).d g2 (m.f + y)
  have c2 := con44 (xs.getD i default).b (xs.getD i default).d g2
  cases q
  · simp only [Bool.not_false]
    repeat (first | refine wC_dregE ?_ | refine wE_call c1 rfl rfl rfl ?_ | refine wE_call c2 rfl rfl rfl ?_ | (first
    | refine wC_a rfl ?_
    | refine q_s rfl ?_
    | refine q_b rfl ?_
    | refine wG_nil ?_
    | refine wG_g rfl ?_
    | refine wG_pure (o_len_vwm rfl) ?_
    | refine wG_pure (o_not_d rfl) ?_
    | refine wG_p rfl (by first | exact rfl | omega) ?_
    | refine wG_pure (o_str2 rfl rfl rfl) ?_
    | refine wG_pure (e_istr rfl rfl (by omega)) ?_
    | refine wG_pure (e_istr0 rfl rfl (by omega)) ?_
    | refine wG_pure (o_not rfl) ?_
    | refine wG_pure (e_ia_vw0 rfl rfl (by omega) rfl) ?_
    | refine wG_pure (e_ia_vwp rfl rfl (by omega) rfl) ?_
    | refine wG_pure (e_ia_vwm rfl rfl (by omega) (by omega) rfl) ?_
    | refine wG_pure (e_ia_vwi rfl rfl (by omega) rfl) ?_
    | refine wG_pure (e_ia_vwn rfl rfl (by omega) (by omega) rfl) ?_
    | refine wG_n rfl rfl ?_
    | refine wG_u rfl rfl ?_
    | refine wG_new (o_mks rfl rfl (by omega) (by decide)) ?_) | (first
    | refine wE_nil (by kernel_rfl) ?_
    | refine wE_gy rfl ?_
    | refine wE_gn rfl rfl rfl ?_
    | refine wE_gu rfl rfl ?_
    | refine wE_gnn rfl rfl rfl ?_
    | refine wE_v (o_len_vwm rfl) rfl ?_
    | refine wE_v (o_not_d rfl) rfl ?_
    | refine wE_p rfl (by first | exact rfl | omega) rfl ?_
    | refine wE_v (o_str2 rfl rfl rfl) rfl ?_
    | refine wE_v (e_istr rfl rfl (by omega)) rfl ?_
    | refine wE_v (e_istr0 rfl rfl (by omega)) rfl ?_
    | refine wE_v (o_not rfl) rfl ?_
    | refine wE_v (e_ia_vw0 rfl rfl (by omega) rfl) rfl ?_
    | refine wE_v (e_ia_vwp rfl rfl (by omega) rfl) rfl ?_
    | refine wE_v (e_ia_vwm rfl rfl (by omega) (by omega) rfl) rfl ?_
    | refine wE_v (e_ia_vwi rfl rfl (by omega) rfl) rfl ?_
    | refine wE_v (e_ia_vwn rfl rfl (by omega) (by omega) rfl) rfl ?_
    | refine wE_n rfl rfl rfl ?_
    | refine wE_u rfl rfl rfl ?_
    | refine wE_new (o_mks rfl rfl (by omega) (by decide)) rfl ?_))
    refine ret_intE (.inr rfl) ⟨_, retV_mv rfl, ?_⟩
    simp only [ew, Bool.false_eq_true, if_false]
    omega
  · simp only [Bool.not_true]
    repeat (first | refine wC_dregE ?_ | refine wE_call c1 rfl rfl rfl ?_ | refine wE_call c2 rfl rfl rfl ?_ | (first
    | refine wC_a rfl ?_
    | refine q_s rfl ?_
    | refine q_b rfl ?_
    | refine wG_nil ?_
    | refine wG_g rfl ?_
    | refine wG_pure (o_len_vwm rfl) ?_
    | refine wG_pure (o_not_d rfl) ?_
    | refine wG_p rfl (by first | exact rfl | omega) ?_
    | refine wG_pure (o_str2 rfl rfl rfl) ?_
    | refine wG_pure (e_istr rfl rfl (by omega)) ?_
    | refine wG_pure (e_istr0 rfl rfl (by omega)) ?_
    | refine wG_pure (o_not rfl) ?_
    | refine wG_pure (e_ia_vw0 rfl rfl (by omega) rfl) ?_
    | refine wG_pure (e_ia_vwp rfl rfl (by omega) rfl) ?_
    | refine wG_pure (e_ia_vwm rfl rfl (by omega) (by omega) rfl) ?_
    | refine wG_pure (e_ia_vwi rfl rfl (by omega) rfl) ?_
    | refine wG_pure (e_ia_vwn rfl rfl (by omega) (by omega) rfl) ?_
    | refine wG_n rfl rfl ?_
    | refine wG_u rfl rfl ?_
    | refine wG_new (o_mks rfl rfl (by omega) (by decide)) ?_) | (first
    | refine wE_nil (by kernel_rfl) ?_
    | refine wE_gy rfl ?_
    | refine wE_gn rfl rfl rfl ?_
    | refine wE_gu rfl rfl ?_
    | refine wE_gnn rfl rfl rfl ?_
    | refine wE_v (o_len_vwm rfl) rfl ?_
    | refine wE_v (o_not_d rfl) rfl ?_
    | refine wE_p rfl (by first | exact rfl | omega) rfl ?_
    | refine wE_v (o_str2 rfl rfl rfl) rfl ?_
    | refine wE_v (e_istr rfl rfl (by omega)) rfl ?_
    | refine wE_v (e_istr0 rfl rfl (by omega)) rfl ?_
    | refine wE_v (o_not rfl) rfl ?_
    | refine wE_v (e_ia_vw0 rfl rfl (by omega) rfl) rfl ?_
    | refine wE_v (e_ia_vwp rfl rfl (by omega) rfl) rfl ?_
    | refine wE_v (e_ia_vwm rfl rfl (by omega) (by omega) rfl) rfl ?_
    | refine wE_v (e_ia_vwi rfl rfl (by omega) rfl) rfl ?_
    | refine wE_v (e_ia_vwn rfl rfl (by omega) (by omega) rfl) rfl ?_
    | refine wE_n rfl rfl rfl ?_
    | refine wE_u rfl rfl rfl ?_
    | refine wE_new (o_mks rfl rfl (by omega) (by decide)) rfl ?_))
    refine ret_intE (.inr rfl) ⟨_, retV_mv rfl, ?_⟩
    simp only [ew, if_true]
    omega
theorem con70 (c : Bool) (m : Md) (xs : List Ev) (hG : GoodM m xs) {i : Nat} (hi : i < xs.length) (q : Bool) (A B : Nat) (hA : A ≤ B) (hB : B < m.y.toNat) : Con Try.prog 70 true [.agg (mdR c m xs), .agg (nE (xs.getD i default)), .int .i64 (A : Int), .int .i64 (B : Int), .agg [.bool (!q), .bool true]] (.int .i64 (sp (ew m (xs.getD i default) q) A (B + 1 - A))) [] := by
  refine con_of_wp mixed fun70 (by simp) [] plain_nil ?_
  unfold ac70 ro70
  simp only [zipT]
  have hY := hG.1
  obtain ⟨g1, g2, g3, _⟩ := hG.2.2.2.2 i hi
  have hf := fac_b (x := xs.getD i default) hY g2
  repeat (first
    | refine wC_a rfl ?_
    | refine q_s rfl ?_
    | refine q_b rfl ?_
    | refine wG_nil ?_
    | refine wG_g rfl ?_
    | refine wG_pure (o_len_vwm rfl) ?_
    | refine wG_pure (o_not_d rfl) ?_
    | refine wG_p rfl (by first | exact rfl | omega) ?_
    | refine wG_pure (o_str2 rfl rfl rfl) ?_
    | refine wG_pure (e_istr rfl rfl (by omega)) ?_
    | refine wG_pure (e_istr0 rfl rfl (by omega)) ?_
    | refine wG_pure (o_not rfl) ?_
    | refine wG_pure (e_ia_vw0 rfl rfl (by omega) rfl) ?_
    | refine wG_pure (e_ia_vwp rfl rfl (by omega) rfl) ?_
    | refine wG_pure (e_ia_vwm rfl rfl (by omega) (by omega) rfl) ?_
    | refine wG_pure (e_ia_vwi rfl rfl (by omega) rfl) ?_
    | refine wG_pure (e_ia_vwn rfl rfl (by omega) (by omega) rfl) ?_
    | refine wG_n rfl rfl ?_
    | refine wG_u rfl rfl ?_
    | refine wG_new (o_mks rfl rfl (by omega) (by decide)) ?_)
  refine wC_loop Nat (fun j => ⟨[(3, .int .i64 (B : Int)), (5, .pt 0 0 0), (6, .pt 1 0 0), (9, .pt 2 0 0), (11, .int .i64 (sp (ew m (xs.getD i default) q) A j)), (12, .int .i64 ((A + j : Nat) : Int))], [(2, some [[.bool (!q), .bool true]]), (1, some [nE (xs.getD i default)]), (0, some [mdR c m xs])], 3⟩) (fun j => j ≤ B + 1 - A) (fun j => B + 1 - A - j) 0 (Nat.zero_le _) ?_ (fun _ _ => Nat.zero_le _) ?_
  · exact ⟨⟨⟨rfl, rfl⟩, ⟨rfl, rfl⟩, ⟨rfl, rfl⟩, ⟨rfl, rfl⟩, ⟨rfl, rfl⟩, ⟨rfl, rfl⟩, trivial⟩, ⟨rfl, by show 2 < 3; decide, by simp [AV.ltr]⟩, ⟨rfl, by show 1 < 3; decide, nE_ltr1 _⟩, ⟨rfl, by show 0 < 3; decide, mdR_ltr1' _⟩, trivial⟩
  intro j hj
  repeat (first
    | refine wC_a rfl ?_
    | refine q_s rfl ?_
    | refine q_b rfl ?_
    | refine wG_nil ?_
    | refine wG_g rfl ?_
    | refine wG_pure (o_len_vwm rfl) ?_
    | refine wG_pure (o_not_d rfl) ?_
    | refine wG_p rfl (by first | exact rfl | omega) ?_
    | refine wG_pure (o_str2 rfl rfl rfl) ?_
    | refine wG_pure (e_istr rfl rfl (by omega)) ?_
    | refine wG_pure (e_istr0 rfl rfl (by omega)) ?_
    | refine wG_pure (o_not rfl) ?_
    | refine wG_pure (e_ia_vw0 rfl rfl (by omega) rfl) ?_
    | refine wG_pure (e_ia_vwp rfl rfl (by omega) rfl) ?_
    | refine wG_pure (e_ia_vwm rfl rfl (by omega) (by omega) rfl) ?_
    | refine wG_pure (e_ia_vwi rfl rfl (by omega) rfl) ?_
    | refine wG_pure (e_ia_vwn rfl rfl (by omega) (by omega) rfl) ?_
    | refine wG_n rfl rfl ?_
    | refine wG_u rfl rfl ?_
    | refine wG_new (o_mks rfl rfl (by omega) (by decide)) ?_)
  refine wC_cond_d rfl (fun h5 => ?_) (fun h5 => ?_)
  · have cw := con79 c m xs hG hi q (A + j) (by omega)
    have s0 := sp_fac (m := m) hY.1 g2 g3 q A j (by omega)
    have s1 := sp_fac (m := m) hY.1 g2 g3 q A (j + 1) (by omega)
    have e1 : sp (ew m (xs.getD i default) q) A (j + 1) = sp (ew m (xs.getD i default) q) A j + ew m (xs.getD i default) q (A + j) := rfl
    rw [e1] at s1
    have w1 := ew_fac hG hi q (A + j)
    repeat (first | refine wG_call cw rfl rfl ?_ | (first
    | refine wC_a rfl ?_
    | refine q_s rfl ?_
    | refine q_b rfl ?_
    | refine wG_nil ?_
    | refine wG_g rfl ?_
    | refine wG_pure (o_len_vwm rfl) ?_
    | refine wG_pure (o_not_d rfl) ?_
    | refine wG_p rfl (by first | exact rfl | omega) ?_
    | refine wG_pure (o_str2 rfl rfl rfl) ?_
    | refine wG_pure (e_istr rfl rfl (by omega)) ?_
    | refine wG_pure (e_istr0 rfl rfl (by omega)) ?_
    | refine wG_pure (o_not rfl) ?_
    | refine wG_pure (e_ia_vw0 rfl rfl (by omega) rfl) ?_
    | refine wG_pure (e_ia_vwp rfl rfl (by omega) rfl) ?_
    | refine wG_pure (e_ia_vwm rfl rfl (by omega) (by omega) rfl) ?_
    | refine wG_pure (e_ia_vwi rfl rfl (by omega) rfl) ?_
    | refine wG_pure (e_ia_vwn rfl rfl (by omega) (by omega) rfl) ?_
    | refine wG_n rfl rfl ?_
    | refine wG_u rfl rfl ?_
    | refine wG_new (o_mks rfl rfl (by omega) (by decide)) ?_))
    exact ⟨j + 1, by omega, by omega, ⟨⟨rfl, rfl⟩, ⟨rfl, rfl⟩, ⟨rfl, rfl⟩, ⟨rfl, rfl⟩, ⟨rfl, rfl⟩, ⟨rfl, rfl⟩, trivial⟩, ⟨rfl, by show 2 < 3; decide, by simp [AV.ltr]⟩, ⟨rfl, by show 1 < 3; decide, nE_ltr1 _⟩, ⟨rfl, by show 0 < 3; decide, mdR_ltr1' _⟩, trivial⟩
  · have hj3 : j = B + 1 - A := by omega
    subst hj3
    repeat (first
    | refine wC_a rfl ?_
    | refine q_s rfl ?_
    | refine q_b rfl ?_
    | refine wG_nil ?_
    | refine wG_g rfl ?_
    | refine wG_pure (o_len_vwm rfl) ?_
    | refine wG_pure (o_not_d rfl) ?_
    | refine wG_p rfl (by first | exact rfl | omega) ?_
    | refine wG_pure (o_str2 rfl rfl rfl) ?_
    | refine wG_pure (e_istr rfl rfl (by omega)) ?_
    | refine wG_pure (e_istr0 rfl rfl (by omega)) ?_
    | refine wG_pure (o_not rfl) ?_
    | refine wG_pure (e_ia_vw0 rfl rfl (by omega) rfl) ?_
    | refine wG_pure (e_ia_vwp rfl rfl (by omega) rfl) ?_
    | refine wG_pure (e_ia_vwm rfl rfl (by omega) (by omega) rfl) ?_
    | refine wG_pure (e_ia_vwi rfl rfl (by omega) rfl) ?_
    | refine wG_pure (e_ia_vwn rfl rfl (by omega) (by omega) rfl) ?_
    | refine wG_n rfl rfl ?_
    | refine wG_u rfl rfl ?_
    | refine wG_new (o_mks rfl rfl (by omega) (by decide)) ?_)
    exact ret_intE (.inr rfl) ⟨_, retV_mv rfl, rfl⟩
theorem con66 (c nb : Bool) (m : Md) (xs : List Ev) (hG : GoodM m xs) (b : List Nat) (hb : GoodB m.y.toNat (m.p.toNat + 1) b) (skip : Int) : Con Try.prog 66 true [.agg (mdR c m xs), .vw nb (b.map nRow), .int .i64 skip] (.int .i64 (lw xs (gE m xs (-1)) b skip xs.length)) [] := by
  refine con_of_wp mixed fun66 (by simp) [] plain_nil ?_
  unfold ac66 ro66
  simp only [zipT]
  have hn4 := hG.2.2.2.1
  have hY := hG.1
  have hbl := hb.len
  have hPb := hG.2.2.1
  repeat (first
    | refine wC_a rfl ?_
    | refine q_s rfl ?_
    | refine q_b rfl ?_
    | refine wG_nil ?_
    | refine wG_g rfl ?_
    | refine wG_pure (o_len_vwm rfl) ?_
    | refine wG_pure (o_not_d rfl) ?_
    | refine wG_p rfl (by first | exact rfl | omega) ?_
    | refine wG_pure (o_str2 rfl rfl rfl) ?_
    | refine wG_pure (e_istr rfl rfl (by omega)) ?_
    | refine wG_pure (e_istr0 rfl rfl (by omega)) ?_
    | refine wG_pure (o_not rfl) ?_
    | refine wG_pure (e_ia_vw0 rfl rfl (by omega) rfl) ?_
    | refine wG_pure (e_ia_vwp rfl rfl (by omega) rfl) ?_
    | refine wG_pure (e_ia_vwm rfl rfl (by omega) (by omega) rfl) ?_
    | refine wG_pure (e_ia_vwi rfl rfl (by omega) rfl) ?_
    | refine wG_pure (e_ia_vwn rfl rfl (by omega) (by omega) rfl) ?_
    | refine wG_n rfl rfl ?_
    | refine wG_u rfl rfl ?_
    | refine wG_new (o_mks rfl rfl (by omega) (by decide)) ?_)
  refine wC_loop Nat (fun i => ⟨[(1, .vw nb (b.map nRow)), (2, .int .i64 skip), (3, .pt 0 0 0), (7, .int .i64 (lw xs (gE m xs (-1)) b skip i)), (11, .vw c (xs.map nE)), (12, .int .i64 (xs.length : Int)), (13, .int .i64 (i : Int))], [(0, some [mdR c m xs])], 1⟩) (fun i => i ≤ xs.length) (fun i => xs.length - i) 0 (Nat.zero_le _) ?_ (fun _ _ => Nat.zero_le _) ?_
  · exact ⟨⟨⟨rfl, rfl⟩, ⟨rfl, rfl⟩, ⟨rfl, rfl⟩, ⟨rfl, rfl⟩, ⟨rfl, rfl⟩, ⟨rfl, rfl⟩, ⟨rfl, rfl⟩, trivial⟩, ⟨rfl, by show 0 < 1; decide, mdR_ltr1' _⟩, trivial⟩
  intro i hi
  repeat (first
    | refine wC_a rfl ?_
    | refine q_s rfl ?_
    | refine q_b rfl ?_
    | refine wG_nil ?_
    | refine wG_g rfl ?_
    | refine wG_pure (o_len_vwm rfl) ?_
    | refine wG_pure (o_not_d rfl) ?_
    | refine wG_p rfl (by first | exact rfl | omega) ?_
    | refine wG_pure (o_str2 rfl rfl rfl) ?_
    | refine wG_pure (e_istr rfl rfl (by omega)) ?_
    | refine wG_pure (e_istr0 rfl rfl (by omega)) ?_
    | refine wG_pure (o_not rfl) ?_
    | refine wG_pure (e_ia_vw0 rfl rfl (by omega) rfl) ?_
    | refine wG_pure (e_ia_vwp rfl rfl (by omega) rfl) ?_
    | refine wG_pure (e_ia_vwm rfl rfl (by omega) (by omega) rfl) ?_
    | refine wG_pure (e_ia_vwi rfl rfl (by omega) rfl) ?_
    | refine wG_pure (e_ia_vwn rfl rfl (by omega) (by omega) rfl) ?_
    | refine wG_n rfl rfl ?_
    | refine wG_u rfl rfl ?_
    | refine wG_new (o_mks rfl rfl (by omega) (by decide)) ?_)
  refine wC_cond_d rfl (fun h5 => ?_) (fun h5 => ?_)
  · have hi2 : i < xs.length := by omega
    repeat (first
    | refine wC_a rfl ?_
    | refine q_s rfl ?_
    | refine q_b rfl ?_
    | refine wG_nil ?_
    | refine wG_g rfl ?_
    | refine wG_pure (o_len_vwm rfl) ?_
    | refine wG_pure (o_not_d rfl) ?_
    | refine wG_p rfl (by first | exact rfl | omega) ?_
    | refine wG_pure (o_str2 rfl rfl rfl) ?_
    | refine wG_pure (e_istr rfl rfl (by omega)) ?_
    | refine wG_pure (e_istr0 rfl rfl (by omega)) ?_
    | refine wG_pure (o_not rfl) ?_
    | refine wG_pure (e_ia_vw0 rfl rfl (by omega) rfl) ?_
    | refine wG_pure (e_ia_vwp rfl rfl (by omega) rfl) ?_
    | refine wG_pure (e_ia_vwm rfl rfl (by omega) (by omega) rfl) ?_
    | refine wG_pure (e_ia_vwi rfl rfl (by omega) rfl) ?_
    | refine wG_pure (e_ia_vwn rfl rfl (by omega) (by omega) rfl) ?_
    | refine wG_n rfl rfl ?_
    | refine wG_u rfl rfl ?_
    | refine wG_new (o_mks rfl rfl (by omega) (by decide)) ?_)
    refine wC_cond_d rfl (fun h6 => ?_) (fun h6 => ?_)
    · obtain ⟨a1, a2, a3, a4⟩ := b_in hG hb hi2
      have hf := fac_b (x := xs.getD i default) hY (hG.2.2.2.2 i hi2).2.1
      have l1 := lw_15 hG hb (-1) skip (i := i + 1) hi2
      have l0 := lw_15 hG hb (-1) skip (i := i) (by omega)
      have s1 := spn_b hG hb hi2 (-1)
      have hup : lw xs (gE m xs (-1)) b skip (i + 1) = lw xs (gE m xs (-1)) b skip i * spn xs (gE m xs (-1)) b i := if_pos h6
      rw [hup] at l1
      have cS := con70 c m xs hG hi2 false (gN b (pE xs i)) (gN b (pE xs i + 1)) a1 a2
      have eS : sp (ew m (xs.getD i default) false) (gN b (pE xs i)) (gN b (pE xs i + 1) + 1 - gN b (pE xs i)) = spn xs (gE m xs (-1)) b i := by unfold spn; rw [gE_m1]
      rw [eS] at cS
      have hP : ((xs.getD i default).p) = ((pE xs i : Nat) : Int) := a4
      generalize hA : pE xs i = A at *
      have gA : b.getD A default = gN b A := rfl
      have eA1 : ((A : Int) + 1).toNat = A + 1 := by omega
      have gA1 : b.getD (A + 1) default = gN b (A + 1) := rfl
      repeat (first | refine wC_dregE ?_ | (first
    | refine wC_a rfl ?_
    | refine q_s rfl ?_
    | refine q_b rfl ?_
    | refine wG_nil ?_
    | refine wG_g rfl ?_
    | refine wG_pure (o_len_vwm rfl) ?_
    | refine wG_pure (o_not_d rfl) ?_
    | refine wG_p rfl (by first | exact rfl | omega) ?_
    | refine wG_pure (o_str2 rfl rfl rfl) ?_
    | refine wG_pure (e_istr rfl rfl (by omega)) ?_
    | refine wG_pure (e_istr0 rfl rfl (by omega)) ?_
    | refine wG_pure (o_not rfl) ?_
    | refine wG_pure (e_ia_vw0 rfl rfl (by omega) rfl) ?_
    | refine wG_pure (e_ia_vwp rfl rfl (by omega) rfl) ?_
    | refine wG_pure (e_ia_vwm rfl rfl (by omega) (by omega) rfl) ?_
    | refine wG_pure (e_ia_vwi rfl rfl (by omega) rfl) ?_
    | refine wG_pure (e_ia_vwn rfl rfl (by omega) (by omega) rfl) ?_
    | refine wG_n rfl rfl ?_
    | refine wG_u rfl rfl ?_
    | refine wG_new (o_mks rfl rfl (by omega) (by decide)) ?_) | (first
    | refine wE_nil (by kernel_rfl) ?_
    | refine wE_gy rfl ?_
    | refine wE_gn rfl rfl rfl ?_
    | refine wE_gu rfl rfl ?_
    | refine wE_gnn rfl rfl rfl ?_
    | refine wE_v (o_len_vwm rfl) rfl ?_
    | refine wE_v (o_not_d rfl) rfl ?_
    | refine wE_p rfl (by first | exact rfl | omega) rfl ?_
    | refine wE_v (o_str2 rfl rfl rfl) rfl ?_
    | refine wE_v (e_istr rfl rfl (by omega)) rfl ?_
    | refine wE_v (e_istr0 rfl rfl (by omega)) rfl ?_
    | refine wE_v (o_not rfl) rfl ?_
    | refine wE_v (e_ia_vw0 rfl rfl (by omega) rfl) rfl ?_
    | refine wE_v (e_ia_vwp rfl rfl (by omega) rfl) rfl ?_
    | refine wE_v (e_ia_vwm rfl rfl (by omega) (by omega) rfl) rfl ?_
    | refine wE_v (e_ia_vwi rfl rfl (by omega) rfl) rfl ?_
    | refine wE_v (e_ia_vwn rfl rfl (by omega) (by omega) rfl) rfl ?_
    | refine wE_n rfl rfl rfl ?_
    | refine wE_u rfl rfl rfl ?_
    | refine wE_new (o_mks rfl rfl (by omega) (by decide)) rfl ?_))
      simp only [nE, hP] at cS
      simp only [hP, Int.toNat_natCast, gA]
      repeat (first | (first
    | refine wC_a rfl ?_
    | refine q_s rfl ?_
    | refine q_b rfl ?_
    | refine wG_nil ?_
    | refine wG_g rfl ?_
    | refine wG_pure (o_len_vwm rfl) ?_
    | refine wG_pure (o_not_d rfl) ?_
    | refine wG_p rfl (by first | exact rfl | omega) ?_
    | refine wG_pure (o_str2 rfl rfl rfl) ?_
    | refine wG_pure (e_istr rfl rfl (by omega)) ?_
    | refine wG_pure (e_istr0 rfl rfl (by omega)) ?_
    | refine wG_pure (o_not rfl) ?_
    | refine wG_pure (e_ia_vw0 rfl rfl (by omega) rfl) ?_
    | refine wG_pure (e_ia_vwp rfl rfl (by omega) rfl) ?_
    | refine wG_pure (e_ia_vwm rfl rfl (by omega) (by omega) rfl) ?_
    | refine wG_pure (e_ia_vwi rfl rfl (by omega) rfl) ?_
    | refine wG_pure (e_ia_vwn rfl rfl (by omega) (by omega) rfl) ?_
    | refine wG_n rfl rfl ?_
    | refine wG_u rfl rfl ?_
    | refine wG_new (o_mks rfl rfl (by omega) (by decide)) ?_) | (first
    | refine wE_nil (by kernel_rfl) ?_
    | refine wE_gy rfl ?_
    | refine wE_gn rfl rfl rfl ?_
    | refine wE_gu rfl rfl ?_
    | refine wE_gnn rfl rfl rfl ?_
    | refine wE_v (o_len_vwm rfl) rfl ?_
    | refine wE_v (o_not_d rfl) rfl ?_
    | refine wE_p rfl (by first | exact rfl | omega) rfl ?_
    | refine wE_v (o_str2 rfl rfl rfl) rfl ?_
    | refine wE_v (e_istr rfl rfl (by omega)) rfl ?_
    | refine wE_v (e_istr0 rfl rfl (by omega)) rfl ?_
    | refine wE_v (o_not rfl) rfl ?_
    | refine wE_v (e_ia_vw0 rfl rfl (by omega) rfl) rfl ?_
    | refine wE_v (e_ia_vwp rfl rfl (by omega) rfl) rfl ?_
    | refine wE_v (e_ia_vwm rfl rfl (by omega) (by omega) rfl) rfl ?_
    | refine wE_v (e_ia_vwi rfl rfl (by omega) rfl) rfl ?_
    | refine wE_v (e_ia_vwn rfl rfl (by omega) (by omega) rfl) rfl ?_
    | refine wE_n rfl rfl rfl ?_
    | refine wE_u rfl rfl rfl ?_
    | refine wE_new (o_mks rfl rfl (by omega) (by decide)) rfl ?_))
      simp only [eA1, gA1]
      repeat (first | refine wE_call cS rfl rfl rfl ?_ | refine wG_call cS rfl rfl ?_ | (first
    | refine wC_a rfl ?_
    | refine q_s rfl ?_
    | refine q_b rfl ?_
    | refine wG_nil ?_
    | refine wG_g rfl ?_
    | refine wG_pure (o_len_vwm rfl) ?_
    | refine wG_pure (o_not_d rfl) ?_
    | refine wG_p rfl (by first | exact rfl | omega) ?_
    | refine wG_pure (o_str2 rfl rfl rfl) ?_
    | refine wG_pure (e_istr rfl rfl (by omega)) ?_
    | refine wG_pure (e_istr0 rfl rfl (by omega)) ?_
    | refine wG_pure (o_not rfl) ?_
    | refine wG_pure (e_ia_vw0 rfl rfl (by omega) rfl) ?_
    | refine wG_pure (e_ia_vwp rfl rfl (by omega) rfl) ?_
    | refine wG_pure (e_ia_vwm rfl rfl (by omega) (by omega) rfl) ?_
    | refine wG_pure (e_ia_vwi rfl rfl (by omega) rfl) ?_
    | refine wG_pure (e_ia_vwn rfl rfl (by omega) (by omega) rfl) ?_
    | refine wG_n rfl rfl ?_
    | refine wG_u rfl rfl ?_
    | refine wG_new (o_mks rfl rfl (by omega) (by decide)) ?_) | (first
    | refine wE_nil (by kernel_rfl) ?_
    | refine wE_gy rfl ?_
    | refine wE_gn rfl rfl rfl ?_
    | refine wE_gu rfl rfl ?_
    | refine wE_gnn rfl rfl rfl ?_
    | refine wE_v (o_len_vwm rfl) rfl ?_
    | refine wE_v (o_not_d rfl) rfl ?_
    | refine wE_p rfl (by first | exact rfl | omega) rfl ?_
    | refine wE_v (o_str2 rfl rfl rfl) rfl ?_
    | refine wE_v (e_istr rfl rfl (by omega)) rfl ?_
    | refine wE_v (e_istr0 rfl rfl (by omega)) rfl ?_
    | refine wE_v (o_not rfl) rfl ?_
    | refine wE_v (e_ia_vw0 rfl rfl (by omega) rfl) rfl ?_
    | refine wE_v (e_ia_vwp rfl rfl (by omega) rfl) rfl ?_
    | refine wE_v (e_ia_vwm rfl rfl (by omega) (by omega) rfl) rfl ?_
    | refine wE_v (e_ia_vwi rfl rfl (by omega) rfl) rfl ?_
    | refine wE_v (e_ia_vwn rfl rfl (by omega) (by omega) rfl) rfl ?_
    | refine wE_n rfl rfl rfl ?_
    | refine wE_u rfl rfl rfl ?_
    | refine wE_new (o_mks rfl rfl (by omega) (by decide)) rfl ?_))
      refine ⟨i + 1, hi2, by omega, ⟨⟨rfl, rfl⟩, ⟨rfl, rfl⟩, ⟨rfl, rfl⟩, ⟨?_, rfl⟩, ⟨rfl, rfl⟩, ⟨rfl, rfl⟩, ⟨rfl, rfl⟩, trivial⟩, ⟨rfl, by show 0 < 1; decide, mdR_ltr1' _⟩, trivial⟩
      rw [hup]; rfl
    · have hup : lw xs (gE m xs (-1)) b skip (i + 1) = lw xs (gE m xs (-1)) b skip i := if_neg h6
      repeat (first
    | refine wC_a rfl ?_
    | refine q_s rfl ?_
    | refine q_b rfl ?_
    | refine wG_nil ?_
    | refine wG_g rfl ?_
    | refine wG_pure (o_len_vwm rfl) ?_
    | refine wG_pure (o_not_d rfl) ?_
    | refine wG_p rfl (by first | exact rfl | omega) ?_
    | refine wG_pure (o_str2 rfl rfl rfl) ?_
    | refine wG_pure (e_istr rfl rfl (by omega)) ?_
    | refine wG_pure (e_istr0 rfl rfl (by omega)) ?_
    | refine wG_pure (o_not rfl) ?_
    | refine wG_pure (e_ia_vw0 rfl rfl (by omega) rfl) ?_
    | refine wG_pure (e_ia_vwp rfl rfl (by omega) rfl) ?_
    | refine wG_pure (e_ia_vwm rfl rfl (by omega) (by omega) rfl) ?_
    | refine wG_pure (e_ia_vwi rfl rfl (by omega) rfl) ?_
    | refine wG_pure (e_ia_vwn rfl rfl (by omega) (by omega) rfl) ?_
    | refine wG_n rfl rfl ?_
    | refine wG_u rfl rfl ?_
    | refine wG_new (o_mks rfl rfl (by omega) (by decide)) ?_)
      refine ⟨i + 1, hi2, by omega, ⟨⟨rfl, rfl⟩, ⟨rfl, rfl⟩, ⟨rfl, rfl⟩, ⟨?_, rfl⟩, ⟨rfl, rfl⟩, ⟨rfl, rfl⟩, ⟨rfl, rfl⟩, trivial⟩, ⟨rfl, by show 0 < 1; decide, mdR_ltr1' _⟩, trivial⟩
      rw [hup]; rfl
  · have hi3 : i = xs.length := by omega
    subst hi3
    repeat (first
    | refine wC_a rfl ?_
    | refine q_s rfl ?_
    | refine q_b rfl ?_
    | refine wG_nil ?_
    | refine wG_g rfl ?_
    | refine wG_pure (o_len_vwm rfl) ?_
    | refine wG_pure (o_not_d rfl) ?_
    | refine wG_p rfl (by first | exact rfl | omega) ?_
    | refine wG_pure (o_str2 rfl rfl rfl) ?_
    | refine wG_pure (e_istr rfl rfl (by omega)) ?_
    | refine wG_pure (e_istr0 rfl rfl (by omega)) ?_
    | refine wG_pure (o_not rfl) ?_
    | refine wG_pure (e_ia_vw0 rfl rfl (by omega) rfl) ?_
    | refine wG_pure (e_ia_vwp rfl rfl (by omega) rfl) ?_
    | refine wG_pure (e_ia_vwm rfl rfl (by omega) (by omega) rfl) ?_
    | refine wG_pure (e_ia_vwi rfl rfl (by omega) rfl) ?_
    | refine wG_pure (e_ia_vwn rfl rfl (by omega) (by omega) rfl) ?_
    | refine wG_n rfl rfl ?_
    | refine wG_u rfl rfl ?_
    | refine wG_new (o_mks rfl rfl (by omega) (by decide)) ?_)
    exact ret_intE (.inr rfl) ⟨_, retV_mv rfl, rfl⟩
end Go.Proofs.Ytnohaclnpbpjbaa.Dst
