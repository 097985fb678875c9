/- The intervals of all contexts on the specification's side, and the first conflict there. -/
import Derived.Test.YtencmeleapmjnaaEvdD
namespace Go.Proofs.Ytencmeleapmjnaa.Rec
open Go Go.Proofs.Ytencmeleapmjnaa.Ab Go.Proofs.Ytencmeleapmjnaa.Il
attribute [local irreducible] wpO wpC wpDr wpQ wpG wpE stepA seqQ blkQ Ret RetG ev
set_option maxRecDepth 10000
set_option maxHeartbeats 8000000
set_option linter.unusedSimpArgs false
set_option linter.unusedVariables false

def ac48 : AC := (.seq (.reg [⟨(some 2), none, (.box 2 true (.t 0))⟩, ⟨(some 4), none, (.mv (.c .nilS))⟩]) (.seq (.reg [⟨(some 9), none, (.bsl 2 [(.int .i64 0), (.int .i64 0)] 0 [])⟩, ⟨(some 5), none, (.mv (.t 9))⟩]) (.seq (.seq (.reg [⟨(some 6), none, (.mv (.c (.int .i64 0)))⟩]) (.blk 0 (.loop (.seq (.seq (.reg [⟨(some 10), none, (.mv (.t 6))⟩, ⟨(some 11), none, (.fa 0 (.t 2))⟩, ⟨(some 12), none, (.ld false 1 (.t 11))⟩, ⟨(some 13), none, (.len (.t 12))⟩, ⟨(some 14), none, (.bin .lss (.t 10) (.t 13))⟩]) (.cond (.t 14) .skip (.exit 0))) (.seq (.blk 1 (.seq (.reg [⟨(some 17), none, (.build [(.int .i64 0), (.int .i64 0)] [(0, (1, (.c (.int .i64 (-20000))))), (1, (1, (.c (.int .i64 2100))))])⟩, ⟨(some 7), none, (.alloc [(.int .i64 0), (.int .i64 0)])⟩, ⟨none, none, (.st 2 (.t 7) (.t 17))⟩]) (.seq (.seq (.reg [⟨(some 8), none, (.mv (.c (.int .i64 0)))⟩]) (.blk 2 (.loop (.seq (.seq (.reg [⟨(some 18), none, (.mv (.t 8))⟩, ⟨(some 19), none, (.mv (.t 1))⟩, ⟨(some 20), none, (.len (.t 19))⟩, ⟨(some 21), none, (.bin .lss (.t 18) (.t 20))⟩]) (.cond (.t 21) .skip (.exit 2))) (.seq (.blk 3 (.seq (.dreg [⟨(some 24), none, (.mv (.t 1))⟩, ⟨(some 25), none, (.mv (.t 8))⟩, ⟨(some 26), none, (.ia 3 (.t 24) (.t 25))⟩, ⟨(some 27), none, (.fa 0 (.t 26))⟩, ⟨(some 28), none, (.ld false 1 (.t 27))⟩, ⟨(some 29), none, (.fa 0 (.t 2))⟩, ⟨(some 30), none, (.ld false 1 (.t 29))⟩, ⟨(some 31), none, (.mv (.t 6))⟩, ⟨(some 32), none, (.ia 2 (.t 30) (.t 31))⟩, ⟨(some 33), none, (.fa 0 (.t 32))⟩, ⟨(some 34), none, (.ld false 1 (.t 33))⟩, ⟨(some 35), none, (.bin .eql (.t 28) (.t 34))⟩] [[], [], [0, 1], [0, 1, 2], [0, 1, 2, 3], [], [5], [], [5, 6, 7], [5, 6, 7, 8], [5, 6, 7, 8, 9], [0, 1, 2, 3, 4, 5, 6, 7, 8, 9, 10]]) (.cond (.t 35) (.reg [⟨(some 36), none, (.mv (.t 1))⟩, ⟨(some 37), none, (.mv (.t 8))⟩, ⟨(some 38), none, (.ia 3 (.t 36) (.t 37))⟩, ⟨(some 39), none, (.fa 1 (.t 38))⟩, ⟨(some 40), none, (.ld true 2 (.t 39))⟩, ⟨none, none, (.st 2 (.t 7) (.t 40))⟩]) .skip))) (.reg [⟨(some 22), none, (.mv (.t 8))⟩, ⟨(some 23), none, (.bin .add (.t 22) (.c (.int .i64 1)))⟩, ⟨(some 8), none, (.mv (.t 23))⟩])))))) (.reg [⟨(some 41), none, (.mv (.t 5))⟩, ⟨(some 42), none, (.ld true 2 (.t 7))⟩, ⟨(some 43), none, (.bsl 2 [(.int .i64 0), (.int .i64 0)] 1 [(0, (.t 42))])⟩, ⟨(some 44), none, (.app 2 16 [(.int .i64 0), (.int .i64 0)] (.t 41) (.t 43))⟩, ⟨(some 5), none, (.mv (.t 44))⟩])))) (.reg [⟨(some 15), none, (.mv (.t 6))⟩, ⟨(some 16), none, (.bin .add (.t 15) (.c (.int .i64 1)))⟩, ⟨(some 6), none, (.mv (.t 16))⟩])))))) (.seq (.reg [⟨(some 45), none, (.mv (.t 5))⟩, ⟨(some 4), none, (.mv (.t 45))⟩]) .ret))))
def ro48 : List AOp := [(.mv (.t 4))]
theorem fun48 : Fun Try.prog 48 46 ac48 ro48 := ⟨Try.f48, _, Try.func48, by kernel_rfl, rfl, rfl, by kernel_rfl, by kernel_rfl, by decide⟩
def ac27 : AC := (.seq (.reg [⟨(some 2), none, (.box 2 true (.t 0))⟩, ⟨(some 4), none, (.mv (.c (.int .i64 0)))⟩, ⟨(some 5), none, (.mv (.c (.int .i64 0)))⟩, ⟨(some 6), none, (.mv (.c (.bool false)))⟩, ⟨(some 7), none, (.mv (.c (.bool false)))⟩]) (.seq (.seq (.reg [⟨(some 12), none, (.ld true 2 (.t 2))⟩, ⟨(some 13), none, (.mv (.t 1))⟩, ⟨(some 14), none, (.call 44 [(.t 12), (.t 13)])⟩, ⟨(some 15), none, (.un .not (.t 14))⟩]) (.cond (.t 15) (.seq (.reg [⟨(some 4), none, (.mv (.c (.int .i64 0)))⟩, ⟨(some 5), none, (.mv (.c (.int .i64 0)))⟩, ⟨(some 6), none, (.mv (.c (.bool false)))⟩, ⟨(some 7), none, (.mv (.c (.bool false)))⟩]) .ret) .skip)) (.seq (.reg [⟨(some 16), none, (.ld true 2 (.t 2))⟩, ⟨(some 17), none, (.mv (.t 1))⟩, ⟨(some 18), none, (.call 48 [(.t 16), (.t 17)])⟩, ⟨(some 8), none, (.mv (.t 18))⟩]) (.seq (.reg [⟨(some 19), none, (.ld true 2 (.t 2))⟩, ⟨(some 20), none, (.call 49 [(.t 19)])⟩, ⟨(some 9), none, (.mv (.t 20))⟩]) (.seq (.seq (.reg [⟨(some 10), none, (.mv (.c (.int .i64 0)))⟩]) (.blk 0 (.loop (.seq (.seq (.reg [⟨(some 21), none, (.mv (.t 10))⟩, ⟨(some 22), none, (.mv (.t 8))⟩, ⟨(some 23), none, (.len (.t 22))⟩, ⟨(some 24), none, (.bin .lss (.t 21) (.t 23))⟩]) (.cond (.t 24) .skip (.exit 0))) (.seq (.blk 1 (.seq (.reg [⟨(some 11), none, (.mv (.c (.int .i64 0)))⟩]) (.blk 2 (.loop (.seq (.seq (.reg [⟨(some 27), none, (.mv (.t 11))⟩, ⟨(some 28), none, (.mv (.t 8))⟩, ⟨(some 29), none, (.len (.t 28))⟩, ⟨(some 30), none, (.bin .lss (.t 27) (.t 29))⟩]) (.cond (.t 30) .skip (.exit 2))) (.seq (.blk 3 (.seq (.dreg [⟨(some 33), none, (.mv (.t 9))⟩, ⟨(some 34), none, (.mv (.t 10))⟩, ⟨(some 35), none, (.ia 1 (.t 33) (.t 34))⟩, ⟨(some 36), none, (.ld false 1 (.t 35))⟩, ⟨(some 37), none, (.mv (.t 11))⟩, ⟨(some 38), none, (.call 50 [(.t 36), (.t 37)])⟩, ⟨(some 39), none, (.mv (.t 38))⟩, ⟨(some 40), (some (39, true)), (.mv (.t 8))⟩, ⟨(some 41), (some (39, true)), (.mv (.t 10))⟩, ⟨(some 42), (some (39, true)), (.ia 2 (.t 40) (.t 41))⟩, ⟨(some 43), (some (39, true)), (.fa 1 (.t 42))⟩, ⟨(some 44), (some (39, true)), (.ld false 1 (.t 43))⟩, ⟨(some 45), (some (39, true)), (.mv (.t 8))⟩, ⟨(some 46), (some (39, true)), (.mv (.t 11))⟩, ⟨(some 47), (some (39, true)), (.ia 2 (.t 45) (.t 46))⟩, ⟨(some 48), (some (39, true)), (.fa 0 (.t 47))⟩, ⟨(some 49), (some (39, true)), (.ld false 1 (.t 48))⟩, ⟨(some 50), (some (39, true)), (.bin .lss (.t 44) (.t 49))⟩, ⟨(some 51), none, (.pick (.t 39) (.t 50) (.c (.bool false)))⟩] [[], [], [0, 1], [0, 1, 2], [], [0, 1, 2, 3, 4], [0, 1, 2, 3, 4, 5], [0, 1, 2, 3, 4, 5, 6], [0, 1, 2, 3, 4, 5, 6], [0, 1, 2, 3, 4, 5, 6, 7, 8], [0, 1, 2, 3, 4, 5, 6, 7, 8, 9], [0, 1, 2, 3, 4, 5, 6, 7, 8, 9, 10], [0, 1, 2, 3, 4, 5, 6], [0, 1, 2, 3, 4, 5, 6], [0, 1, 2, 3, 4, 5, 6, 12, 13], [0, 1, 2, 3, 4, 5, 6, 12, 13, 14], [0, 1, 2, 3, 4, 5, 6, 12, 13, 14, 15], [0, 1, 2, 3, 4, 5, 6, 7, 8, 9, 10, 11, 12, 13, 14, 15, 16], [0, 1, 2, 3, 4, 5, 6, 7, 8, 9, 10, 11, 12, 13, 14, 15, 16, 17]]) (.cond (.t 51) (.seq (.dreg [⟨(some 52), none, (.fa 0 (.t 2))⟩, ⟨(some 53), none, (.ld false 1 (.t 52))⟩, ⟨(some 54), none, (.mv (.t 10))⟩, ⟨(some 55), none, (.ia 2 (.t 53) (.t 54))⟩, ⟨(some 56), none, (.fa 0 (.t 55))⟩, ⟨(some 57), none, (.ld false 1 (.t 56))⟩, ⟨(some 58), none, (.fa 0 (.t 2))⟩, ⟨(some 59), none, (.ld false 1 (.t 58))⟩, ⟨(some 60), none, (.mv (.t 11))⟩, ⟨(some 61), none, (.ia 2 (.t 59) (.t 60))⟩, ⟨(some 62), none, (.fa 0 (.t 61))⟩, ⟨(some 63), none, (.ld false 1 (.t 62))⟩, ⟨(some 4), none, (.mv (.t 57))⟩, ⟨(some 5), none, (.mv (.t 63))⟩, ⟨(some 6), none, (.mv (.c (.bool true)))⟩, ⟨(some 7), none, (.mv (.c (.bool true)))⟩] [[], [0], [], [0, 1, 2], [0, 1, 2, 3], [0, 1, 2, 3, 4], [], [6], [], [6, 7, 8], [6, 7, 8, 9], [6, 7, 8, 9, 10], [0, 1, 2, 3, 4, 5], [0, 1, 2, 3, 4, 5, 6, 7, 8, 9, 10, 11, 12], [0, 1, 2, 3, 4, 5, 6, 7, 8, 9, 10, 11, 12, 13], [0, 1, 2, 3, 4, 5, 6, 7, 8, 9, 10, 11, 12, 13, 14]]) .ret) .skip))) (.reg [⟨(some 31), none, (.mv (.t 11))⟩, ⟨(some 32), none, (.bin .add (.t 31) (.c (.int .i64 1)))⟩, ⟨(some 11), none, (.mv (.t 32))⟩]))))))) (.reg [⟨(some 25), none, (.mv (.t 10))⟩, ⟨(some 26), none, (.bin .add (.t 25) (.c (.int .i64 1)))⟩, ⟨(some 10), none, (.mv (.t 26))⟩])))))) (.seq (.reg [⟨(some 4), none, (.mv (.c (.int .i64 0)))⟩, ⟨(some 5), none, (.mv (.c (.int .i64 0)))⟩, ⟨(some 6), none, (.mv (.c (.bool false)))⟩, ⟨(some 7), none, (.mv (.c (.bool true)))⟩]) .ret))))))
def ro27 : List AOp := [(.mv (.t 4)), (.mv (.t 5)), (.mv (.t 6)), (.mv (.t 7))]
theorem fun27 : Fun Try.prog 27 64 ac27 ro27 := ⟨Try.f27, _, Try.func27, by kernel_rfl, rfl, rfl, by kernel_rfl, by kernel_rfl, by decide⟩

/-! ### The intervals of all contexts -/
noncomputable def ownS (r : Rc) (es : List Dt) : Nat → Nat → Iv
  | 0 => fun _ => ⟨-20000, 2100⟩
  | q + 1 => fun i => if (es.getD q default).n = (r.cs.getD i default).n then ⟨(es.getD q default).f, (es.getD q default).t⟩ else ownS r es q i
theorem cs_lt {r : Rc} (hG : GoodR r) : ∀ (d i : Nat), i + d + 1 < r.cs.length → (r.cs.getD i default).n < (r.cs.getD (i + d + 1) default).n
  | 0, i, h => (hG.2.2.1 (i + 1) h).2.2 (by omega)
  | d + 1, i, h => Int.lt_trans (cs_lt hG d i (by omega)) ((hG.2.2.1 (i + (d + 1) + 1) h).2.2 (by omega))
theorem cs_inj {r : Rc} (hG : GoodR r) {i j : Nat} (hi : i < r.cs.length) (hj : j < r.cs.length) (h : (r.cs.getD i default).n = (r.cs.getD j default).n) : i = j := by
  rcases Nat.lt_trichotomy i j with hij | hij | hij
  · have := cs_lt hG (j - i - 1) i (by omega)
    rw [show i + (j - i - 1) + 1 = j by omega] at this
    omega
  · exact hij
  · have := cs_lt hG (i - j - 1) j (by omega)
    rw [show j + (i - j - 1) + 1 = i by omega] at this
    omega
theorem idx_iff {r : Rc} (hG : GoodR r) {m : Int} {i : Nat} (hi : i < r.cs.length) (h : 0 ≤ idx r m) : (idx r m).toNat = i ↔ m = (r.cs.getD i default).n := by
  obtain ⟨h1, h2⟩ := ixN_in (p := fun j => (r.cs.getD j default).n = m) (n := r.cs.length) h
  change (r.cs.getD (idx r m).toNat default).n = m at h2
  constructor
  · intro e; rw [← e]; exact h2.symm
  · intro e; exact cs_inj hG h1 hi (by rw [h2, e])
theorem ownS_eq {r : Rc} {es : List Dt} (hE : GoodE r es) {i : Nat} (hi : i < r.cs.length) : ∀ q, q ≤ es.length → ownS r es q i = ownI r es q i
  | 0, _ => rfl
  | q + 1, h => by
    have ih := ownS_eq hE hi q (by omega)
    have hk := idx_iff hE.1.1 hi (hE.2 q (by omega)).1
    by_cases e : (es.getD q default).n = (r.cs.getD i default).n
    · simp only [ownS, ownI]; rw [if_pos e, if_pos (hk.2 e)]
    · simp only [ownS, ownI]; rw [if_neg e, if_neg (fun x => e (hk.1 x)), ih]
noncomputable def ownSL (r : Rc) (es : List Dt) (i : Nat) : List Iv := (List.range i).map (ownS r es es.length)
theorem ownSL_len (r : Rc) (es : List Dt) (i : Nat) : (ownSL r es i).length = i := by simp [ownSL]
theorem ownSL_succ (r : Rc) (es : List Dt) (i : Nat) : ownSL r es (i + 1) = ownSL r es i ++ [ownS r es es.length i] := by simp [ownSL, List.range_succ]
theorem vRows_plain (ws : List Iv) : ∀ row ∈ ws.map vRow, ∀ x ∈ row, AV.plain x = true := by
  intro row hr x hx
  obtain ⟨p, _, rfl⟩ := List.mem_map.1 hr
  exact vRow_plain p x hx
theorem con48 (a b nn : Bool) (r : Rc) (es : List Dt) (h1 : r.cs.length ≤ 10) (h3 : es.length ≤ 1048576) : Con Try.prog 48 true [.agg (rRow a b r), .vw nn (es.map tRow)] (.sl 0 2 0 r.cs.length) [(ownSL r es r.cs.length).map vRow] := by
  refine con_of_wp mixed fun48 (by simp) [1] (plain_map vRow_plain _) ?_
  unfold ac48 ro48
  simp only [zipT]
  repeat (first
    | refine wC_a rfl ?_
    | refine q_s rfl ?_
    | refine q_b rfl ?_
    | refine wG_nil ?_
    | refine wG_g rfl ?_
    | refine wG_pure (o_len_vwm rfl) ?_
    | refine wG_pure (o_not_d rfl) ?_
    | refine wG_p rfl (by first | exact rfl | omega) ?_
    | refine wG_pure (o_str2 rfl rfl rfl) ?_
    | refine wG_pure (e_istr rfl rfl (by omega)) ?_
    | refine wG_pure (e_istr0 rfl rfl (by omega)) ?_
    | refine wG_pure (o_not rfl) ?_
    | refine wG_pure (e_ia_vw0 rfl rfl (by omega) rfl) ?_
    | refine wG_pure (e_ia_vwp rfl rfl (by omega) rfl) ?_
    | refine wG_pure (e_ia_vwm rfl rfl (by omega) (by omega) rfl) ?_
    | refine wG_pure (e_ia_vwi rfl rfl (by omega) rfl) ?_
    | refine wG_pure (e_ia_vwn rfl rfl (by omega) (by omega) rfl) ?_
    | refine wG_n rfl rfl ?_
    | refine wG_u rfl rfl ?_
    | refine wG_new (o_mks rfl rfl (by omega) (by decide)) ?_)
  refine wC_loopR Nat (fun i => ⟨[(1, .vw nn (es.map tRow)), (2, .pt 0 0 0), (5, .sl 1 2 0 (ownSL r es i).length), (6, .int .i64 (i : Int))], [(1, some ((ownSL r es i).map vRow)), (0, some [[.vw a (r.cs.map cRow), .vw b (r.xs.map xRow)]])], 2⟩) (fun i => i ≤ r.cs.length) (fun i => r.cs.length - i) 0 (Nat.zero_le _) ⟨[0, 1], ?_⟩ ?_
  · exact ⟨⟨⟨rfl, rfl⟩, ⟨rfl, rfl⟩, ⟨rfl, rfl⟩, ⟨rfl, rfl⟩, trivial⟩, ⟨⟨⟨_, rfl, rfl⟩, (by show 1 < 2; decide), ltrV _ _⟩, ⟨⟨_, rfl, rfl⟩, (by show 0 < 2; decide), by simp [AV.ltr]⟩, trivial⟩, rfl, by decide⟩
  intro i hi
  have hl := ownSL_len r es i
  repeat (first
    | refine wC_a rfl ?_
    | refine q_s rfl ?_
    | refine q_b rfl ?_
    | refine wG_nil ?_
    | refine wG_g rfl ?_
    | refine wG_pure (o_len_vwm rfl) ?_
    | refine wG_pure (o_not_d rfl) ?_
    | refine wG_p rfl (by first | exact rfl | omega) ?_
    | refine wG_pure (o_str2 rfl rfl rfl) ?_
    | refine wG_pure (e_istr rfl rfl (by omega)) ?_
    | refine wG_pure (e_istr0 rfl rfl (by omega)) ?_
    | refine wG_pure (o_not rfl) ?_
    | refine wG_pure (e_ia_vw0 rfl rfl (by omega) rfl) ?_
    | refine wG_pure (e_ia_vwp rfl rfl (by omega) rfl) ?_
    | refine wG_pure (e_ia_vwm rfl rfl (by omega) (by omega) rfl) ?_
    | refine wG_pure (e_ia_vwi rfl rfl (by omega) rfl) ?_
    | refine wG_pure (e_ia_vwn rfl rfl (by omega) (by omega) rfl) ?_
    | refine wG_n rfl rfl ?_
    | refine wG_u rfl rfl ?_
    | refine wG_new (o_mks rfl rfl (by omega) (by decide)) ?_)
  refine wC_cond_d rfl (fun h2 => ?_) (fun h2 => ?_)
  · have hi2 : i < r.cs.length := by omega
    repeat (first
    | refine wC_a rfl ?_
    | refine q_s rfl ?_
    | refine q_b rfl ?_
    | refine wG_nil ?_
    | refine wG_g rfl ?_
    | refine wG_pure (o_len_vwm rfl) ?_
    | refine wG_pure (o_not_d rfl) ?_
    | refine wG_p rfl (by first | exact rfl | omega) ?_
    | refine wG_pure (o_str2 rfl rfl rfl) ?_
    | refine wG_pure (e_istr rfl rfl (by omega)) ?_
    | refine wG_pure (e_istr0 rfl rfl (by omega)) ?_
    | refine wG_pure (o_not rfl) ?_
    | refine wG_pure (e_ia_vw0 rfl rfl (by omega) rfl) ?_
    | refine wG_pure (e_ia_vwp rfl rfl (by omega) rfl) ?_
    | refine wG_pure (e_ia_vwm rfl rfl (by omega) (by omega) rfl) ?_
    | refine wG_pure (e_ia_vwi rfl rfl (by omega) rfl) ?_
    | refine wG_pure (e_ia_vwn rfl rfl (by omega) (by omega) rfl) ?_
    | refine wG_n rfl rfl ?_
    | refine wG_u rfl rfl ?_
    | refine wG_new (o_mks rfl rfl (by omega) (by decide)) ?_)
    refine wC_loop Nat (fun k => ⟨[(1, .vw nn (es.map tRow)), (2, .pt 0 0 0), (5, .sl 1 2 0 (ownSL r es i).length), (6, .int .i64 (i : Int)), (7, .pt 2 0 0), (8, .int .i64 (k : Int))], [(2, some [vRow (ownS r es k i)]), (1, some ((ownSL r es i).map vRow)), (0, some [[.vw a (r.cs.map cRow), .vw b (r.xs.map xRow)]])], 3⟩) (fun k => k ≤ es.length) (fun k => es.length - k) 0 (Nat.zero_le _) ?_ (fun _ _ => Nat.zero_le _) ?_
    · exact ⟨⟨⟨rfl, rfl⟩, ⟨rfl, rfl⟩, ⟨rfl, rfl⟩, ⟨rfl, rfl⟩, ⟨rfl, rfl⟩, ⟨rfl, rfl⟩, trivial⟩, ⟨rfl, (by show 2 < 3; decide), ltrV [_] _⟩, ⟨rfl, (by show 1 < 3; decide), ltrV _ _⟩, ⟨rfl, (by show 0 < 3; decide), by simp [AV.ltr]⟩, trivial⟩
    intro k hk
    repeat (first
    | refine wC_a rfl ?_
    | refine q_s rfl ?_
    | refine q_b rfl ?_
    | refine wG_nil ?_
    | refine wG_g rfl ?_
    | refine wG_pure (o_len_vwm rfl) ?_
    | refine wG_pure (o_not_d rfl) ?_
    | refine wG_p rfl (by first | exact rfl | omega) ?_
    | refine wG_pure (o_str2 rfl rfl rfl) ?_
    | refine wG_pure (e_istr rfl rfl (by omega)) ?_
    | refine wG_pure (e_istr0 rfl rfl (by omega)) ?_
    | refine wG_pure (o_not rfl) ?_
    | refine wG_pure (e_ia_vw0 rfl rfl (by omega) rfl) ?_
    | refine wG_pure (e_ia_vwp rfl rfl (by omega) rfl) ?_
    | refine wG_pure (e_ia_vwm rfl rfl (by omega) (by omega) rfl) ?_
    | refine wG_pure (e_ia_vwi rfl rfl (by omega) rfl) ?_
    | refine wG_pure (e_ia_vwn rfl rfl (by omega) (by omega) rfl) ?_
    | refine wG_n rfl rfl ?_
    | refine wG_u rfl rfl ?_
    | refine wG_new (o_mks rfl rfl (by omega) (by decide)) ?_)
    refine wC_cond_d rfl (fun h4 => ?_) (fun h4 => ?_)
    · have hk2 : k < es.length := by omega
      repeat (first
    | refine wC_a rfl ?_
    | refine q_s rfl ?_
    | refine q_b rfl ?_
    | refine wG_nil ?_
    | refine wG_g rfl ?_
    | refine wG_pure (o_len_vwm rfl) ?_
    | refine wG_pure (o_not_d rfl) ?_
    | refine wG_p rfl (by first | exact rfl | omega) ?_
    | refine wG_pure (o_str2 rfl rfl rfl) ?_
    | refine wG_pure (e_istr rfl rfl (by omega)) ?_
    | refine wG_pure (e_istr0 rfl rfl (by omega)) ?_
    | refine wG_pure (o_not rfl) ?_
    | refine wG_pure (e_ia_vw0 rfl rfl (by omega) rfl) ?_
    | refine wG_pure (e_ia_vwp rfl rfl (by omega) rfl) ?_
    | refine wG_pure (e_ia_vwm rfl rfl (by omega) (by omega) rfl) ?_
    | refine wG_pure (e_ia_vwi rfl rfl (by omega) rfl) ?_
    | refine wG_pure (e_ia_vwn rfl rfl (by omega) (by omega) rfl) ?_
    | refine wG_n rfl rfl ?_
    | refine wG_u rfl rfl ?_
    | refine wG_new (o_mks rfl rfl (by omega) (by decide)) ?_)
      refine wC_cond_d rfl (fun h5 => ?_) (fun h5 => ?_)
      · have e : ownS r es (k + 1) i = ⟨(es.getD k default).f, (es.getD k default).t⟩ := if_pos h5
        repeat (first
    | refine wC_a rfl ?_
    | refine q_s rfl ?_
    | refine q_b rfl ?_
    | refine wG_nil ?_
    | refine wG_g rfl ?_
    | refine wG_pure (o_len_vwm rfl) ?_
    | refine wG_pure (o_not_d rfl) ?_
    | refine wG_p rfl (by first | exact rfl | omega) ?_
    | refine wG_pure (o_str2 rfl rfl rfl) ?_
    | refine wG_pure (e_istr rfl rfl (by omega)) ?_
    | refine wG_pure (e_istr0 rfl rfl (by omega)) ?_
    | refine wG_pure (o_not rfl) ?_
    | refine wG_pure (e_ia_vw0 rfl rfl (by omega) rfl) ?_
    | refine wG_pure (e_ia_vwp rfl rfl (by omega) rfl) ?_
    | refine wG_pure (e_ia_vwm rfl rfl (by omega) (by omega) rfl) ?_
    | refine wG_pure (e_ia_vwi rfl rfl (by omega) rfl) ?_
    | refine wG_pure (e_ia_vwn rfl rfl (by omega) (by omega) rfl) ?_
    | refine wG_n rfl rfl ?_
    | refine wG_u rfl rfl ?_
    | refine wG_new (o_mks rfl rfl (by omega) (by decide)) ?_)
        refine ⟨k + 1, by omega, by omega, ⟨⟨rfl, rfl⟩, ⟨rfl, rfl⟩, ⟨rfl, rfl⟩, ⟨rfl, rfl⟩, ⟨rfl, rfl⟩, ⟨rfl, rfl⟩, trivial⟩, ⟨?_, (by show 2 < 3; decide), ltrV [_] _⟩, ⟨rfl, (by show 1 < 3; decide), ltrV _ _⟩, ⟨rfl, (by show 0 < 3; decide), by simp [AV.ltr]⟩, trivial⟩
        rw [e]; rfl
      · have e : ownS r es (k + 1) i = ownS r es k i := if_neg h5
        repeat (first
    | refine wC_a rfl ?_
    | refine q_s rfl ?_
    | refine q_b rfl ?_
    | refine wG_nil ?_
    | refine wG_g rfl ?_
    | refine wG_pure (o_len_vwm rfl) ?_
    | refine wG_pure (o_not_d rfl) ?_
    | refine wG_p rfl (by first | exact rfl | omega) ?_
    | refine wG_pure (o_str2 rfl rfl rfl) ?_
    | refine wG_pure (e_istr rfl rfl (by omega)) ?_
    | refine wG_pure (e_istr0 rfl rfl (by omega)) ?_
    | refine wG_pure (o_not rfl) ?_
    | refine wG_pure (e_ia_vw0 rfl rfl (by omega) rfl) ?_
    | refine wG_pure (e_ia_vwp rfl rfl (by omega) rfl) ?_
    | refine wG_pure (e_ia_vwm rfl rfl (by omega) (by omega) rfl) ?_
    | refine wG_pure (e_ia_vwi rfl rfl (by omega) rfl) ?_
    | refine wG_pure (e_ia_vwn rfl rfl (by omega) (by omega) rfl) ?_
    | refine wG_n rfl rfl ?_
    | refine wG_u rfl rfl ?_
    | refine wG_new (o_mks rfl rfl (by omega) (by decide)) ?_)
        refine ⟨k + 1, by omega, by omega, ⟨⟨rfl, rfl⟩, ⟨rfl, rfl⟩, ⟨rfl, rfl⟩, ⟨rfl, rfl⟩, ⟨rfl, rfl⟩, ⟨rfl, rfl⟩, trivial⟩, ⟨?_, (by show 2 < 3; decide), ltrV [_] _⟩, ⟨rfl, (by show 1 < 3; decide), ltrV _ _⟩, ⟨rfl, (by show 0 < 3; decide), by simp [AV.ltr]⟩, trivial⟩
        rw [e]; rfl
    · have hk3 : k = es.length := by omega
      subst hk3
      repeat (first | refine wG_app rfl rfl (by simp) (rows_sl rfl rfl rfl) (by simp) (by simp; omega) (by decide) ?_ | (first
    | refine wC_a rfl ?_
    | refine q_s rfl ?_
    | refine q_b rfl ?_
    | refine wG_nil ?_
    | refine wG_g rfl ?_
    | refine wG_pure (o_len_vwm rfl) ?_
    | refine wG_pure (o_not_d rfl) ?_
    | refine wG_p rfl (by first | exact rfl | omega) ?_
    | refine wG_pure (o_str2 rfl rfl rfl) ?_
    | refine wG_pure (e_istr rfl rfl (by omega)) ?_
    | refine wG_pure (e_istr0 rfl rfl (by omega)) ?_
    | refine wG_pure (o_not rfl) ?_
    | refine wG_pure (e_ia_vw0 rfl rfl (by omega) rfl) ?_
    | refine wG_pure (e_ia_vwp rfl rfl (by omega) rfl) ?_
    | refine wG_pure (e_ia_vwm rfl rfl (by omega) (by omega) rfl) ?_
    | refine wG_pure (e_ia_vwi rfl rfl (by omega) rfl) ?_
    | refine wG_pure (e_ia_vwn rfl rfl (by omega) (by omega) rfl) ?_
    | refine wG_n rfl rfl ?_
    | refine wG_u rfl rfl ?_
    | refine wG_new (o_mks rfl rfl (by omega) (by decide)) ?_))
      refine ⟨i + 1, hi2, by omega, [0, 4], ?_⟩
      simp only [ownSL_succ]
      refine ⟨⟨⟨rfl, rfl⟩, ⟨rfl, rfl⟩, ⟨by simp [lk, rn, πof], rfl⟩, ⟨rfl, rfl⟩, trivial⟩, ⟨⟨⟨_, rfl, ?_⟩, (by show 1 < 2; decide), ?_⟩, ⟨⟨_, rfl, rfl⟩, (by show 0 < 2; decide), by simp [AV.ltr]⟩, trivial⟩, rfl, by decide⟩
      · rw [← rn_rows (vRows_plain _), List.map_append]; rfl
      · exact ltrV _ _
  · have hi3 : i = r.cs.length := by omega
    subst hi3
    repeat (first
    | refine wC_a rfl ?_
    | refine q_s rfl ?_
    | refine q_b rfl ?_
    | refine wG_nil ?_
    | refine wG_g rfl ?_
    | refine wG_pure (o_len_vwm rfl) ?_
    | refine wG_pure (o_not_d rfl) ?_
    | refine wG_p rfl (by first | exact rfl | omega) ?_
    | refine wG_pure (o_str2 rfl rfl rfl) ?_
    | refine wG_pure (e_istr rfl rfl (by omega)) ?_
    | refine wG_pure (e_istr0 rfl rfl (by omega)) ?_
    | refine wG_pure (o_not rfl) ?_
    | refine wG_pure (e_ia_vw0 rfl rfl (by omega) rfl) ?_
    | refine wG_pure (e_ia_vwp rfl rfl (by omega) rfl) ?_
    | refine wG_pure (e_ia_vwm rfl rfl (by omega) (by omega) rfl) ?_
    | refine wG_pure (e_ia_vwi rfl rfl (by omega) rfl) ?_
    | refine wG_pure (e_ia_vwn rfl rfl (by omega) (by omega) rfl) ?_
    | refine wG_n rfl rfl ?_
    | refine wG_u rfl rfl ?_
    | refine wG_new (o_mks rfl rfl (by omega) (by decide)) ?_)
    rw [hl]
    exact ret_sl (.inr rfl) (retV_mv rfl) rfl
/-! ### The first conflict -/
def cP (r : Rc) (es : List Dt) (i k : Nat) : Prop := later r i k = true ∧ (ownI r es es.length i).t < (ownI r es es.length k).f
def fcQ (r : Rc) (es : List Dt) (q : Nat) : Prop := cP r es (q / r.cs.length) (q % r.cs.length)
theorem fcQ_ik {r : Rc} {es : List Dt} {i k : Nat} (hk : k < r.cs.length) : fcQ r es (i * r.cs.length + k) ↔ cP r es i k := by
  unfold fcQ
  rw [Nat.mul_comm i, Nat.mul_add_div (by omega), Nat.div_eq_of_lt hk, Nat.mul_add_mod, Nat.mod_eq_of_lt hk, Nat.add_zero]
open Classical in
noncomputable def fc (r : Rc) (es : List Dt) : Int × Int × Bool × Bool :=
  if GoodE r es then (if 0 ≤ ixN (fcQ r es) (r.cs.length * r.cs.length) then ((r.cs.getD ((ixN (fcQ r es) (r.cs.length * r.cs.length)).toNat / r.cs.length) default).n, (r.cs.getD ((ixN (fcQ r es) (r.cs.length * r.cs.length)).toNat % r.cs.length) default).n, true, true) else (0, 0, false, true)) else (0, 0, false, false)
theorem fc_no {r : Rc} {es : List Dt} (h : ¬ GoodE r es) : fc r es = (0, 0, false, false) := by unfold fc; rw [if_neg h]
theorem fc_at {r : Rc} {es : List Dt} (hE : GoodE r es) {i k : Nat} (hi : i < r.cs.length) (hk : k < r.cs.length) (hc : cP r es i k) (hb : ∀ q, q < i * r.cs.length + k → ¬ fcQ r es q) : fc r es = ((r.cs.getD i default).n, (r.cs.getD k default).n, true, true) := by
  have hlt : i * r.cs.length + k < r.cs.length * r.cs.length := by
    have : (i + 1) * r.cs.length ≤ r.cs.length * r.cs.length := Nat.mul_le_mul_right _ hi
    rw [Nat.succ_mul] at this
    omega
  have e := ixN_at hlt ((fcQ_ik hk).2 hc) hb
  unfold fc
  rw [if_pos hE, e, if_pos (Int.natCast_nonneg _), Int.toNat_natCast, Nat.mul_comm i, Nat.mul_add_div (by omega), Nat.div_eq_of_lt hk, Nat.mul_add_mod, Nat.mod_eq_of_lt hk, Nat.add_zero]
theorem fc_none {r : Rc} {es : List Dt} (hE : GoodE r es) (hb : ∀ q, q < r.cs.length * r.cs.length → ¬ fcQ r es q) : fc r es = (0, 0, false, true) := by
  unfold fc
  rw [if_pos hE, ixN_no hb, if_neg (by decide)]
noncomputable def fcV (r : Rc) (es : List Dt) : AV := .tup [.int .i64 (fc r es).1, .int .i64 (fc r es).2.1, .bool (fc r es).2.2.1, .bool (fc r es).2.2.2]
theorem ownSL_get {r : Rc} {es : List Dt} (hE : GoodE r es) {i : Nat} (hi : i < r.cs.length) : ((ownSL r es r.cs.length).map vRow)[i]? = some (vRow (ownI r es es.length i)) := by
  rw [ownSL, List.map_map, get_range hi]
  simp only [Function.comp, ownS_eq hE hi _ (Nat.le_refl _)]
theorem con27 (a b nn : Bool) (r : Rc) (es : List Dt) (h1 : r.cs.length ≤ 1048576) (h2 : r.xs.length ≤ 1048576) (h3 : es.length ≤ 1048576) : Con Try.prog 27 true [.agg (rRow a b r), .vw nn (es.map tRow)] (fcV r es) [] := by
  classical
  refine con_of_wp mixed fun27 (by simp) [] plain_nil ?_
  unfold ac27 ro27 fcV
  simp only [zipT]
  have c1 := con44 a b nn r es h1 h2 h3
  by_cases hE : GoodE r es
  · rw [decide_eq_true hE] at c1
    have hG := hE.1.1
    have h10 := hG.1
    have cO := con48 a b nn r es h10 h3
    have cL := con49 a b r hG
    have e0 : ∀ n : Nat, 0 + ((n : Int)).toNat = n := fun n => by simp
    repeat (first | refine wG_call c1 rfl rfl ?_ | refine wG_call1 cO rfl rfl ?_ | refine wG_call1 cL rfl rfl ?_ | (first
    | refine wC_a rfl ?_
    | refine q_s rfl ?_
    | refine q_b rfl ?_
    | refine wG_nil ?_
    | refine wG_g rfl ?_
    | refine wG_pure (o_len_vwm rfl) ?_
    | refine wG_pure (o_not_d rfl) ?_
    | refine wG_p rfl (by first | exact rfl | omega) ?_
    | refine wG_pure (o_str2 rfl rfl rfl) ?_
    | refine wG_pure (e_istr rfl rfl (by omega)) ?_
    | refine wG_pure (e_istr0 rfl rfl (by omega)) ?_
    | refine wG_pure (o_not rfl) ?_
    | refine wG_pure (e_ia_vw0 rfl rfl (by omega) rfl) ?_
    | refine wG_pure (e_ia_vwp rfl rfl (by omega) rfl) ?_
    | refine wG_pure (e_ia_vwm rfl rfl (by omega) (by omega) rfl) ?_
    | refine wG_pure (e_ia_vwi rfl rfl (by omega) rfl) ?_
    | refine wG_pure (e_ia_vwn rfl rfl (by omega) (by omega) rfl) ?_
    | refine wG_n rfl rfl ?_
    | refine wG_u rfl rfl ?_
    | refine wG_new (o_mks rfl rfl (by omega) (by decide)) ?_))
    refine wC_loop Nat (fun i => ⟨[(2, .pt 0 0 0), (8, .sl 1 2 0 r.cs.length), (9, .sl 2 1 0 r.cs.length), (10, .int .i64 (i : Int))], [(2, some ((maskL (later r) r.cs.length).map iRow)), (1, some ((ownSL r es r.cs.length).map vRow)), (0, some [[.vw a (r.cs.map cRow), .vw b (r.xs.map xRow)]])], 3⟩) (fun i => i ≤ r.cs.length ∧ ∀ q, q < i * r.cs.length → ¬ fcQ r es q) (fun i => r.cs.length - i) 0 ⟨Nat.zero_le _, fun q hq => by omega⟩ ?_ (fun _ _ => Nat.zero_le _) ?_
    · exact ⟨⟨⟨rfl, rfl⟩, ⟨rfl, rfl⟩, ⟨rfl, rfl⟩, ⟨rfl, rfl⟩, trivial⟩, ⟨rfl, (by show 2 < 3; decide), ltrI _ _⟩, ⟨rfl, (by show 1 < 3; decide), ltrV _ _⟩, ⟨rfl, (by show 0 < 3; decide), by simp [AV.ltr]⟩, trivial⟩
    rintro i ⟨hi, hbi⟩
    repeat (first
    | refine wC_a rfl ?_
    | refine q_s rfl ?_
    | refine q_b rfl ?_
    | refine wG_nil ?_
    | refine wG_g rfl ?_
    | refine wG_pure (o_len_vwm rfl) ?_
    | refine wG_pure (o_not_d rfl) ?_
    | refine wG_p rfl (by first | exact rfl | omega) ?_
    | refine wG_pure (o_str2 rfl rfl rfl) ?_
    | refine wG_pure (e_istr rfl rfl (by omega)) ?_
    | refine wG_pure (e_istr0 rfl rfl (by omega)) ?_
    | refine wG_pure (o_not rfl) ?_
    | refine wG_pure (e_ia_vw0 rfl rfl (by omega) rfl) ?_
    | refine wG_pure (e_ia_vwp rfl rfl (by omega) rfl) ?_
    | refine wG_pure (e_ia_vwm rfl rfl (by omega) (by omega) rfl) ?_
    | refine wG_pure (e_ia_vwi rfl rfl (by omega) rfl) ?_
    | refine wG_pure (e_ia_vwn rfl rfl (by omega) (by omega) rfl) ?_
    | refine wG_n rfl rfl ?_
    | refine wG_u rfl rfl ?_
    | refine wG_new (o_mks rfl rfl (by omega) (by decide)) ?_)
    refine wC_cond_d rfl (fun h4 => ?_) (fun h4 => ?_)
    · have hi2 : i < r.cs.length := by omega
      repeat (first
    | refine wC_a rfl ?_
    | refine q_s rfl ?_
    | refine q_b rfl ?_
    | refine wG_nil ?_
    | refine wG_g rfl ?_
    | refine wG_pure (o_len_vwm rfl) ?_
    | refine wG_pure (o_not_d rfl) ?_
    | refine wG_p rfl (by first | exact rfl | omega) ?_
    | refine wG_pure (o_str2 rfl rfl rfl) ?_
    | refine wG_pure (e_istr rfl rfl (by omega)) ?_
    | refine wG_pure (e_istr0 rfl rfl (by omega)) ?_
    | refine wG_pure (o_not rfl) ?_
    | refine wG_pure (e_ia_vw0 rfl rfl (by omega) rfl) ?_
    | refine wG_pure (e_ia_vwp rfl rfl (by omega) rfl) ?_
    | refine wG_pure (e_ia_vwm rfl rfl (by omega) (by omega) rfl) ?_
    | refine wG_pure (e_ia_vwi rfl rfl (by omega) rfl) ?_
    | refine wG_pure (e_ia_vwn rfl rfl (by omega) (by omega) rfl) ?_
    | refine wG_n rfl rfl ?_
    | refine wG_u rfl rfl ?_
    | refine wG_new (o_mks rfl rfl (by omega) (by decide)) ?_)
      refine wC_loop Nat (fun k => ⟨[(2, .pt 0 0 0), (8, .sl 1 2 0 r.cs.length), (9, .sl 2 1 0 r.cs.length), (10, .int .i64 (i : Int)), (11, .int .i64 (k : Int))], [(2, some ((maskL (later r) r.cs.length).map iRow)), (1, some ((ownSL r es r.cs.length).map vRow)), (0, some [[.vw a (r.cs.map cRow), .vw b (r.xs.map xRow)]])], 3⟩) (fun k => k ≤ r.cs.length ∧ ∀ q, q < i * r.cs.length + k → ¬ fcQ r es q) (fun k => r.cs.length - k) 0 ⟨Nat.zero_le _, fun q hq => hbi q (by omega)⟩ ?_ (fun _ _ => Nat.zero_le _) ?_
      · exact ⟨⟨⟨rfl, rfl⟩, ⟨rfl, rfl⟩, ⟨rfl, rfl⟩, ⟨rfl, rfl⟩, ⟨rfl, rfl⟩, trivial⟩, ⟨rfl, (by show 2 < 3; decide), ltrI _ _⟩, ⟨rfl, (by show 1 < 3; decide), ltrV _ _⟩, ⟨rfl, (by show 0 < 3; decide), by simp [AV.ltr]⟩, trivial⟩
      rintro k ⟨hk, hbk⟩
      by_cases hk2 : k < r.cs.length
      · have hgm := maskL_get (W := later r) hi2
        have hmi := mk10 (later r i) h10
        have cb := con50 (mkM (later r i) r.cs.length) k hmi (by omega)
        have hgi := ownSL_get hE hi2
        have hgk := ownSL_get hE hk2
        have hbit : (mkM (later r i) r.cs.length).testBit k = true ↔ later r i k = true := by rw [mkM_bit]; simp [hk2]
        repeat' (first | (refine wG_pure (e_ia_sl rfl rfl (by omega) (by omega)) ?_; simp only [e0]) | refine wG_pure (o_ldf_pt rfl rfl hgm rfl) ?_ | refine wG_pure (o_ldf_pt rfl rfl hgi rfl) ?_ | refine wG_pure (o_ldf_pt rfl rfl hgk rfl) ?_ | refine wG_call cb rfl rfl ?_ | (first
    | refine wC_a rfl ?_
    | refine q_s rfl ?_
    | refine q_b rfl ?_
    | refine wG_nil ?_
    | refine wG_g rfl ?_
    | refine wG_pure (o_len_vwm rfl) ?_
    | refine wG_pure (o_not_d rfl) ?_
    | refine wG_p rfl (by first | exact rfl | omega) ?_
    | refine wG_pure (o_str2 rfl rfl rfl) ?_
    | refine wG_pure (e_istr rfl rfl (by omega)) ?_
    | refine wG_pure (e_istr0 rfl rfl (by omega)) ?_
    | refine wG_pure (o_not rfl) ?_
    | refine wG_pure (e_ia_vw0 rfl rfl (by omega) rfl) ?_
    | refine wG_pure (e_ia_vwp rfl rfl (by omega) rfl) ?_
    | refine wG_pure (e_ia_vwm rfl rfl (by omega) (by omega) rfl) ?_
    | refine wG_pure (e_ia_vwi rfl rfl (by omega) rfl) ?_
    | refine wG_pure (e_ia_vwn rfl rfl (by omega) (by omega) rfl) ?_
    | refine wG_n rfl rfl ?_
    | refine wG_u rfl rfl ?_
    | refine wG_new (o_mks rfl rfl (by omega) (by decide)) ?_) | (refine wG_gd rfl (fun hgt => ?_) (fun hgf => ?_) <;> (first | simp only [eq_true hgt, decide_true] | simp only [eq_false hgf, decide_false])) | refine wC_cond_d rfl (fun hg => ?_) (fun hg => ?_))
        all_goals (try (exfalso; omega))
        all_goals (first
          | (have e := fc_at hE hi2 hk2 ⟨hbit.1 (by assumption), by assumption⟩ hbk
             rw [e]
             exact ret_pl (.inr rfl) (retVs_4 (retV_mv rfl) (retV_mv rfl) (retV_mv rfl) (retV_mv rfl)) rfl rfl (by simp))
          | (refine ⟨k + 1, ⟨by omega, fun q hq => ?_⟩, by omega, ⟨⟨rfl, rfl⟩, ⟨rfl, rfl⟩, ⟨rfl, rfl⟩, ⟨rfl, rfl⟩, ⟨rfl, rfl⟩, trivial⟩, ⟨rfl, (by show 2 < 3; decide), ltrI _ _⟩, ⟨rfl, (by show 1 < 3; decide), ltrV _ _⟩, ⟨rfl, (by show 0 < 3; decide), by simp [AV.ltr]⟩, trivial⟩
             by_cases hq2 : q < i * r.cs.length + k
             · exact hbk q hq2
             · have hq3 : q = i * r.cs.length + k := by omega
               rw [hq3, fcQ_ik hk2]
               rintro ⟨c1, c2⟩
               first | exact absurd (hbit.2 c1) (by assumption) | exact absurd c2 (by assumption)))
      · have hk3 : k = r.cs.length := by omega
        subst hk3
        repeat' (first | (first
    | refine wC_a rfl ?_
    | refine q_s rfl ?_
    | refine q_b rfl ?_
    | refine wG_nil ?_
    | refine wG_g rfl ?_
    | refine wG_pure (o_len_vwm rfl) ?_
    | refine wG_pure (o_not_d rfl) ?_
    | refine wG_p rfl (by first | exact rfl | omega) ?_
    | refine wG_pure (o_str2 rfl rfl rfl) ?_
    | refine wG_pure (e_istr rfl rfl (by omega)) ?_
    | refine wG_pure (e_istr0 rfl rfl (by omega)) ?_
    | refine wG_pure (o_not rfl) ?_
    | refine wG_pure (e_ia_vw0 rfl rfl (by omega) rfl) ?_
    | refine wG_pure (e_ia_vwp rfl rfl (by omega) rfl) ?_
    | refine wG_pure (e_ia_vwm rfl rfl (by omega) (by omega) rfl) ?_
    | refine wG_pure (e_ia_vwi rfl rfl (by omega) rfl) ?_
    | refine wG_pure (e_ia_vwn rfl rfl (by omega) (by omega) rfl) ?_
    | refine wG_n rfl rfl ?_
    | refine wG_u rfl rfl ?_
    | refine wG_new (o_mks rfl rfl (by omega) (by decide)) ?_) | (refine wG_gd rfl (fun hgt => ?_) (fun hgf => ?_) <;> (first | simp only [eq_true hgt, decide_true] | simp only [eq_false hgf, decide_false])) | refine wC_cond_d rfl (fun hg => ?_) (fun hg => ?_))
        all_goals (try (exfalso; omega))
        exact ⟨i + 1, ⟨by omega, fun q hq => hbk q (by rw [Nat.succ_mul] at hq; omega)⟩, by omega, ⟨⟨rfl, rfl⟩, ⟨rfl, rfl⟩, ⟨rfl, rfl⟩, ⟨rfl, rfl⟩, trivial⟩, ⟨rfl, (by show 2 < 3; decide), ltrI _ _⟩, ⟨rfl, (by show 1 < 3; decide), ltrV _ _⟩, ⟨rfl, (by show 0 < 3; decide), by simp [AV.ltr]⟩, trivial⟩
    · have hi3 : i = r.cs.length := by omega
      subst hi3
      rw [fc_none hE hbi]
      repeat (first
    | refine wC_a rfl ?_
    | refine q_s rfl ?_
    | refine q_b rfl ?_
    | refine wG_nil ?_
    | refine wG_g rfl ?_
    | refine wG_pure (o_len_vwm rfl) ?_
    | refine wG_pure (o_not_d rfl) ?_
    | refine wG_p rfl (by first | exact rfl | omega) ?_
    | refine wG_pure (o_str2 rfl rfl rfl) ?_
    | refine wG_pure (e_istr rfl rfl (by omega)) ?_
    | refine wG_pure (e_istr0 rfl rfl (by omega)) ?_
    | refine wG_pure (o_not rfl) ?_
    | refine wG_pure (e_ia_vw0 rfl rfl (by omega) rfl) ?_
    | refine wG_pure (e_ia_vwp rfl rfl (by omega) rfl) ?_
    | refine wG_pure (e_ia_vwm rfl rfl (by omega) (by omega) rfl) ?_
    | refine wG_pure (e_ia_vwi rfl rfl (by omega) rfl) ?_
    | refine wG_pure (e_ia_vwn rfl rfl (by omega) (by omega) rfl) ?_
    | refine wG_n rfl rfl ?_
    | refine wG_u rfl rfl ?_
    | refine wG_new (o_mks rfl rfl (by omega) (by decide)) ?_)
      exact ret_pl (.inr rfl) (retVs_4 (retV_mv rfl) (retV_mv rfl) (retV_mv rfl) (retV_mv rfl)) rfl rfl (by simp)
  · rw [decide_eq_false hE] at c1
    rw [fc_no hE]
    repeat (first | refine wG_call c1 rfl rfl ?_ | (first
    | refine wC_a rfl ?_
    | refine q_s rfl ?_
    | refine q_b rfl ?_
    | refine wG_nil ?_
    | refine wG_g rfl ?_
    | refine wG_pure (o_len_vwm rfl) ?_
    | refine wG_pure (o_not_d rfl) ?_
    | refine wG_p rfl (by first | exact rfl | omega) ?_
    | refine wG_pure (o_str2 rfl rfl rfl) ?_
    | refine wG_pure (e_istr rfl rfl (by omega)) ?_
    | refine wG_pure (e_istr0 rfl rfl (by omega)) ?_
    | refine wG_pure (o_not rfl) ?_
    | refine wG_pure (e_ia_vw0 rfl rfl (by omega) rfl) ?_
    | refine wG_pure (e_ia_vwp rfl rfl (by omega) rfl) ?_
    | refine wG_pure (e_ia_vwm rfl rfl (by omega) (by omega) rfl) ?_
    | refine wG_pure (e_ia_vwi rfl rfl (by omega) rfl) ?_
    | refine wG_pure (e_ia_vwn rfl rfl (by omega) (by omega) rfl) ?_
    | refine wG_n rfl rfl ?_
    | refine wG_u rfl rfl ?_
    | refine wG_new (o_mks rfl rfl (by omega) (by decide)) ?_))
    exact ret_pl (.inr rfl) (retVs_4 (retV_mv rfl) (retV_mv rfl) (retV_mv rfl) (retV_mv rfl)) rfl rfl (by simp)
end Go.Proofs.Ytencmeleapmjnaa.Rec
