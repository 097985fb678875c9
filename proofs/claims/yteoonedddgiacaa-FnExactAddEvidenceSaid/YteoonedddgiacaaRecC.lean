/- Which contexts are later: the closure, step by step, and the specification's sets. -/
import Derived.Test.YteoonedddgiacaaRecB
namespace Go.Proofs.Yteoonedddgiacaa.Rec
open Go Go.Proofs.Yteoonedddgiacaa.Ab Go.Proofs.Yteoonedddgiacaa.Il
attribute [local irreducible] wpO wpC wpDr wpQ wpG wpE stepA seqQ blkQ Ret ev
set_option maxRecDepth 10000
set_option maxHeartbeats 8000000
set_option linter.unusedSimpArgs false
set_option linter.unusedVariables false

def ac40 : AC := (.seq (.reg [⟨(some 1), none, (.box 2 true (.t 0))⟩, ⟨(some 2), none, (.mv (.c (.bool false)))⟩]) (.seq (.reg [⟨(some 3), none, (.ld true 2 (.t 1))⟩, ⟨(some 4), none, (.call 56 [(.t 3)])⟩, ⟨(some 5), none, (.mv (.t 4))⟩, ⟨(some 6), (some (5, true)), (.ld true 2 (.t 1))⟩, ⟨(some 7), (some (5, true)), (.call 57 [(.t 6)])⟩, ⟨(some 8), none, (.pick (.t 5) (.t 7) (.c (.bool false)))⟩, ⟨(some 2), none, (.mv (.t 8))⟩]) .ret))
def ro40 : List AOp := [(.mv (.t 2))]
theorem fun40 : Fun Try.prog 40 9 ac40 ro40 := ⟨Try.f40, _, Try.func40, by kernel_rfl, rfl, rfl, by kernel_rfl, by kernel_rfl, by decide⟩
def ac57 : AC := (.seq (.reg [⟨(some 1), none, (.box 2 true (.t 0))⟩, ⟨(some 2), none, (.mv (.c (.bool false)))⟩]) (.seq (.reg [⟨(some 5), none, (.ld true 2 (.t 1))⟩, ⟨(some 6), none, (.call 67 [(.t 5)])⟩, ⟨(some 3), none, (.mv (.t 6))⟩]) (.seq (.seq (.reg [⟨(some 4), none, (.mv (.c (.int .i64 0)))⟩]) (.blk 0 (.loop (.seq (.seq (.reg [⟨(some 7), none, (.mv (.t 4))⟩, ⟨(some 8), none, (.mv (.t 3))⟩, ⟨(some 9), none, (.len (.t 8))⟩, ⟨(some 10), none, (.bin .lss (.t 7) (.t 9))⟩]) (.cond (.t 10) .skip (.exit 0))) (.seq (.blk 1 (.seq (.reg [⟨(some 13), none, (.mv (.t 3))⟩, ⟨(some 14), none, (.mv (.t 4))⟩, ⟨(some 15), none, (.ia 1 (.t 13) (.t 14))⟩, ⟨(some 16), none, (.ld false 1 (.t 15))⟩, ⟨(some 17), none, (.mv (.t 4))⟩, ⟨(some 18), none, (.call 68 [(.t 16), (.t 17)])⟩]) (.cond (.t 18) (.seq (.reg [⟨(some 2), none, (.mv (.c (.bool false)))⟩]) .ret) .skip))) (.reg [⟨(some 11), none, (.mv (.t 4))⟩, ⟨(some 12), none, (.bin .add (.t 11) (.c (.int .i64 1)))⟩, ⟨(some 4), none, (.mv (.t 12))⟩])))))) (.seq (.reg [⟨(some 2), none, (.mv (.c (.bool true)))⟩]) .ret))))
def ro57 : List AOp := [(.mv (.t 2))]
theorem fun57 : Fun Try.prog 57 19 ac57 ro57 := ⟨Try.f57, _, Try.func57, by kernel_rfl, rfl, rfl, by kernel_rfl, by kernel_rfl, by decide⟩
def ac67 : AC := (.seq (.reg [⟨(some 1), none, (.box 2 true (.t 0))⟩, ⟨(some 2), none, (.mv (.c .nilS))⟩]) (.seq (.reg [⟨(some 9), none, (.fa 0 (.t 1))⟩, ⟨(some 10), none, (.ld false 1 (.t 9))⟩, ⟨(some 11), none, (.len (.t 10))⟩, ⟨(some 12), none, (.mks 1 8 [(.int .i64 0)] (.t 11) (.t 11))⟩, ⟨(some 3), none, (.mv (.t 12))⟩]) (.seq (.seq (.reg [⟨(some 4), none, (.mv (.c (.int .i64 0)))⟩]) (.blk 0 (.loop (.seq (.seq (.reg [⟨(some 13), none, (.mv (.t 4))⟩, ⟨(some 14), none, (.fa 1 (.t 1))⟩, ⟨(some 15), none, (.ld false 1 (.t 14))⟩, ⟨(some 16), none, (.len (.t 15))⟩, ⟨(some 17), none, (.bin .lss (.t 13) (.t 16))⟩]) (.cond (.t 17) .skip (.exit 0))) (.seq (.blk 1 (.seq (.dreg [⟨(some 20), none, (.ld true 2 (.t 1))⟩, ⟨(some 21), none, (.fa 1 (.t 1))⟩, ⟨(some 22), none, (.ld false 1 (.t 21))⟩, ⟨(some 23), none, (.mv (.t 4))⟩, ⟨(some 24), none, (.ia 2 (.t 22) (.t 23))⟩, ⟨(some 25), none, (.fa 0 (.t 24))⟩, ⟨(some 26), none, (.ld false 1 (.t 25))⟩, ⟨(some 27), none, (.call 41 [(.t 20), (.t 26)])⟩, ⟨(some 28), none, (.ld true 2 (.t 1))⟩, ⟨(some 29), none, (.fa 1 (.t 1))⟩, ⟨(some 30), none, (.ld false 1 (.t 29))⟩, ⟨(some 31), none, (.mv (.t 4))⟩, ⟨(some 32), none, (.ia 2 (.t 30) (.t 31))⟩, ⟨(some 33), none, (.fa 1 (.t 32))⟩, ⟨(some 34), none, (.ld false 1 (.t 33))⟩, ⟨(some 35), none, (.call 41 [(.t 28), (.t 34)])⟩, ⟨(some 5), none, (.mv (.t 27))⟩, ⟨(some 6), none, (.mv (.t 35))⟩] [[], [], [1], [], [1, 2, 3], [1, 2, 3, 4], [1, 2, 3, 4, 5], [0, 1, 2, 3, 4, 5, 6], [], [], [9], [], [9, 10, 11], [9, 10, 11, 12], [9, 10, 11, 12, 13], [0, 1, 2, 3, 4, 5, 6, 7, 8, 9, 10, 11, 12, 13, 14], [0, 1, 2, 3, 4, 5, 6, 7, 8, 9, 10, 11, 12, 13, 14, 15], [0, 1, 2, 3, 4, 5, 6, 7, 8, 9, 10, 11, 12, 13, 14, 15, 16]]) (.reg [⟨(some 36), none, (.mv (.t 3))⟩, ⟨(some 37), none, (.mv (.t 5))⟩, ⟨(some 38), none, (.mv (.t 3))⟩, ⟨(some 39), none, (.mv (.t 5))⟩, ⟨(some 40), none, (.ia 1 (.t 38) (.t 39))⟩, ⟨(some 41), none, (.ld false 1 (.t 40))⟩, ⟨(some 42), none, (.mv (.t 6))⟩, ⟨(some 43), none, (.cv .u64 (.t 42))⟩, ⟨(some 44), none, (.bin .shl (.c (.int .i64 1)) (.t 43))⟩, ⟨(some 45), none, (.bin .or (.t 41) (.t 44))⟩, ⟨(some 46), none, (.ia 1 (.t 36) (.t 37))⟩, ⟨none, none, (.st 1 (.t 46) (.t 45))⟩]))) (.reg [⟨(some 18), none, (.mv (.t 4))⟩, ⟨(some 19), none, (.bin .add (.t 18) (.c (.int .i64 1)))⟩, ⟨(some 4), none, (.mv (.t 19))⟩])))))) (.seq (.seq (.reg [⟨(some 7), none, (.mv (.c (.int .i64 0)))⟩]) (.blk 2 (.loop (.seq (.seq (.reg [⟨(some 47), none, (.mv (.t 7))⟩, ⟨(some 48), none, (.mv (.t 3))⟩, ⟨(some 49), none, (.len (.t 48))⟩, ⟨(some 50), none, (.bin .lss (.t 47) (.t 49))⟩]) (.cond (.t 50) .skip (.exit 2))) (.seq (.blk 3 (.seq (.reg [⟨(some 8), none, (.mv (.c (.int .i64 0)))⟩]) (.blk 4 (.loop (.seq (.seq (.reg [⟨(some 53), none, (.mv (.t 8))⟩, ⟨(some 54), none, (.mv (.t 3))⟩, ⟨(some 55), none, (.len (.t 54))⟩, ⟨(some 56), none, (.bin .lss (.t 53) (.t 55))⟩]) (.cond (.t 56) .skip (.exit 4))) (.seq (.blk 5 (.seq (.reg [⟨(some 59), none, (.mv (.t 3))⟩, ⟨(some 60), none, (.mv (.t 8))⟩, ⟨(some 61), none, (.ia 1 (.t 59) (.t 60))⟩, ⟨(some 62), none, (.ld false 1 (.t 61))⟩, ⟨(some 63), none, (.mv (.t 7))⟩, ⟨(some 64), none, (.cv .u64 (.t 63))⟩, ⟨(some 65), none, (.bin .shr (.t 62) (.t 64))⟩, ⟨(some 66), none, (.bin .and (.t 65) (.c (.int .i64 1)))⟩, ⟨(some 67), none, (.bin .eql (.t 66) (.c (.int .i64 1)))⟩]) (.cond (.t 67) (.dreg [⟨(some 68), none, (.mv (.t 3))⟩, ⟨(some 69), none, (.mv (.t 8))⟩, ⟨(some 70), none, (.mv (.t 3))⟩, ⟨(some 71), none, (.mv (.t 8))⟩, ⟨(some 72), none, (.ia 1 (.t 70) (.t 71))⟩, ⟨(some 73), none, (.ld false 1 (.t 72))⟩, ⟨(some 74), none, (.mv (.t 3))⟩, ⟨(some 75), none, (.mv (.t 7))⟩, ⟨(some 76), none, (.ia 1 (.t 74) (.t 75))⟩, ⟨(some 77), none, (.ld false 1 (.t 76))⟩, ⟨(some 78), none, (.bin .or (.t 73) (.t 77))⟩, ⟨(some 79), none, (.ia 1 (.t 68) (.t 69))⟩, ⟨none, none, (.st 1 (.t 79) (.t 78))⟩] [[], [], [], [], [2, 3], [2, 3, 4], [], [], [6, 7], [6, 7, 8], [2, 3, 4, 5, 6, 7, 8, 9], [0, 1, 2, 3, 4, 5, 6, 7, 8, 9, 10], [0, 1, 2, 3, 4, 5, 6, 7, 8, 9, 10, 11]]) .skip))) (.reg [⟨(some 57), none, (.mv (.t 8))⟩, ⟨(some 58), none, (.bin .add (.t 57) (.c (.int .i64 1)))⟩, ⟨(some 8), none, (.mv (.t 58))⟩]))))))) (.reg [⟨(some 51), none, (.mv (.t 7))⟩, ⟨(some 52), none, (.bin .add (.t 51) (.c (.int .i64 1)))⟩, ⟨(some 7), none, (.mv (.t 52))⟩])))))) (.seq (.reg [⟨(some 80), none, (.mv (.t 3))⟩, ⟨(some 2), none, (.mv (.t 80))⟩]) .ret)))))
def ro67 : List AOp := [(.mv (.t 2))]
theorem fun67 : Fun Try.prog 67 81 ac67 ro67 := ⟨Try.f67, _, Try.func67, by kernel_rfl, rfl, rfl, by kernel_rfl, by kernel_rfl, by decide⟩
def ac68 : AC := (.seq (.reg [⟨(some 4), none, (.mv (.c (.bool false)))⟩]) (.seq (.reg [⟨(some 5), none, (.mv (.t 0))⟩, ⟨(some 6), none, (.mv (.t 1))⟩, ⟨(some 7), none, (.cv .u64 (.t 6))⟩, ⟨(some 8), none, (.bin .shr (.t 5) (.t 7))⟩, ⟨(some 9), none, (.bin .and (.t 8) (.c (.int .i64 1)))⟩, ⟨(some 10), none, (.bin .eql (.t 9) (.c (.int .i64 1)))⟩, ⟨(some 4), none, (.mv (.t 10))⟩]) .ret))
def ro68 : List AOp := [(.mv (.t 4))]
theorem fun68 : Fun Try.prog 68 11 ac68 ro68 := ⟨Try.f68, _, Try.func68, by kernel_rfl, rfl, rfl, by kernel_rfl, by kernel_rfl, by decide⟩

/-! ### The closure, step by step -/
noncomputable def lk0 (r : Rc) : Nat → Nat → Nat → Bool
  | 0 => fun _ _ => false
  | q + 1 => fun i k => lk0 r q i k || (decide (i = (idx r (r.xs.getD q default).u).toNat) && decide (k = (idx r (r.xs.getD q default).l).toNat))
/-- Row i takes in row j, if it holds j. -/
def ws (W : Nat → Nat → Bool) (j i : Nat) : Nat → Nat → Bool := fun a k => W a k || (decide (a = i) && (W i j && W j k))
def wsR (W : Nat → Nat → Bool) (j : Nat) : Nat → Nat → Nat → Bool
  | 0 => W
  | i + 1 => ws (wsR W j i) j i
def wsA (W : Nat → Nat → Bool) (n : Nat) : Nat → Nat → Nat → Bool
  | 0 => W
  | j + 1 => wsR (wsA W n j) j n
noncomputable def later (r : Rc) : Nat → Nat → Bool := wsA (lk0 r r.xs.length) r.cs.length r.cs.length
def consis (r : Rc) : Prop := ∀ i, i < r.cs.length → later r i i = false
def GoodC (r : Rc) : Prop := GoodR r ∧ consis r
theorem ws_ne {W : Nat → Nat → Bool} {j i a : Nat} (h : a ≠ i) : ws W j i a = W a := by funext k; simp [ws, h]
theorem ws_eq {W : Nat → Nat → Bool} {j i : Nat} (h : W i j = true) : ws W j i i = fun k => W i k || W j k := by funext k; simp [ws, h]
theorem ws_no {W : Nat → Nat → Bool} {j i : Nat} (h : W i j = false) : ws W j i = W := by
  funext a k
  by_cases e : a = i
  · subst e; simp [ws, h]
  · simp [ws, e]

theorem set_range {α : Type} {f g : Nat → α} {n i : Nat} {v : α} (h1 : g i = v) (h2 : ∀ a, a ≠ i → g a = f a) : ((List.range n).map f).set i v = (List.range n).map g := by
  refine List.ext_getElem (by simp) (fun k hk1 hk2 => ?_)
  simp only [List.getElem_set, List.getElem_map, List.getElem_range]
  split
  · rename_i e; subst e; exact h1.symm
  · rename_i e; exact (h2 k (fun q => e q.symm)).symm
theorem get_range {α : Type} {f : Nat → α} {n i : Nat} (h : i < n) : ((List.range n).map f)[i]? = some (f i) := by
  simp [List.getElem?_map, List.getElem?_range h]

def maskL (W : Nat → Nat → Bool) (n : Nat) : List Int := (List.range n).map fun i => ((mkM (W i) n : Nat) : Int)
theorem maskL_len (W : Nat → Nat → Bool) (n : Nat) : (maskL W n).length = n := by simp [maskL]
theorem maskL_get {W : Nat → Nat → Bool} {n i : Nat} (h : i < n) : ((maskL W n).map iRow)[i]? = some (iRow ((mkM (W i) n : Nat) : Int)) := by
  rw [maskL, List.map_map]; exact get_range h
theorem maskL_set {W W' : Nat → Nat → Bool} {n i m : Nat} (h1 : mkM (W' i) n = m) (h2 : ∀ a, a ≠ i → W' a = W a) : ((maskL W n).map iRow).set i (iRow (m : Int)) = (maskL W' n).map iRow := by
  rw [maskL, maskL, List.map_map, List.map_map]
  refine set_range ?_ (fun a ha => ?_)
  · simp only [Function.comp, h1]
  · simp only [Function.comp, h2 a ha]
theorem mask0 (n : Nat) : (maskL (fun _ _ => false) n).map iRow = List.replicate n [AV.int .i64 0] := by
  rw [maskL, List.map_map]
  refine List.eq_replicate_iff.2 ⟨by simp, fun x hx => ?_⟩
  obtain ⟨i, _, rfl⟩ := List.mem_map.1 hx
  simp [Function.comp, mkM_none, iRow]
theorem mk10 (f : Nat → Bool) {n : Nat} (hn : n ≤ 10) : mkM f n < 1024 := Nat.lt_of_lt_of_le (mkM_lt f n) (Nat.pow_le_pow_right (by decide) hn)
theorem p10 {b n : Nat} (hb : b < n) (hn : n ≤ 10) : 2 ^ b < 1024 := Nat.lt_of_lt_of_le (Nat.pow_lt_pow_right (by decide) hb) (Nat.pow_le_pow_right (by decide) hn)

theorem con68 (m k : Nat) (hm : m < 1024) (hk : k ≤ 62) : Con Try.prog 68 true [.int .i64 (m : Int), .int .i64 (k : Int)] (.bool (decide (m.testBit k = true))) [] := by
  refine con_of_wp mixed fun68 (by simp) [] plain_nil ?_
  unfold ac68 ro68
  simp only [zipT]
  have hs : m >>> k ≤ 1024 := by rw [Nat.shiftRight_eq_div_pow]; exact Nat.le_trans (Nat.div_le_self _ _) (by omega)
  repeat (first | refine wG_pure (o_cvu rfl (by omega)) ?_ | refine wG_pure (o_shr rfl rfl (by omega)) ?_ | refine wG_pure (o_and (b := 1) rfl rfl (by omega) (by decide)) ?_ | (first
    | refine wC_a rfl ?_
    | refine q_s rfl ?_
    | refine q_b rfl ?_
    | refine wG_nil ?_
    | refine wG_g rfl ?_
    | refine wG_pure (o_len_vwm rfl) ?_
    | refine wG_pure (o_not_d rfl) ?_
    | refine wG_p rfl (by first | exact rfl | omega) ?_
    | refine wG_pure (o_str2 rfl rfl rfl) ?_
    | refine wG_pure (e_istr rfl rfl (by omega)) ?_
    | refine wG_pure (e_istr0 rfl rfl (by omega)) ?_
    | refine wG_pure (o_not rfl) ?_
    | refine wG_pure (e_ia_vw0 rfl rfl (by omega) rfl) ?_
    | refine wG_pure (e_ia_vwp rfl rfl (by omega) rfl) ?_
    | refine wG_pure (e_ia_vwm rfl rfl (by omega) (by omega) rfl) ?_
    | refine wG_pure (e_ia_vwi rfl rfl (by omega) rfl) ?_
    | refine wG_pure (e_ia_vwn rfl rfl (by omega) (by omega) rfl) ?_
    | refine wG_n rfl rfl ?_
    | refine wG_u rfl rfl ?_
    | refine wG_new (o_mks rfl rfl (by omega) (by decide)) ?_))
  refine ret_boolE (.inr rfl) ⟨_, retV_mv rfl, ?_⟩
  exact decide_eq_decide.2 (bit_iff m k)
theorem con67 (a b : Bool) (r : Rc) (hG : GoodR r) : Con Try.prog 67 true [.agg (rRow a b r)] (.sl 0 1 0 r.cs.length) [(maskL (later r) r.cs.length).map iRow] := by
  have h10 := hG.1
  have h24 := hG.2.1
  refine con_of_wp mixed fun67 (by simp) [1] (plain_map iRow_plain _) ?_
  unfold ac67 ro67
  simp only [zipT]
  have cf := fun m => con41 a b r m (by omega)
  have e0 : ∀ n : Nat, 0 + ((n : Int)).toNat = n := fun n => by simp
  generalize hn : r.cs.length = n at *
  repeat (first
    | refine wC_a rfl ?_
    | refine q_s rfl ?_
    | refine q_b rfl ?_
    | refine wG_nil ?_
    | refine wG_g rfl ?_
    | refine wG_pure (o_len_vwm rfl) ?_
    | refine wG_pure (o_not_d rfl) ?_
    | refine wG_p rfl (by first | exact rfl | omega) ?_
    | refine wG_pure (o_str2 rfl rfl rfl) ?_
    | refine wG_pure (e_istr rfl rfl (by omega)) ?_
    | refine wG_pure (e_istr0 rfl rfl (by omega)) ?_
    | refine wG_pure (o_not rfl) ?_
    | refine wG_pure (e_ia_vw0 rfl rfl (by omega) rfl) ?_
    | refine wG_pure (e_ia_vwp rfl rfl (by omega) rfl) ?_
    | refine wG_pure (e_ia_vwm rfl rfl (by omega) (by omega) rfl) ?_
    | refine wG_pure (e_ia_vwi rfl rfl (by omega) rfl) ?_
    | refine wG_pure (e_ia_vwn rfl rfl (by omega) (by omega) rfl) ?_
    | refine wG_n rfl rfl ?_
    | refine wG_u rfl rfl ?_
    | refine wG_new (o_mks rfl rfl (by omega) (by decide)) ?_)
  rw [hn]
  repeat (first
    | refine wC_a rfl ?_
    | refine q_s rfl ?_
    | refine q_b rfl ?_
    | refine wG_nil ?_
    | refine wG_g rfl ?_
    | refine wG_pure (o_len_vwm rfl) ?_
    | refine wG_pure (o_not_d rfl) ?_
    | refine wG_p rfl (by first | exact rfl | omega) ?_
    | refine wG_pure (o_str2 rfl rfl rfl) ?_
    | refine wG_pure (e_istr rfl rfl (by omega)) ?_
    | refine wG_pure (e_istr0 rfl rfl (by omega)) ?_
    | refine wG_pure (o_not rfl) ?_
    | refine wG_pure (e_ia_vw0 rfl rfl (by omega) rfl) ?_
    | refine wG_pure (e_ia_vwp rfl rfl (by omega) rfl) ?_
    | refine wG_pure (e_ia_vwm rfl rfl (by omega) (by omega) rfl) ?_
    | refine wG_pure (e_ia_vwi rfl rfl (by omega) rfl) ?_
    | refine wG_pure (e_ia_vwn rfl rfl (by omega) (by omega) rfl) ?_
    | refine wG_n rfl rfl ?_
    | refine wG_u rfl rfl ?_
    | refine wG_new (o_mks rfl rfl (by omega) (by decide)) ?_)
  refine wC_loop Nat (fun q => ⟨[(1, .pt 0 0 0), (3, .sl 1 1 0 n), (4, .int .i64 (q : Int))], [(1, some ((maskL (lk0 r q) n).map iRow)), (0, some [[.vw a (r.cs.map cRow), .vw b (r.xs.map xRow)]])], 2⟩) (fun q => q ≤ r.xs.length) (fun q => r.xs.length - q) 0 (Nat.zero_le _) ?_ (fun _ _ => Nat.zero_le _) ?_
  · refine ⟨⟨⟨rfl, rfl⟩, ⟨rfl, rfl⟩, ⟨rfl, rfl⟩, trivial⟩, ⟨?_, by show 1 < 2; decide, ltrI _ _⟩, ⟨rfl, by show 0 < 2; decide, by simp [AV.ltr]⟩, trivial⟩
    exact congrArg some (mask0 n).symm
  intro q hq
  repeat (first
    | refine wC_a rfl ?_
    | refine q_s rfl ?_
    | refine q_b rfl ?_
    | refine wG_nil ?_
    | refine wG_g rfl ?_
    | refine wG_pure (o_len_vwm rfl) ?_
    | refine wG_pure (o_not_d rfl) ?_
    | refine wG_p rfl (by first | exact rfl | omega) ?_
    | refine wG_pure (o_str2 rfl rfl rfl) ?_
    | refine wG_pure (e_istr rfl rfl (by omega)) ?_
    | refine wG_pure (e_istr0 rfl rfl (by omega)) ?_
    | refine wG_pure (o_not rfl) ?_
    | refine wG_pure (e_ia_vw0 rfl rfl (by omega) rfl) ?_
    | refine wG_pure (e_ia_vwp rfl rfl (by omega) rfl) ?_
    | refine wG_pure (e_ia_vwm rfl rfl (by omega) (by omega) rfl) ?_
    | refine wG_pure (e_ia_vwi rfl rfl (by omega) rfl) ?_
    | refine wG_pure (e_ia_vwn rfl rfl (by omega) (by omega) rfl) ?_
    | refine wG_n rfl rfl ?_
    | refine wG_u rfl rfl ?_
    | refine wG_new (o_mks rfl rfl (by omega) (by decide)) ?_)
  refine wC_cond_d rfl (fun h2 => ?_) (fun h2 => ?_)
  · have hq2 : q < r.xs.length := by omega
    obtain ⟨g1, g2, g3, g4⟩ := hG.2.2.2 q hq2
    have b1 := idx_b r (r.xs.getD q default).u
    have b2 := idx_b r (r.xs.getD q default).l
    have c1 := cf (r.xs.getD q default).u
    have c2 := cf (r.xs.getD q default).l
    obtain ⟨A, hA⟩ : ∃ A : Nat, idx r (r.xs.getD q default).u = A := ⟨_, (Int.toNat_of_nonneg g2).symm⟩
    obtain ⟨B, hB⟩ : ∃ B : Nat, idx r (r.xs.getD q default).l = B := ⟨_, (Int.toNat_of_nonneg g3).symm⟩
    rw [hA] at c1 b1
    rw [hB] at c2 b2
    have hAn : A < n := by omega
    have hBn : B < n := by omega
    have hget := maskL_get (W := lk0 r q) hAn
    have hm := mk10 (lk0 r q A) h10
    have hp := p10 hBn h10
    have hset : ((maskL (lk0 r q) n).map iRow).set A (iRow ((mkM (lk0 r q A) n ||| 2 ^ B : Nat) : Int)) = (maskL (lk0 r (q + 1)) n).map iRow := by
      refine maskL_set ?_ (fun x hx => ?_)
      · rw [mkM_or1 _ _ _ hBn]
        refine mkM_congr n (fun k _ => ?_)
        simp [lk0, hA, hB, -List.getD_eq_getElem?_getD]
      · funext k; simp [lk0, hA, hx, -List.getD_eq_getElem?_getD]
    repeat (first | refine wE_c c1 rfl rfl rfl ?_ | refine wE_c c2 rfl rfl rfl ?_ | refine wG_call c1 rfl rfl ?_ | refine wG_call c2 rfl rfl ?_ | (refine wG_pure (e_ia_sl rfl rfl (by omega) (by omega)) ?_; simp only [e0]) | refine wG_pure (o_ldf_pt rfl rfl hget rfl) ?_ | refine wG_pure (o_cvu rfl (by omega)) ?_ | refine wG_pure (o_shl1 rfl rfl (by omega)) ?_ | refine wG_pure (o_or rfl rfl (by omega) (by omega)) ?_ | refine wG_upd (o_st1 rfl rfl hget rfl rfl rfl) ?_ | (first
    | refine wC_a rfl ?_
    | refine q_s rfl ?_
    | refine q_b rfl ?_
    | refine wG_nil ?_
    | refine wG_g rfl ?_
    | refine wG_pure (o_len_vwm rfl) ?_
    | refine wG_pure (o_not_d rfl) ?_
    | refine wG_p rfl (by first | exact rfl | omega) ?_
    | refine wG_pure (o_str2 rfl rfl rfl) ?_
    | refine wG_pure (e_istr rfl rfl (by omega)) ?_
    | refine wG_pure (e_istr0 rfl rfl (by omega)) ?_
    | refine wG_pure (o_not rfl) ?_
    | refine wG_pure (e_ia_vw0 rfl rfl (by omega) rfl) ?_
    | refine wG_pure (e_ia_vwp rfl rfl (by omega) rfl) ?_
    | refine wG_pure (e_ia_vwm rfl rfl (by omega) (by omega) rfl) ?_
    | refine wG_pure (e_ia_vwi rfl rfl (by omega) rfl) ?_
    | refine wG_pure (e_ia_vwn rfl rfl (by omega) (by omega) rfl) ?_
    | refine wG_n rfl rfl ?_
    | refine wG_u rfl rfl ?_
    | refine wG_new (o_mks rfl rfl (by omega) (by decide)) ?_) | (first
    | refine wE_nil (by kernel_rfl) ?_
    | refine wE_gy rfl ?_
    | refine wE_gn rfl rfl rfl ?_
    | refine wE_gu rfl rfl ?_
    | refine wE_gnn rfl rfl rfl ?_
    | refine wE_v (o_len_vwm rfl) rfl ?_
    | refine wE_v (o_not_d rfl) rfl ?_
    | refine wE_p rfl (by first | exact rfl | omega) rfl ?_
    | refine wE_v (o_str2 rfl rfl rfl) rfl ?_
    | refine wE_v (e_istr rfl rfl (by omega)) rfl ?_
    | refine wE_v (e_istr0 rfl rfl (by omega)) rfl ?_
    | refine wE_v (o_not rfl) rfl ?_
    | refine wE_v (e_ia_vw0 rfl rfl (by omega) rfl) rfl ?_
    | refine wE_v (e_ia_vwp rfl rfl (by omega) rfl) rfl ?_
    | refine wE_v (e_ia_vwm rfl rfl (by omega) (by omega) rfl) rfl ?_
    | refine wE_v (e_ia_vwi rfl rfl (by omega) rfl) rfl ?_
    | refine wE_v (e_ia_vwn rfl rfl (by omega) (by omega) rfl) rfl ?_
    | refine wE_n rfl rfl rfl ?_
    | refine wE_u rfl rfl rfl ?_
    | refine wE_new (o_mks rfl rfl (by omega) (by decide)) rfl ?_))
    refine ⟨q + 1, by omega, by omega, ⟨⟨rfl, rfl⟩, ⟨rfl, rfl⟩, ⟨rfl, rfl⟩, trivial⟩, ⟨?_, by show 1 < 2; decide, ltrI _ _⟩, ⟨rfl, by show 0 < 2; decide, by simp [AV.ltr]⟩, trivial⟩
    exact congrArg some hset
  have hq3 : q = r.xs.length := by omega
  subst hq3
  repeat (first
    | refine wC_a rfl ?_
    | refine q_s rfl ?_
    | refine q_b rfl ?_
    | refine wG_nil ?_
    | refine wG_g rfl ?_
    | refine wG_pure (o_len_vwm rfl) ?_
    | refine wG_pure (o_not_d rfl) ?_
    | refine wG_p rfl (by first | exact rfl | omega) ?_
    | refine wG_pure (o_str2 rfl rfl rfl) ?_
    | refine wG_pure (e_istr rfl rfl (by omega)) ?_
    | refine wG_pure (e_istr0 rfl rfl (by omega)) ?_
    | refine wG_pure (o_not rfl) ?_
    | refine wG_pure (e_ia_vw0 rfl rfl (by omega) rfl) ?_
    | refine wG_pure (e_ia_vwp rfl rfl (by omega) rfl) ?_
    | refine wG_pure (e_ia_vwm rfl rfl (by omega) (by omega) rfl) ?_
    | refine wG_pure (e_ia_vwi rfl rfl (by omega) rfl) ?_
    | refine wG_pure (e_ia_vwn rfl rfl (by omega) (by omega) rfl) ?_
    | refine wG_n rfl rfl ?_
    | refine wG_u rfl rfl ?_
    | refine wG_new (o_mks rfl rfl (by omega) (by decide)) ?_)
  refine wC_loop Nat (fun j => ⟨[(3, .sl 1 1 0 n), (7, .int .i64 (j : Int))], [(1, some ((maskL (wsA (lk0 r r.xs.length) n j) n).map iRow))], 2⟩) (fun j => j ≤ n) (fun j => n - j) 0 (Nat.zero_le _) ?_ (fun _ _ => Nat.zero_le _) ?_
  · exact ⟨⟨⟨rfl, rfl⟩, ⟨rfl, rfl⟩, trivial⟩, ⟨rfl, by show 1 < 2; decide, ltrI _ _⟩, trivial⟩
  intro j hj
  repeat (first
    | refine wC_a rfl ?_
    | refine q_s rfl ?_
    | refine q_b rfl ?_
    | refine wG_nil ?_
    | refine wG_g rfl ?_
    | refine wG_pure (o_len_vwm rfl) ?_
    | refine wG_pure (o_not_d rfl) ?_
    | refine wG_p rfl (by first | exact rfl | omega) ?_
    | refine wG_pure (o_str2 rfl rfl rfl) ?_
    | refine wG_pure (e_istr rfl rfl (by omega)) ?_
    | refine wG_pure (e_istr0 rfl rfl (by omega)) ?_
    | refine wG_pure (o_not rfl) ?_
    | refine wG_pure (e_ia_vw0 rfl rfl (by omega) rfl) ?_
    | refine wG_pure (e_ia_vwp rfl rfl (by omega) rfl) ?_
    | refine wG_pure (e_ia_vwm rfl rfl (by omega) (by omega) rfl) ?_
    | refine wG_pure (e_ia_vwi rfl rfl (by omega) rfl) ?_
    | refine wG_pure (e_ia_vwn rfl rfl (by omega) (by omega) rfl) ?_
    | refine wG_n rfl rfl ?_
    | refine wG_u rfl rfl ?_
    | refine wG_new (o_mks rfl rfl (by omega) (by decide)) ?_)
  refine wC_cond_d rfl (fun h3 => ?_) (fun h3 => ?_)
  · have hj2 : j < n := by omega
    repeat (first
    | refine wC_a rfl ?_
    | refine q_s rfl ?_
    | refine q_b rfl ?_
    | refine wG_nil ?_
    | refine wG_g rfl ?_
    | refine wG_pure (o_len_vwm rfl) ?_
    | refine wG_pure (o_not_d rfl) ?_
    | refine wG_p rfl (by first | exact rfl | omega) ?_
    | refine wG_pure (o_str2 rfl rfl rfl) ?_
    | refine wG_pure (e_istr rfl rfl (by omega)) ?_
    | refine wG_pure (e_istr0 rfl rfl (by omega)) ?_
    | refine wG_pure (o_not rfl) ?_
    | refine wG_pure (e_ia_vw0 rfl rfl (by omega) rfl) ?_
    | refine wG_pure (e_ia_vwp rfl rfl (by omega) rfl) ?_
    | refine wG_pure (e_ia_vwm rfl rfl (by omega) (by omega) rfl) ?_
    | refine wG_pure (e_ia_vwi rfl rfl (by omega) rfl) ?_
    | refine wG_pure (e_ia_vwn rfl rfl (by omega) (by omega) rfl) ?_
    | refine wG_n rfl rfl ?_
    | refine wG_u rfl rfl ?_
    | refine wG_new (o_mks rfl rfl (by omega) (by decide)) ?_)
    refine wC_loop Nat (fun i => ⟨[(3, .sl 1 1 0 n), (7, .int .i64 (j : Int)), (8, .int .i64 (i : Int))], [(1, some ((maskL (wsR (wsA (lk0 r r.xs.length) n j) j i) n).map iRow))], 2⟩) (fun i => i ≤ n) (fun i => n - i) 0 (Nat.zero_le _) ?_ (fun _ _ => Nat.zero_le _) ?_
    · exact ⟨⟨⟨rfl, rfl⟩, ⟨rfl, rfl⟩, ⟨rfl, rfl⟩, trivial⟩, ⟨rfl, by show 1 < 2; decide, ltrI _ _⟩, trivial⟩
    intro i hi
    repeat (first
    | refine wC_a rfl ?_
    | refine q_s rfl ?_
    | refine q_b rfl ?_
    | refine wG_nil ?_
    | refine wG_g rfl ?_
    | refine wG_pure (o_len_vwm rfl) ?_
    | refine wG_pure (o_not_d rfl) ?_
    | refine wG_p rfl (by first | exact rfl | omega) ?_
    | refine wG_pure (o_str2 rfl rfl rfl) ?_
    | refine wG_pure (e_istr rfl rfl (by omega)) ?_
    | refine wG_pure (e_istr0 rfl rfl (by omega)) ?_
    | refine wG_pure (o_not rfl) ?_
    | refine wG_pure (e_ia_vw0 rfl rfl (by omega) rfl) ?_
    | refine wG_pure (e_ia_vwp rfl rfl (by omega) rfl) ?_
    | refine wG_pure (e_ia_vwm rfl rfl (by omega) (by omega) rfl) ?_
    | refine wG_pure (e_ia_vwi rfl rfl (by omega) rfl) ?_
    | refine wG_pure (e_ia_vwn rfl rfl (by omega) (by omega) rfl) ?_
    | refine wG_n rfl rfl ?_
    | refine wG_u rfl rfl ?_
    | refine wG_new (o_mks rfl rfl (by omega) (by decide)) ?_)
    refine wC_cond_d rfl (fun h4 => ?_) (fun h4 => ?_)
    · have hi2 : i < n := by omega
      generalize hW : wsR (wsA (lk0 r r.xs.length) n j) j i = W
      have hW2 : wsR (wsA (lk0 r r.xs.length) n j) j (i + 1) = ws W j i := by rw [← hW]; rfl
      have hgi := maskL_get (W := W) hi2
      have hgj := maskL_get (W := W) hj2
      have hmi := mk10 (W i) h10
      have hmj := mk10 (W j) h10
      have hs : mkM (W i) n >>> j ≤ 1024 := by rw [Nat.shiftRight_eq_div_pow]; exact Nat.le_trans (Nat.div_le_self _ _) (by omega)
      repeat (first | (refine wG_pure (e_ia_sl rfl rfl (by omega) (by omega)) ?_; simp only [e0]) | refine wG_pure (o_ldf_pt rfl rfl hgi rfl) ?_ | refine wG_pure (o_cvu rfl (by omega)) ?_ | refine wG_pure (o_shr rfl rfl (by omega)) ?_ | refine wG_pure (o_and (b := 1) rfl rfl (by omega) (by decide)) ?_ | (first
    | refine wC_a rfl ?_
    | refine q_s rfl ?_
    | refine q_b rfl ?_
    | refine wG_nil ?_
    | refine wG_g rfl ?_
    | refine wG_pure (o_len_vwm rfl) ?_
    | refine wG_pure (o_not_d rfl) ?_
    | refine wG_p rfl (by first | exact rfl | omega) ?_
    | refine wG_pure (o_str2 rfl rfl rfl) ?_
    | refine wG_pure (e_istr rfl rfl (by omega)) ?_
    | refine wG_pure (e_istr0 rfl rfl (by omega)) ?_
    | refine wG_pure (o_not rfl) ?_
    | refine wG_pure (e_ia_vw0 rfl rfl (by omega) rfl) ?_
    | refine wG_pure (e_ia_vwp rfl rfl (by omega) rfl) ?_
    | refine wG_pure (e_ia_vwm rfl rfl (by omega) (by omega) rfl) ?_
    | refine wG_pure (e_ia_vwi rfl rfl (by omega) rfl) ?_
    | refine wG_pure (e_ia_vwn rfl rfl (by omega) (by omega) rfl) ?_
    | refine wG_n rfl rfl ?_
    | refine wG_u rfl rfl ?_
    | refine wG_new (o_mks rfl rfl (by omega) (by decide)) ?_))
      refine wC_cond_d rfl (fun h5 => ?_) (fun h5 => ?_)
      · have hb : W i j = true := by
          have := (bit_iff _ _).1 h5
          rw [mkM_bit] at this
          simpa [hj2] using this
        have hset : ((maskL W n).map iRow).set i (iRow ((mkM (W i) n ||| mkM (W j) n : Nat) : Int)) = (maskL (ws W j i) n).map iRow := by
          refine maskL_set ?_ (fun x hx => ws_ne hx)
          rw [mkM_or, ws_eq hb]
        repeat (first | (refine wE_v (e_ia_sl rfl rfl (by omega) (by omega)) rfl ?_; simp only [e0]) | refine wE_v (o_ldf_pt rfl rfl hgi rfl) rfl ?_ | refine wE_v (o_ldf_pt rfl rfl hgj rfl) rfl ?_ | refine wE_v (o_or rfl rfl (by omega) (by omega)) rfl ?_ | refine wE_upd (o_st1 rfl rfl hgi rfl rfl rfl) rfl ?_ | (first
    | refine wC_a rfl ?_
    | refine q_s rfl ?_
    | refine q_b rfl ?_
    | refine wG_nil ?_
    | refine wG_g rfl ?_
    | refine wG_pure (o_len_vwm rfl) ?_
    | refine wG_pure (o_not_d rfl) ?_
    | refine wG_p rfl (by first | exact rfl | omega) ?_
    | refine wG_pure (o_str2 rfl rfl rfl) ?_
    | refine wG_pure (e_istr rfl rfl (by omega)) ?_
    | refine wG_pure (e_istr0 rfl rfl (by omega)) ?_
    | refine wG_pure (o_not rfl) ?_
    | refine wG_pure (e_ia_vw0 rfl rfl (by omega) rfl) ?_
    | refine wG_pure (e_ia_vwp rfl rfl (by omega) rfl) ?_
    | refine wG_pure (e_ia_vwm rfl rfl (by omega) (by omega) rfl) ?_
    | refine wG_pure (e_ia_vwi rfl rfl (by omega) rfl) ?_
    | refine wG_pure (e_ia_vwn rfl rfl (by omega) (by omega) rfl) ?_
    | refine wG_n rfl rfl ?_
    | refine wG_u rfl rfl ?_
    | refine wG_new (o_mks rfl rfl (by omega) (by decide)) ?_) | (first
    | refine wE_nil (by kernel_rfl) ?_
    | refine wE_gy rfl ?_
    | refine wE_gn rfl rfl rfl ?_
    | refine wE_gu rfl rfl ?_
    | refine wE_gnn rfl rfl rfl ?_
    | refine wE_v (o_len_vwm rfl) rfl ?_
    | refine wE_v (o_not_d rfl) rfl ?_
    | refine wE_p rfl (by first | exact rfl | omega) rfl ?_
    | refine wE_v (o_str2 rfl rfl rfl) rfl ?_
    | refine wE_v (e_istr rfl rfl (by omega)) rfl ?_
    | refine wE_v (e_istr0 rfl rfl (by omega)) rfl ?_
    | refine wE_v (o_not rfl) rfl ?_
    | refine wE_v (e_ia_vw0 rfl rfl (by omega) rfl) rfl ?_
    | refine wE_v (e_ia_vwp rfl rfl (by omega) rfl) rfl ?_
    | refine wE_v (e_ia_vwm rfl rfl (by omega) (by omega) rfl) rfl ?_
    | refine wE_v (e_ia_vwi rfl rfl (by omega) rfl) rfl ?_
    | refine wE_v (e_ia_vwn rfl rfl (by omega) (by omega) rfl) rfl ?_
    | refine wE_n rfl rfl rfl ?_
    | refine wE_u rfl rfl rfl ?_
    | refine wE_new (o_mks rfl rfl (by omega) (by decide)) rfl ?_))
        refine ⟨i + 1, by omega, by omega, ⟨⟨rfl, rfl⟩, ⟨rfl, rfl⟩, ⟨rfl, rfl⟩, trivial⟩, ⟨?_, by show 1 < 2; decide, ltrI _ _⟩, trivial⟩
        rw [hW2]
        exact congrArg some hset
      · have hb : W i j = false := by
          have h6 := fun q => h5 ((bit_iff _ _).2 q)
          rw [mkM_bit] at h6
          simpa [hj2] using h6
        repeat (first
    | refine wC_a rfl ?_
    | refine q_s rfl ?_
    | refine q_b rfl ?_
    | refine wG_nil ?_
    | refine wG_g rfl ?_
    | refine wG_pure (o_len_vwm rfl) ?_
    | refine wG_pure (o_not_d rfl) ?_
    | refine wG_p rfl (by first | exact rfl | omega) ?_
    | refine wG_pure (o_str2 rfl rfl rfl) ?_
    | refine wG_pure (e_istr rfl rfl (by omega)) ?_
    | refine wG_pure (e_istr0 rfl rfl (by omega)) ?_
    | refine wG_pure (o_not rfl) ?_
    | refine wG_pure (e_ia_vw0 rfl rfl (by omega) rfl) ?_
    | refine wG_pure (e_ia_vwp rfl rfl (by omega) rfl) ?_
    | refine wG_pure (e_ia_vwm rfl rfl (by omega) (by omega) rfl) ?_
    | refine wG_pure (e_ia_vwi rfl rfl (by omega) rfl) ?_
    | refine wG_pure (e_ia_vwn rfl rfl (by omega) (by omega) rfl) ?_
    | refine wG_n rfl rfl ?_
    | refine wG_u rfl rfl ?_
    | refine wG_new (o_mks rfl rfl (by omega) (by decide)) ?_)
        refine ⟨i + 1, by omega, by omega, ⟨⟨rfl, rfl⟩, ⟨rfl, rfl⟩, ⟨rfl, rfl⟩, trivial⟩, ⟨?_, by show 1 < 2; decide, ltrI _ _⟩, trivial⟩
        rw [hW2, ws_no hb]
        rfl
    · have hi3 : i = n := by omega
      subst hi3
      repeat (first
    | refine wC_a rfl ?_
    | refine q_s rfl ?_
    | refine q_b rfl ?_
    | refine wG_nil ?_
    | refine wG_g rfl ?_
    | refine wG_pure (o_len_vwm rfl) ?_
    | refine wG_pure (o_not_d rfl) ?_
    | refine wG_p rfl (by first | exact rfl | omega) ?_
    | refine wG_pure (o_str2 rfl rfl rfl) ?_
    | refine wG_pure (e_istr rfl rfl (by omega)) ?_
    | refine wG_pure (e_istr0 rfl rfl (by omega)) ?_
    | refine wG_pure (o_not rfl) ?_
    | refine wG_pure (e_ia_vw0 rfl rfl (by omega) rfl) ?_
    | refine wG_pure (e_ia_vwp rfl rfl (by omega) rfl) ?_
    | refine wG_pure (e_ia_vwm rfl rfl (by omega) (by omega) rfl) ?_
    | refine wG_pure (e_ia_vwi rfl rfl (by omega) rfl) ?_
    | refine wG_pure (e_ia_vwn rfl rfl (by omega) (by omega) rfl) ?_
    | refine wG_n rfl rfl ?_
    | refine wG_u rfl rfl ?_
    | refine wG_new (o_mks rfl rfl (by omega) (by decide)) ?_)
      exact ⟨j + 1, by omega, by omega, ⟨⟨rfl, rfl⟩, ⟨rfl, rfl⟩, trivial⟩, ⟨rfl, by show 1 < 2; decide, ltrI _ _⟩, trivial⟩
  · have hj3 : j = n := by omega
    subst hj3
    repeat (first
    | refine wC_a rfl ?_
    | refine q_s rfl ?_
    | refine q_b rfl ?_
    | refine wG_nil ?_
    | refine wG_g rfl ?_
    | refine wG_pure (o_len_vwm rfl) ?_
    | refine wG_pure (o_not_d rfl) ?_
    | refine wG_p rfl (by first | exact rfl | omega) ?_
    | refine wG_pure (o_str2 rfl rfl rfl) ?_
    | refine wG_pure (e_istr rfl rfl (by omega)) ?_
    | refine wG_pure (e_istr0 rfl rfl (by omega)) ?_
    | refine wG_pure (o_not rfl) ?_
    | refine wG_pure (e_ia_vw0 rfl rfl (by omega) rfl) ?_
    | refine wG_pure (e_ia_vwp rfl rfl (by omega) rfl) ?_
    | refine wG_pure (e_ia_vwm rfl rfl (by omega) (by omega) rfl) ?_
    | refine wG_pure (e_ia_vwi rfl rfl (by omega) rfl) ?_
    | refine wG_pure (e_ia_vwn rfl rfl (by omega) (by omega) rfl) ?_
    | refine wG_n rfl rfl ?_
    | refine wG_u rfl rfl ?_
    | refine wG_new (o_mks rfl rfl (by omega) (by decide)) ?_)
    refine ret_sl (.inr rfl) (retV_mv rfl) ?_
    unfold later
    rw [hn]
    rfl
open Classical in
theorem con57 (a b : Bool) (r : Rc) (hG : GoodR r) : Con Try.prog 57 true [.agg (rRow a b r)] (.bool (decide (consis r))) [] := by
  have h10 := hG.1
  refine con_of_wp mixed fun57 (by simp) [] plain_nil ?_
  unfold ac57 ro57
  simp only [zipT]
  have e0 : ∀ n : Nat, 0 + ((n : Int)).toNat = n := fun n => by simp
  repeat (first | refine wG_call1 (con67 a b r hG) rfl rfl ?_ | (first
    | refine wC_a rfl ?_
    | refine q_s rfl ?_
    | refine q_b rfl ?_
    | refine wG_nil ?_
    | refine wG_g rfl ?_
    | refine wG_pure (o_len_vwm rfl) ?_
    | refine wG_pure (o_not_d rfl) ?_
    | refine wG_p rfl (by first | exact rfl | omega) ?_
    | refine wG_pure (o_str2 rfl rfl rfl) ?_
    | refine wG_pure (e_istr rfl rfl (by omega)) ?_
    | refine wG_pure (e_istr0 rfl rfl (by omega)) ?_
    | refine wG_pure (o_not rfl) ?_
    | refine wG_pure (e_ia_vw0 rfl rfl (by omega) rfl) ?_
    | refine wG_pure (e_ia_vwp rfl rfl (by omega) rfl) ?_
    | refine wG_pure (e_ia_vwm rfl rfl (by omega) (by omega) rfl) ?_
    | refine wG_pure (e_ia_vwi rfl rfl (by omega) rfl) ?_
    | refine wG_pure (e_ia_vwn rfl rfl (by omega) (by omega) rfl) ?_
    | refine wG_n rfl rfl ?_
    | refine wG_u rfl rfl ?_
    | refine wG_new (o_mks rfl rfl (by omega) (by decide)) ?_))
  refine wC_loop Nat (fun i => ⟨[(3, .sl 1 1 0 r.cs.length), (4, .int .i64 (i : Int))], [(1, some ((maskL (later r) r.cs.length).map iRow))], 2⟩) (fun i => i ≤ r.cs.length ∧ ∀ j, j < i → later r j j = false) (fun i => r.cs.length - i) 0 ⟨Nat.zero_le _, fun j hj => absurd hj (Nat.not_lt_zero _)⟩ ?_ (fun _ _ => Nat.zero_le _) ?_
  · exact ⟨⟨⟨rfl, rfl⟩, ⟨rfl, rfl⟩, trivial⟩, ⟨rfl, by show 1 < 2; decide, ltrI _ _⟩, trivial⟩
  rintro i ⟨hi, hok⟩
  by_cases hi2 : i < r.cs.length
  · have hgi := maskL_get (W := later r) hi2
    have hmi := mk10 (later r i) h10
    have cb := con68 (mkM (later r i) r.cs.length) i hmi (by omega)
    repeat' (first | (refine wG_pure (e_ia_sl rfl rfl (by omega) (by omega)) ?_; simp only [e0]) | refine wG_pure (o_ldf_pt rfl rfl hgi rfl) ?_ | refine wG_call cb rfl rfl ?_ | (first
    | refine wC_a rfl ?_
    | refine q_s rfl ?_
    | refine q_b rfl ?_
    | refine wG_nil ?_
    | refine wG_g rfl ?_
    | refine wG_pure (o_len_vwm rfl) ?_
    | refine wG_pure (o_not_d rfl) ?_
    | refine wG_p rfl (by first | exact rfl | omega) ?_
    | refine wG_pure (o_str2 rfl rfl rfl) ?_
    | refine wG_pure (e_istr rfl rfl (by omega)) ?_
    | refine wG_pure (e_istr0 rfl rfl (by omega)) ?_
    | refine wG_pure (o_not rfl) ?_
    | refine wG_pure (e_ia_vw0 rfl rfl (by omega) rfl) ?_
    | refine wG_pure (e_ia_vwp rfl rfl (by omega) rfl) ?_
    | refine wG_pure (e_ia_vwm rfl rfl (by omega) (by omega) rfl) ?_
    | refine wG_pure (e_ia_vwi rfl rfl (by omega) rfl) ?_
    | refine wG_pure (e_ia_vwn rfl rfl (by omega) (by omega) rfl) ?_
    | refine wG_n rfl rfl ?_
    | refine wG_u rfl rfl ?_
    | refine wG_new (o_mks rfl rfl (by omega) (by decide)) ?_) | (refine wG_gd rfl (fun hgt => ?_) (fun hgf => ?_) <;> (first | simp only [eq_true hgt, decide_true] | simp only [eq_false hgf, decide_false])) | refine wC_cond_d rfl (fun hg => ?_) (fun hg => ?_))
    any_goals (exfalso; omega)
    · have hb := hg
      rw [mkM_bit] at hb
      refine ret_boolE (.inr rfl) ⟨_, retV_mv rfl, Eq.symm (decide_eq_false fun hG => ?_)⟩
      have := hG i hi2
      simp [this] at hb
    · have hb := hg
      rw [mkM_bit] at hb
      refine ⟨i + 1, ⟨by omega, fun j hj => ?_⟩, by omega, ⟨⟨rfl, rfl⟩, ⟨rfl, rfl⟩, trivial⟩, ⟨rfl, by show 1 < 2; decide, ltrI _ _⟩, trivial⟩
      rcases Nat.lt_or_ge j i with hji | hji
      · exact hok j hji
      · obtain rfl : j = i := by omega
        simpa [hi2] using hb
  · have hi3 : i = r.cs.length := by omega
    subst hi3
    repeat' (first | (first
    | refine wC_a rfl ?_
    | refine q_s rfl ?_
    | refine q_b rfl ?_
    | refine wG_nil ?_
    | refine wG_g rfl ?_
    | refine wG_pure (o_len_vwm rfl) ?_
    | refine wG_pure (o_not_d rfl) ?_
    | refine wG_p rfl (by first | exact rfl | omega) ?_
    | refine wG_pure (o_str2 rfl rfl rfl) ?_
    | refine wG_pure (e_istr rfl rfl (by omega)) ?_
    | refine wG_pure (e_istr0 rfl rfl (by omega)) ?_
    | refine wG_pure (o_not rfl) ?_
    | refine wG_pure (e_ia_vw0 rfl rfl (by omega) rfl) ?_
    | refine wG_pure (e_ia_vwp rfl rfl (by omega) rfl) ?_
    | refine wG_pure (e_ia_vwm rfl rfl (by omega) (by omega) rfl) ?_
    | refine wG_pure (e_ia_vwi rfl rfl (by omega) rfl) ?_
    | refine wG_pure (e_ia_vwn rfl rfl (by omega) (by omega) rfl) ?_
    | refine wG_n rfl rfl ?_
    | refine wG_u rfl rfl ?_
    | refine wG_new (o_mks rfl rfl (by omega) (by decide)) ?_) | (refine wG_gd rfl (fun hgt => ?_) (fun hgf => ?_) <;> (first | simp only [eq_true hgt, decide_true] | simp only [eq_false hgf, decide_false])) | refine wC_cond_d rfl (fun hg => ?_) (fun hg => ?_))
    any_goals (exfalso; omega)
    exact ret_boolE (.inr rfl) ⟨_, retV_mv rfl, Eq.symm (decide_eq_true hok)⟩
open Classical in
theorem con40 (a b : Bool) (r : Rc) (h1 : r.cs.length ≤ 1048576) (h2 : r.xs.length ≤ 1048576) : Con Try.prog 40 true [.agg (rRow a b r)] (.bool (decide (GoodC r))) [] := by
  refine con_of_wp mixed fun40 (by simp) [] plain_nil ?_
  unfold ac40 ro40
  simp only [zipT]
  have c1 := con56 a b r h1 h2
  by_cases hG : GoodR r
  · rw [decide_eq_true hG] at c1
    repeat (first | refine wG_call c1 rfl rfl ?_ | refine wG_call (con57 a b r hG) rfl rfl ?_ | (first
    | refine wC_a rfl ?_
    | refine q_s rfl ?_
    | refine q_b rfl ?_
    | refine wG_nil ?_
    | refine wG_g rfl ?_
    | refine wG_pure (o_len_vwm rfl) ?_
    | refine wG_pure (o_not_d rfl) ?_
    | refine wG_p rfl (by first | exact rfl | omega) ?_
    | refine wG_pure (o_str2 rfl rfl rfl) ?_
    | refine wG_pure (e_istr rfl rfl (by omega)) ?_
    | refine wG_pure (e_istr0 rfl rfl (by omega)) ?_
    | refine wG_pure (o_not rfl) ?_
    | refine wG_pure (e_ia_vw0 rfl rfl (by omega) rfl) ?_
    | refine wG_pure (e_ia_vwp rfl rfl (by omega) rfl) ?_
    | refine wG_pure (e_ia_vwm rfl rfl (by omega) (by omega) rfl) ?_
    | refine wG_pure (e_ia_vwi rfl rfl (by omega) rfl) ?_
    | refine wG_pure (e_ia_vwn rfl rfl (by omega) (by omega) rfl) ?_
    | refine wG_n rfl rfl ?_
    | refine wG_u rfl rfl ?_
    | refine wG_new (o_mks rfl rfl (by omega) (by decide)) ?_))
    refine ret_boolE (.inr rfl) ⟨_, retV_mv rfl, ?_⟩
    exact decide_eq_decide.2 ⟨fun h => ⟨hG, h⟩, fun h => h.2⟩
  · rw [decide_eq_false hG] at c1
    repeat (first | refine wG_call c1 rfl rfl ?_ | (first
    | refine wC_a rfl ?_
    | refine q_s rfl ?_
    | refine q_b rfl ?_
    | refine wG_nil ?_
    | refine wG_g rfl ?_
    | refine wG_pure (o_len_vwm rfl) ?_
    | refine wG_pure (o_not_d rfl) ?_
    | refine wG_p rfl (by first | exact rfl | omega) ?_
    | refine wG_pure (o_str2 rfl rfl rfl) ?_
    | refine wG_pure (e_istr rfl rfl (by omega)) ?_
    | refine wG_pure (e_istr0 rfl rfl (by omega)) ?_
    | refine wG_pure (o_not rfl) ?_
    | refine wG_pure (e_ia_vw0 rfl rfl (by omega) rfl) ?_
    | refine wG_pure (e_ia_vwp rfl rfl (by omega) rfl) ?_
    | refine wG_pure (e_ia_vwm rfl rfl (by omega) (by omega) rfl) ?_
    | refine wG_pure (e_ia_vwi rfl rfl (by omega) rfl) ?_
    | refine wG_pure (e_ia_vwn rfl rfl (by omega) (by omega) rfl) ?_
    | refine wG_n rfl rfl ?_
    | refine wG_u rfl rfl ?_
    | refine wG_new (o_mks rfl rfl (by omega) (by decide)) ?_))
    exact ret_boolE (.inr rfl) ⟨_, retV_mv rfl, Eq.symm (decide_eq_false fun h => hG h.1)⟩
end Go.Proofs.Yteoonedddgiacaa.Rec
