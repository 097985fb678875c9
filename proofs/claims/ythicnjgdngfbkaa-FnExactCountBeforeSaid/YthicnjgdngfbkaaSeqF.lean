/- The counting of a record, as the implementation reads it. -/
import Derived.Test.YthicnjgdngfbkaaSeqB
namespace Go.Proofs.Ythicnjgdngfbkaa.Rec
open Go Go.Proofs.Ythicnjgdngfbkaa.Ab Go.Proofs.Ythicnjgdngfbkaa.Il
attribute [local irreducible] wpO wpC wpDr wpQ wpG wpE stepA seqQ blkQ Ret RetG ev
set_option maxRecDepth 10000
set_option maxHeartbeats 8000000
set_option linter.unusedSimpArgs false
set_option linter.unusedVariables false

def ac45 : AC := (.seq (.reg [⟨(some 1), none, (.box 2 true (.t 0))⟩, ⟨(some 2), none, (.mv (.c .nilP))⟩, ⟨(some 3), none, (.mv (.c (.bool false)))⟩]) (.seq (.reg [⟨(some 13), none, (.ld true 2 (.t 1))⟩, ⟨(some 14), none, (.call 68 [(.t 13)])⟩, ⟨(some 12), none, (.mv (.t 14))⟩, ⟨(some 15), none, (.ext (.t 12) 0)⟩, ⟨(some 16), none, (.ext (.t 12) 1)⟩, ⟨(some 4), none, (.mv (.t 15))⟩, ⟨(some 5), none, (.mv (.t 16))⟩]) (.seq (.seq (.reg [⟨(some 17), none, (.mv (.t 5))⟩, ⟨(some 18), none, (.un .not (.t 17))⟩]) (.cond (.t 18) (.seq (.reg [⟨(some 2), none, (.mv (.c .nilP))⟩, ⟨(some 3), none, (.mv (.c (.bool false)))⟩]) .ret) .skip)) (.seq (.reg [⟨(some 19), none, (.mv (.t 4))⟩, ⟨(some 20), none, (.nck (.t 19))⟩, ⟨(some 21), none, (.fa 0 (.t 20))⟩, ⟨(some 22), none, (.ld false 1 (.t 21))⟩, ⟨(some 23), none, (.len (.t 22))⟩, ⟨(some 24), none, (.bin .shl (.c (.int .i64 1)) (.t 23))⟩, ⟨(some 6), none, (.mv (.t 24))⟩]) (.seq (.dreg [⟨(some 25), none, (.mv (.t 4))⟩, ⟨(some 26), none, (.mv (.t 6))⟩, ⟨(some 27), none, (.mks 1 8 [(.int .i64 0)] (.t 26) (.t 26))⟩, ⟨(some 28), none, (.mv (.t 6))⟩, ⟨(some 29), none, (.mks 1 8 [(.int .i64 0)] (.t 28) (.t 28))⟩, ⟨(some 30), none, (.build [.nilP, .nilS, .nilS] [(0, (1, (.t 25))), (1, (1, (.t 27))), (2, (1, (.t 29)))])⟩, ⟨(some 31), none, (.box 3 true (.t 30))⟩, ⟨(some 7), none, (.mv (.t 31))⟩] [[], [], [1], [], [3], [0, 1, 2, 3, 4], [0, 1, 2, 3, 4, 5], [0, 1, 2, 3, 4, 5, 6]]) (.seq (.reg [⟨(some 32), none, (.mv (.t 7))⟩, ⟨(some 33), none, (.nck (.t 32))⟩, ⟨(some 34), none, (.fa 1 (.t 33))⟩, ⟨(some 35), none, (.ld false 1 (.t 34))⟩, ⟨(some 36), none, (.ia 1 (.t 35) (.c (.int .i64 0)))⟩, ⟨none, none, (.st 1 (.t 36) (.c (.int .i64 1)))⟩]) (.seq (.seq (.reg [⟨(some 37), none, (.mv (.t 6))⟩, ⟨(some 38), none, (.mv (.c (.int .i64 0)))⟩]) (.blk 0 (.loop (.seq (.reg [⟨(some 39), none, (.bin .lss (.t 38) (.t 37))⟩]) (.seq (.cond (.t 39) .skip (.exit 0)) (.seq (.blk 1 (.seq (.reg [⟨(some 40), none, (.mv (.t 38))⟩, ⟨(some 8), none, (.mv (.t 40))⟩]) (.seq (.reg [⟨(some 41), none, (.mv (.t 4))⟩, ⟨(some 42), none, (.nck (.t 41))⟩, ⟨(some 43), none, (.fa 0 (.t 42))⟩, ⟨(some 44), none, (.ld false 1 (.t 43))⟩, ⟨(some 45), none, (.len (.t 44))⟩, ⟨(some 46), none, (.mv (.c (.int .i64 0)))⟩]) (.blk 2 (.loop (.seq (.reg [⟨(some 47), none, (.bin .lss (.t 46) (.t 45))⟩]) (.seq (.cond (.t 47) .skip (.exit 2)) (.seq (.blk 3 (.seq (.reg [⟨(some 48), none, (.mv (.t 46))⟩, ⟨(some 9), none, (.mv (.t 48))⟩]) (.seq (.reg [⟨(some 49), none, (.mv (.t 7))⟩, ⟨(some 50), none, (.nck (.t 49))⟩, ⟨(some 51), none, (.fa 1 (.t 50))⟩, ⟨(some 52), none, (.ld false 1 (.t 51))⟩, ⟨(some 53), none, (.mv (.t 8))⟩, ⟨(some 54), none, (.ia 1 (.t 52) (.t 53))⟩, ⟨(some 55), none, (.ld false 1 (.t 54))⟩, ⟨(some 56), none, (.bin .gtr (.t 55) (.c (.int .i64 0)))⟩, ⟨(some 57), none, (.mv (.t 56))⟩, ⟨(some 58), (some (57, true)), (.mv (.t 4))⟩, ⟨(some 59), (some (57, true)), (.mv (.t 8))⟩, ⟨(some 60), (some (57, true)), (.mv (.t 9))⟩, ⟨(some 61), (some (57, true)), (.call 51 [(.t 58), (.t 59), (.t 60)])⟩, ⟨(some 62), none, (.pick (.t 57) (.t 61) (.c (.bool false)))⟩]) (.cond (.t 62) (.dreg [⟨(some 63), none, (.mv (.t 7))⟩, ⟨(some 64), none, (.nck (.t 63))⟩, ⟨(some 65), none, (.fa 1 (.t 64))⟩, ⟨(some 66), none, (.ld false 1 (.t 65))⟩, ⟨(some 67), none, (.mv (.t 8))⟩, ⟨(some 68), none, (.mv (.t 9))⟩, ⟨(some 69), none, (.bin .shl (.c (.int .i64 1)) (.t 68))⟩, ⟨(some 70), none, (.bin .or (.t 67) (.t 69))⟩, ⟨(some 71), none, (.ia 1 (.t 66) (.t 70))⟩, ⟨(some 72), none, (.ld false 1 (.t 71))⟩, ⟨(some 73), none, (.mv (.t 7))⟩, ⟨(some 74), none, (.nck (.t 73))⟩, ⟨(some 75), none, (.fa 1 (.t 74))⟩, ⟨(some 76), none, (.ld false 1 (.t 75))⟩, ⟨(some 77), none, (.mv (.t 8))⟩, ⟨(some 78), none, (.ia 1 (.t 76) (.t 77))⟩, ⟨(some 79), none, (.ld false 1 (.t 78))⟩, ⟨(some 80), none, (.bin .add (.t 72) (.t 79))⟩, ⟨(some 81), none, (.ia 1 (.t 66) (.t 70))⟩, ⟨none, none, (.st 1 (.t 81) (.t 80))⟩] [[], [0], [0, 1], [0, 1, 2], [], [], [5], [4, 5, 6], [0, 1, 2, 3, 4, 5, 6, 7], [0, 1, 2, 3, 4, 5, 6, 7, 8], [], [10], [10, 11], [10, 11, 12], [], [10, 11, 12, 13, 14], [10, 11, 12, 13, 14, 15], [0, 1, 2, 3, 4, 5, 6, 7, 8, 9, 10, 11, 12, 13, 14, 15, 16], [0, 1, 2, 3, 4, 5, 6, 7, 8, 9, 10, 11, 12, 13, 14, 15, 16, 17], [0, 1, 2, 3, 4, 5, 6, 7, 8, 9, 10, 11, 12, 13, 14, 15, 16, 17, 18]]) .skip)))) (.reg [⟨(some 82), none, (.bin .add (.t 46) (.c (.int .i64 1)))⟩, ⟨(some 46), none, (.mv (.t 82))⟩]))))))))) (.reg [⟨(some 83), none, (.bin .add (.t 38) (.c (.int .i64 1)))⟩, ⟨(some 38), none, (.mv (.t 83))⟩]))))))) (.seq (.reg [⟨(some 84), none, (.mv (.t 7))⟩, ⟨(some 85), none, (.nck (.t 84))⟩, ⟨(some 86), none, (.fa 2 (.t 85))⟩, ⟨(some 87), none, (.ld false 1 (.t 86))⟩, ⟨(some 88), none, (.mv (.t 6))⟩, ⟨(some 89), none, (.bin .sub (.t 88) (.c (.int .i64 1)))⟩, ⟨(some 90), none, (.ia 1 (.t 87) (.t 89))⟩, ⟨none, none, (.st 1 (.t 90) (.c (.int .i64 1)))⟩]) (.seq (.seq (.reg [⟨(some 91), none, (.mv (.t 6))⟩, ⟨(some 92), none, (.bin .sub (.t 91) (.c (.int .i64 2)))⟩, ⟨(some 10), none, (.mv (.t 92))⟩]) (.blk 4 (.loop (.seq (.seq (.reg [⟨(some 93), none, (.mv (.t 10))⟩, ⟨(some 94), none, (.bin .geq (.t 93) (.c (.int .i64 0)))⟩]) (.cond (.t 94) .skip (.exit 4))) (.seq (.blk 5 (.seq (.reg [⟨(some 97), none, (.mv (.t 4))⟩, ⟨(some 98), none, (.nck (.t 97))⟩, ⟨(some 99), none, (.fa 0 (.t 98))⟩, ⟨(some 100), none, (.ld false 1 (.t 99))⟩, ⟨(some 101), none, (.len (.t 100))⟩, ⟨(some 102), none, (.mv (.c (.int .i64 0)))⟩]) (.blk 6 (.loop (.seq (.reg [⟨(some 103), none, (.bin .lss (.t 102) (.t 101))⟩]) (.seq (.cond (.t 103) .skip (.exit 6)) (.seq (.blk 7 (.seq (.reg [⟨(some 104), none, (.mv (.t 102))⟩, ⟨(some 11), none, (.mv (.t 104))⟩]) (.seq (.reg [⟨(some 105), none, (.mv (.t 4))⟩, ⟨(some 106), none, (.mv (.t 10))⟩, ⟨(some 107), none, (.mv (.t 11))⟩, ⟨(some 108), none, (.call 51 [(.t 105), (.t 106), (.t 107)])⟩]) (.cond (.t 108) (.dreg [⟨(some 109), none, (.mv (.t 7))⟩, ⟨(some 110), none, (.nck (.t 109))⟩, ⟨(some 111), none, (.fa 2 (.t 110))⟩, ⟨(some 112), none, (.ld false 1 (.t 111))⟩, ⟨(some 113), none, (.mv (.t 10))⟩, ⟨(some 114), none, (.ia 1 (.t 112) (.t 113))⟩, ⟨(some 115), none, (.ld false 1 (.t 114))⟩, ⟨(some 116), none, (.mv (.t 7))⟩, ⟨(some 117), none, (.nck (.t 116))⟩, ⟨(some 118), none, (.fa 2 (.t 117))⟩, ⟨(some 119), none, (.ld false 1 (.t 118))⟩, ⟨(some 120), none, (.mv (.t 10))⟩, ⟨(some 121), none, (.mv (.t 11))⟩, ⟨(some 122), none, (.bin .shl (.c (.int .i64 1)) (.t 121))⟩, ⟨(some 123), none, (.bin .or (.t 120) (.t 122))⟩, ⟨(some 124), none, (.ia 1 (.t 119) (.t 123))⟩, ⟨(some 125), none, (.ld false 1 (.t 124))⟩, ⟨(some 126), none, (.bin .add (.t 115) (.t 125))⟩, ⟨(some 127), none, (.ia 1 (.t 112) (.t 113))⟩, ⟨none, none, (.st 1 (.t 127) (.t 126))⟩] [[], [0], [0, 1], [0, 1, 2], [], [0, 1, 2, 3, 4], [0, 1, 2, 3, 4, 5], [], [7], [7, 8], [7, 8, 9], [], [], [12], [11, 12, 13], [7, 8, 9, 10, 11, 12, 13, 14], [7, 8, 9, 10, 11, 12, 13, 14, 15], [0, 1, 2, 3, 4, 5, 6, 7, 8, 9, 10, 11, 12, 13, 14, 15, 16], [0, 1, 2, 3, 4, 5, 6, 7, 8, 9, 10, 11, 12, 13, 14, 15, 16, 17], [0, 1, 2, 3, 4, 5, 6, 7, 8, 9, 10, 11, 12, 13, 14, 15, 16, 17, 18]]) .skip)))) (.reg [⟨(some 128), none, (.bin .add (.t 102) (.c (.int .i64 1)))⟩, ⟨(some 102), none, (.mv (.t 128))⟩])))))))) (.reg [⟨(some 95), none, (.mv (.t 10))⟩, ⟨(some 96), none, (.bin .sub (.t 95) (.c (.int .i64 1)))⟩, ⟨(some 10), none, (.mv (.t 96))⟩])))))) (.seq (.reg [⟨(some 129), none, (.mv (.t 7))⟩, ⟨(some 2), none, (.mv (.t 129))⟩, ⟨(some 3), none, (.mv (.c (.bool true)))⟩]) .ret))))))))))
def ro45 : List AOp := [(.mv (.t 2)), (.mv (.t 3))]
theorem fun45 : Fun Try.prog 45 130 ac45 ro45 := ⟨Try.f45, _, Try.func45, by kernel_rfl, rfl, rfl, by kernel_rfl, by kernel_rfl, by decide⟩

/-! ### The table of the ways to come there -/
def bfL (n : Nat) (W : Nat → Nat → Bool) (s i : Nat) : List Int := (List.range (2 ^ n)).map fun S => ((rwB n W s i (tbB n W s) S : Nat) : Int)
theorem bfL_len (n : Nat) (W : Nat → Nat → Bool) (s i : Nat) : (bfL n W s i).length = 2 ^ n := by simp [bfL]
theorem bfL_get {n s i S : Nat} {W : Nat → Nat → Bool} (h : S < 2 ^ n) : ((bfL n W s i).map iRow)[S]? = some (iRow ((rwB n W s i (tbB n W s) S : Nat) : Int)) := by
  rw [bfL, List.map_map]; exact get_range h
theorem bfL_0 (n : Nat) (W : Nat → Nat → Bool) : (List.replicate (2 ^ n) [AV.int .i64 0]).set 0 [AV.int .i64 1] = (bfL n W 0 0).map iRow := by
  refine List.ext_getElem (by simp [bfL]) fun S h1 h2 => ?_
  rw [List.getElem_set]
  simp only [List.getElem_replicate, bfL, List.getElem_map, List.getElem_range, rwB, tbB]
  by_cases e : 0 = S
  · rw [if_pos e, if_pos e.symm]; rfl
  · rw [if_neg e, if_neg (Ne.symm e)]; rfl
theorem bfL_no {n s i : Nat} {W : Nat → Nat → Bool} (h : ¬ (rdy n W s i ∧ 0 < rwB n W s i (tbB n W s) s)) : bfL n W s (i + 1) = bfL n W s i := by
  refine List.map_congr_left fun S _ => ?_
  show ((stB n W s i (rwB n W s i (tbB n W s)) S : Nat) : Int) = _
  unfold stB
  split
  · rename_i hc
    have : rwB n W s i (tbB n W s) s = 0 := by
      refine Nat.eq_zero_of_not_pos fun hp => h ⟨hc.1, hp⟩
    rw [this]; rfl
  · rfl
theorem bfL_yes {n s i : Nat} {W : Nat → Nat → Bool} (h : rdy n W s i) : ((bfL n W s i).map iRow).set (s ||| 2 ^ i) (iRow (((rwB n W s i (tbB n W s) (s ||| 2 ^ i) + rwB n W s i (tbB n W s) s : Nat)) : Int)) = (bfL n W s (i + 1)).map iRow := by
  rw [← List.map_set]
  congr 1
  refine set_range (v := (((rwB n W s i (tbB n W s) (s ||| 2 ^ i) + rwB n W s i (tbB n W s) s : Nat)) : Int)) ?_ (fun S hS => ?_)
  · show ((stB n W s i (rwB n W s i (tbB n W s)) (s ||| 2 ^ i) : Nat) : Int) = _
    unfold stB
    rw [if_pos ⟨h, rfl⟩]
  · show ((stB n W s i (rwB n W s i (tbB n W s)) S : Nat) : Int) = _
    unfold stB
    rw [if_neg (fun hc => hS hc.2)]
theorem bfL_n (n : Nat) (W : Nat → Nat → Bool) (s : Nat) : bfL n W s n = bfL n W (s + 1) 0 := rfl
def befL (n : Nat) (W : Nat → Nat → Bool) : List Int := (List.range (2 ^ n)).map fun S => ((bef n W S : Nat) : Int)
theorem bfL_end (n : Nat) (W : Nat → Nat → Bool) : bfL n W (2 ^ n) 0 = befL n W := List.map_congr_left fun S hS => by
  show ((tbB n W (2 ^ n) S : Nat) : Int) = _
  rw [tbB_bef (Nat.le_of_lt (List.mem_range.1 hS))]
theorem befL_len (n : Nat) (W : Nat → Nat → Bool) : (befL n W).length = 2 ^ n := by simp [befL]
theorem befL_get {n S : Nat} {W : Nat → Nat → Bool} (h : S < 2 ^ n) : ((befL n W).map iRow)[S]? = some (iRow ((bef n W S : Nat) : Int)) := by
  rw [befL, List.map_map]; exact get_range h
theorem rep0 (m : Nat) : List.replicate m [AV.int .i64 0] = (List.replicate m (0 : Int)).map iRow := by rw [List.map_replicate]; rfl

/-! ### The counting's memory -/
noncomputable def cT (a b : Bool) (r : Rc) (m p : Nat) (t1 t2 : Ab.Rows) : List (Nat × Option Ab.Rows) := (m + 3, some [[.pt 1 0 0, .sl (m + 1) 1 0 p, .sl (m + 2) 1 0 p]]) :: (m + 2, some t2) :: (m + 1, some t1) :: oT a b r
section
variable {a b : Bool} {r : Rc} {m p : Nat} {t1 t2 t1' t2' : Ab.Rows}
theorem cT_3 : hg (cT a b r m p t1 t2) (m + 3) = some [[.pt 1 0 0, .sl (m + 1) 1 0 p, .sl (m + 2) 1 0 p]] := hg_here
theorem cT_2 : hg (cT a b r m p t1 t2) (m + 2) = some t2 := hg_skip (by omega) hg_here
theorem cT_1 : hg (cT a b r m p t1 t2) (m + 1) = some t1 := hg_skip (by omega) (hg_skip (by omega) hg_here)
theorem cT_o {q : Nat} {rows : Ab.Rows} (h : hg (oT a b r) q = some rows) (hq : q ≤ m) : hg (cT a b r m p t1 t2) q = some rows := hg_skip (by omega) (hg_skip (by omega) (hg_skip (by omega) h))
theorem cT_cs {q : Nat} {rows : Ab.Rows} (h : hg (cT a b r m p t1 t2) q = some rows) : (q = m + 3 ∧ rows = [[.pt 1 0 0, .sl (m + 1) 1 0 p, .sl (m + 2) 1 0 p]]) ∨ (q = m + 2 ∧ rows = t2) ∨ (q = m + 1 ∧ rows = t1) ∨ (q ≠ m + 3 ∧ q ≠ m + 2 ∧ q ≠ m + 1 ∧ hg (oT a b r) q = some rows) := by
  by_cases e3 : q = m + 3
  · subst e3; rw [cT_3] at h; exact .inl ⟨rfl, (Option.some.inj h).symm⟩
  by_cases e2 : q = m + 2
  · subst e2; rw [cT_2] at h; exact .inr (.inl ⟨rfl, (Option.some.inj h).symm⟩)
  by_cases e1 : q = m + 1
  · subst e1; rw [cT_1] at h; exact .inr (.inr (.inl ⟨rfl, (Option.some.inj h).symm⟩))
  refine .inr (.inr (.inr ⟨e3, e2, e1, ?_⟩))
  simpa [cT, Ab.hg, upd, e1, e2, e3] using h
theorem cT_s1 {q : Nat} {rows : Ab.Rows} (h : hg (cT a b r m p t1' t2) q = some rows) : hg ((m + 1, some t1') :: cT a b r m p t1 t2) q = some rows := by
  rcases cT_cs h with ⟨rfl, rfl⟩ | ⟨rfl, rfl⟩ | ⟨rfl, rfl⟩ | ⟨e3, e2, e1, h⟩
  · exact hg_skip (by omega) cT_3
  · exact hg_skip (by omega) cT_2
  · exact hg_here
  · exact hg_skip e1 (hg_skip e3 (hg_skip e2 (hg_skip e1 h)))
theorem cT_s2 {q : Nat} {rows : Ab.Rows} (h : hg (cT a b r m p t1 t2') q = some rows) : hg ((m + 2, some t2') :: cT a b r m p t1 t2) q = some rows := by
  rcases cT_cs h with ⟨rfl, rfl⟩ | ⟨rfl, rfl⟩ | ⟨rfl, rfl⟩ | ⟨e3, e2, e1, h⟩
  · exact hg_skip (by omega) cT_3
  · exact hg_here
  · exact hg_skip (by omega) cT_1
  · exact hg_skip e2 (hg_skip e3 (hg_skip e2 (hg_skip e1 h)))
theorem cT_wf (hm : (oO r).length = m) (h1 : ∀ row ∈ t1, ∀ x ∈ row, AV.ltr (m + 4) x = true) (h2 : ∀ row ∈ t2, ∀ x ∈ row, AV.ltr (m + 4) x = true) : wfH (cT a b r m p t1 t2) (m + 4) := by
  have hw := oT_wf a b r
  rw [hm] at hw
  exact wfH_cons (by omega) (by simp [AV.ltr]) (wfH_cons (by omega) h2 (wfH_cons (by omega) h1 (wfH_le hw (by omega))))
end
theorem cT_ord {a b : Bool} {r : Rc} {m p : Nat} {t1 t2 : Ab.Rows} (hm : (oO r).length = m) : dr (hg (cT a b r m p t1 t2)) 6 (.pt 1 0 0) = ordC (nums r r.cs.length) (later r) (lk0 r r.xs.length) r.cs.length := by
  refine dr_ordH (nums r r.cs.length) _ _ _ 1 2 (nums_len (Nat.le_refl _)) (fun i rows h => ?_)
  have hi := (List.getElem?_eq_some_iff.1 h).1
  change i < (oO r).length at hi
  exact cT_o (oT_in h) (by omega)

theorem hok_cnt {m : Nat} (h : 0 < m) : hokB [[], [], [1], [], [3], [0, 1, 2, 3, 4], [0, 1, 2, 3, 4, 5], [0, 1, 2, 3, 4, 5, 6]] [([], [1]), ([], []), ([m + 1], []), ([], []), ([m + 1 + 1], []), ([], [1, m + 1, m + 1 + 1]), ([m + 1 + 1 + 1], []), ([], [m + 1 + 1 + 1])] = true := by
  simp [hokB, djB, List.range, List.range.loop]
  omega

/-! ### Results -/
noncomputable def cgO (r : Rc) : List Ab.Rows := oO r ++ [(befL r.cs.length (later r)).map iRow, (cntL r.cs.length (later r)).map iRow, [[.pt 0 0 0, .sl (oO r).length 1 0 (2 ^ r.cs.length), .sl ((oO r).length + 1) 1 0 (2 ^ r.cs.length)]]]
theorem cgO_len (r : Rc) : (cgO r).length = (oO r).length + 3 := by simp [cgO]
noncomputable def cgV (r : Rc) : AV := .tup [.pt ((oO r).length + 2) 0 0, .bool true]
theorem cgO_nest (r : Rc) : NestObjs (cgO r) := by
  intro rows hr row hrow x hx
  rw [cgO_len]
  have hint : ∀ (ws : List Int), row ∈ ws.map iRow → AV.ltr ((oO r).length + 3) x = true ∧ AV.nvf x = true := fun ws hw => by
    refine ⟨ltrI ws _ row hw x hx, ?_⟩
    have := rowsP ws row hw x hx
    cases x <;> first | rfl | simp [AV.plain] at this
  rcases List.mem_append.1 hr with hr | hr
  · have := ordO_nest (rowsP _) _ _ _ rows hr row hrow x hx
    have t1 : AV.ltr (oO r).length x = true := this.1
    exact ⟨ltr_le (by omega) x t1, this.2⟩
  · simp only [List.mem_cons, List.not_mem_nil, or_false] at hr
    rcases hr with rfl | rfl | rfl
    · exact hint _ hrow
    · exact hint _ hrow
    · simp only [List.mem_cons, List.not_mem_nil, or_false] at hrow
      subst hrow
      have := ordO_pos ((nums r r.cs.length).map iRow) (later r) (lk0 r r.xs.length) r.cs.length
      change 0 < (oO r).length at this
      simp only [List.mem_cons, List.not_mem_nil, or_false] at hx
      rcases hx with rfl | rfl | rfl <;> simp [AV.ltr, AV.nvf] <;> omega
theorem con45_yes (a b : Bool) (r : Rc) (h1 : r.cs.length ≤ 1048576) (h2 : r.xs.length ≤ 1048576) (hC : GoodC r) : ConG Try.prog 45 true [.agg (rRow a b r)] (cgV r) (cgO r) := by
  classical
  refine con_of_wpG mixed fun45 (by simp) ((List.range (cgO r).length).map (· + 1)) (cgO_nest r) ?_
  unfold ac45 ro45
  simp only [zipT]
  have hG := hC.1
  have hn := hG.1
  have cR := con68_yes a b r hG
  rw [decide_eq_true hC.2] at cR
  have e0 : ∀ n : Nat, 0 + ((n : Int)).toNat = n := fun n => by simp
  obtain ⟨x, y, z, hst, hlenv⟩ := oO_st r
  have hl1 : hg (oT a b r) 1 = some [[sh 1 x, sh 1 y, sh 1 z]] := oT_in (i := 0) hst
  obtain ⟨m, hm⟩ : ∃ m, (oO r).length = m := ⟨_, rfl⟩
  have hm0 : 0 < m := by rw [← hm]; exact ordO_pos _ _ _ _
  obtain ⟨p, hp⟩ : ∃ p, 2 ^ r.cs.length = p := ⟨_, rfl⟩
  have hp0 : 0 < p := by rw [← hp]; exact Nat.pow_pos (by decide)
  have hp1 : p ≤ 1024 := by rw [← hp]; exact Nat.pow_le_pow_right (by decide) hn
  have em : ((p : Nat) : Int) - 1 = ((p - 1 : Nat) : Int) := by omega
  have hwS := fun (xs ys : List Int) => cT_wf (a := a) (b := b) (p := p) hm (ltrI xs (m + 4)) (ltrI ys (m + 4))
  have hnl : (nums r r.cs.length).length = r.cs.length := nums_len (Nat.le_refl _)
  have cF := fun S i (hS : S < p) (hi : i < r.cs.length) => con51 (nums r r.cs.length) (later r) (lk0 r r.xs.length) hnl hn (show S < 1024 by omega) hi
  have hb0 := bfL_0 r.cs.length (later r)
  have ht0 := bhL_top r.cs.length (later r)
  rw [hp] at hb0 ht0
  repeat (first
    | refine wC_a rfl ?_
    | refine q_s rfl ?_
    | refine q_b rfl ?_
    | refine wG_nil ?_
    | refine wG_g rfl ?_
    | refine wG_pure (o_len_vwm rfl) ?_
    | refine wG_pure (o_not_d rfl) ?_
    | refine wG_p rfl (by first | exact rfl | omega) ?_
    | refine wG_pure (o_str2 rfl rfl rfl) ?_
    | refine wG_pure (e_istr rfl rfl (by omega)) ?_
    | refine wG_pure (e_istr0 rfl rfl (by omega)) ?_
    | refine wG_pure (o_not rfl) ?_
    | refine wG_pure (e_ia_vw0 rfl rfl (by omega) rfl) ?_
    | refine wG_pure (e_ia_vwp rfl rfl (by omega) rfl) ?_
    | refine wG_pure (e_ia_vwm rfl rfl (by omega) (by omega) rfl) ?_
    | refine wG_pure (e_ia_vwi rfl rfl (by omega) rfl) ?_
    | refine wG_pure (e_ia_vwn rfl rfl (by omega) (by omega) rfl) ?_
    | refine wG_n rfl rfl ?_
    | refine wG_u rfl rfl ?_
    | refine wG_new (o_mks rfl rfl (by omega) (by decide)) ?_)
  refine wG_callG (v' := .tup [.pt 1 0 0, .bool true]) cR rfl rfl rfl ?_
  rw [show 0 + 1 + (oO r).length = m + 1 by omega]
  change wpG _ _ _ ⟨_, oT a b r, _⟩ _
  repeat (first | refine wG_pure (o_ldf_pt rfl hl1 rfl rfl) ?_ | refine wG_pure (hlenv _ _ _ _ rfl) ?_ | refine wG_pure (o_shl1 rfl rfl (by omega)) ?_ | (first
    | refine wC_a rfl ?_
    | refine q_s rfl ?_
    | refine q_b rfl ?_
    | refine wG_nil ?_
    | refine wG_g rfl ?_
    | refine wG_pure (o_len_vwm rfl) ?_
    | refine wG_pure (o_not_d rfl) ?_
    | refine wG_p rfl (by first | exact rfl | omega) ?_
    | refine wG_pure (o_str2 rfl rfl rfl) ?_
    | refine wG_pure (e_istr rfl rfl (by omega)) ?_
    | refine wG_pure (e_istr0 rfl rfl (by omega)) ?_
    | refine wG_pure (o_not rfl) ?_
    | refine wG_pure (e_ia_vw0 rfl rfl (by omega) rfl) ?_
    | refine wG_pure (e_ia_vwp rfl rfl (by omega) rfl) ?_
    | refine wG_pure (e_ia_vwm rfl rfl (by omega) (by omega) rfl) ?_
    | refine wG_pure (e_ia_vwi rfl rfl (by omega) rfl) ?_
    | refine wG_pure (e_ia_vwn rfl rfl (by omega) (by omega) rfl) ?_
    | refine wG_n rfl rfl ?_
    | refine wG_u rfl rfl ?_
    | refine wG_new (o_mks rfl rfl (by omega) (by decide)) ?_))
  rw [hp]
  repeat (first
    | refine wC_a rfl ?_
    | refine q_s rfl ?_
    | refine q_b rfl ?_
    | refine wG_nil ?_
    | refine wG_g rfl ?_
    | refine wG_pure (o_len_vwm rfl) ?_
    | refine wG_pure (o_not_d rfl) ?_
    | refine wG_p rfl (by first | exact rfl | omega) ?_
    | refine wG_pure (o_str2 rfl rfl rfl) ?_
    | refine wG_pure (e_istr rfl rfl (by omega)) ?_
    | refine wG_pure (e_istr0 rfl rfl (by omega)) ?_
    | refine wG_pure (o_not rfl) ?_
    | refine wG_pure (e_ia_vw0 rfl rfl (by omega) rfl) ?_
    | refine wG_pure (e_ia_vwp rfl rfl (by omega) rfl) ?_
    | refine wG_pure (e_ia_vwm rfl rfl (by omega) (by omega) rfl) ?_
    | refine wG_pure (e_ia_vwi rfl rfl (by omega) rfl) ?_
    | refine wG_pure (e_ia_vwn rfl rfl (by omega) (by omega) rfl) ?_
    | refine wG_n rfl rfl ?_
    | refine wG_u rfl rfl ?_
    | refine wG_new (o_mks rfl rfl (by omega) (by decide)) ?_)
  repeat (first | refine wE_nil (hok_cnt hm0) ?_ | refine wE_new (rd := []) (o_mks rfl rfl (by omega) (by decide)) rfl ?_ | (first
    | refine wE_nil (by kernel_rfl) ?_
    | refine wE_gy rfl ?_
    | refine wE_gn rfl rfl rfl ?_
    | refine wE_gu rfl rfl ?_
    | refine wE_gnn rfl rfl rfl ?_
    | refine wE_v (o_len_vwm rfl) rfl ?_
    | refine wE_v (o_not_d rfl) rfl ?_
    | refine wE_p rfl (by first | exact rfl | omega) rfl ?_
    | refine wE_v (o_str2 rfl rfl rfl) rfl ?_
    | refine wE_v (e_istr rfl rfl (by omega)) rfl ?_
    | refine wE_v (e_istr0 rfl rfl (by omega)) rfl ?_
    | refine wE_v (o_not rfl) rfl ?_
    | refine wE_v (e_ia_vw0 rfl rfl (by omega) rfl) rfl ?_
    | refine wE_v (e_ia_vwp rfl rfl (by omega) rfl) rfl ?_
    | refine wE_v (e_ia_vwm rfl rfl (by omega) (by omega) rfl) rfl ?_
    | refine wE_v (e_ia_vwi rfl rfl (by omega) rfl) rfl ?_
    | refine wE_v (e_ia_vwn rfl rfl (by omega) (by omega) rfl) rfl ?_
    | refine wE_n rfl rfl rfl ?_
    | refine wE_u rfl rfl rfl ?_
    | refine wE_new (o_mks rfl rfl (by omega) (by decide)) rfl ?_))
  change seqQ _ _ _ ⟨_, cT a b r m p (List.replicate p [AV.int .i64 0]) (List.replicate p [AV.int .i64 0]), _⟩
  have hz : ∀ row ∈ List.replicate p [AV.int .i64 0], ∀ x ∈ row, AV.ltr (m + 4) x = true := by rw [rep0]; exact ltrI _ _
  have hw1 := fun (xs : List Int) => cT_wf (a := a) (b := b) (p := p) hm (ltrI xs (m + 4)) hz
  have hr0 : (List.replicate p [AV.int .i64 0])[0]? = some [AV.int .i64 0] := by rw [List.getElem?_replicate, if_pos (by omega)]
  have hr1 : (List.replicate p [AV.int .i64 0])[p - 1]? = some [AV.int .i64 0] := by rw [List.getElem?_replicate, if_pos (by omega)]
  have ep : 0 + (((p : Nat) : Int) - 1).toNat = p - 1 := by omega
  have hgB : ∀ s i S, S < p → ((bfL r.cs.length (later r) s i).map iRow)[S]? = some (iRow ((rwB r.cs.length (later r) s i (tbB r.cs.length (later r) s) S : Nat) : Int)) := fun s i S h => bfL_get (by omega)
  have hgH : ∀ u i S, S < p → ((bhL r.cs.length (later r) u i).map iRow)[S]? = some (iRow ((bhB r.cs.length (later r) u i S : Nat) : Int)) := fun u i S h => bhL_get (by omega)
  repeat (first | refine wG_pure (o_ldf_pt rfl cT_3 rfl rfl) ?_ | refine wG_pure (e_ia_sl (n := 0) rfl rfl (by decide) (by omega)) ?_ | refine wG_upd (o_st1 rfl cT_1 hr0 rfl rfl hb0) ?_ | (first
    | refine wC_a rfl ?_
    | refine q_s rfl ?_
    | refine q_b rfl ?_
    | refine wG_nil ?_
    | refine wG_g rfl ?_
    | refine wG_pure (o_len_vwm rfl) ?_
    | refine wG_pure (o_not_d rfl) ?_
    | refine wG_p rfl (by first | exact rfl | omega) ?_
    | refine wG_pure (o_str2 rfl rfl rfl) ?_
    | refine wG_pure (e_istr rfl rfl (by omega)) ?_
    | refine wG_pure (e_istr0 rfl rfl (by omega)) ?_
    | refine wG_pure (o_not rfl) ?_
    | refine wG_pure (e_ia_vw0 rfl rfl (by omega) rfl) ?_
    | refine wG_pure (e_ia_vwp rfl rfl (by omega) rfl) ?_
    | refine wG_pure (e_ia_vwm rfl rfl (by omega) (by omega) rfl) ?_
    | refine wG_pure (e_ia_vwi rfl rfl (by omega) rfl) ?_
    | refine wG_pure (e_ia_vwn rfl rfl (by omega) (by omega) rfl) ?_
    | refine wG_n rfl rfl ?_
    | refine wG_u rfl rfl ?_
    | refine wG_new (o_mks rfl rfl (by omega) (by decide)) ?_))
  refine wC_loopX Nat (fun s => ⟨[(4, .pt 1 0 0), (6, .int .i64 (p : Int)), (7, .pt (m + 3) 0 0), (37, .int .i64 (p : Int)), (38, .int .i64 (s : Int))], cT a b r m p ((bfL r.cs.length (later r) s 0).map iRow) (List.replicate p [AV.int .i64 0]), m + 4⟩) (fun s => s ≤ p) (fun s => p - s) 0 (Nat.zero_le _) ?_ ?_
  · exact .inl (Le_of ⟨⟨rfl, by simp [AV.ltr]⟩, ⟨rfl, rfl⟩, ⟨rfl, by simp [AV.ltr]⟩, ⟨rfl, rfl⟩, ⟨rfl, rfl⟩, trivial⟩ (fun q rows hq => cT_s1 hq) (hw1 _))
  intro s hs
  repeat (first
    | refine wC_a rfl ?_
    | refine q_s rfl ?_
    | refine q_b rfl ?_
    | refine wG_nil ?_
    | refine wG_g rfl ?_
    | refine wG_pure (o_len_vwm rfl) ?_
    | refine wG_pure (o_not_d rfl) ?_
    | refine wG_p rfl (by first | exact rfl | omega) ?_
    | refine wG_pure (o_str2 rfl rfl rfl) ?_
    | refine wG_pure (e_istr rfl rfl (by omega)) ?_
    | refine wG_pure (e_istr0 rfl rfl (by omega)) ?_
    | refine wG_pure (o_not rfl) ?_
    | refine wG_pure (e_ia_vw0 rfl rfl (by omega) rfl) ?_
    | refine wG_pure (e_ia_vwp rfl rfl (by omega) rfl) ?_
    | refine wG_pure (e_ia_vwm rfl rfl (by omega) (by omega) rfl) ?_
    | refine wG_pure (e_ia_vwi rfl rfl (by omega) rfl) ?_
    | refine wG_pure (e_ia_vwn rfl rfl (by omega) (by omega) rfl) ?_
    | refine wG_n rfl rfl ?_
    | refine wG_u rfl rfl ?_
    | refine wG_new (o_mks rfl rfl (by omega) (by decide)) ?_)
  refine wC_cond_d rfl (fun h4 => ?_) (fun h4 => ?_)
  · have hs2 : s < p := by omega
    repeat (first | refine wG_pure (o_ldf_pt rfl (cT_o hl1 hm0) rfl rfl) ?_ | refine wG_pure (hlenv _ _ _ _ rfl) ?_ | (first
    | refine wC_a rfl ?_
    | refine q_s rfl ?_
    | refine q_b rfl ?_
    | refine wG_nil ?_
    | refine wG_g rfl ?_
    | refine wG_pure (o_len_vwm rfl) ?_
    | refine wG_pure (o_not_d rfl) ?_
    | refine wG_p rfl (by first | exact rfl | omega) ?_
    | refine wG_pure (o_str2 rfl rfl rfl) ?_
    | refine wG_pure (e_istr rfl rfl (by omega)) ?_
    | refine wG_pure (e_istr0 rfl rfl (by omega)) ?_
    | refine wG_pure (o_not rfl) ?_
    | refine wG_pure (e_ia_vw0 rfl rfl (by omega) rfl) ?_
    | refine wG_pure (e_ia_vwp rfl rfl (by omega) rfl) ?_
    | refine wG_pure (e_ia_vwm rfl rfl (by omega) (by omega) rfl) ?_
    | refine wG_pure (e_ia_vwi rfl rfl (by omega) rfl) ?_
    | refine wG_pure (e_ia_vwn rfl rfl (by omega) (by omega) rfl) ?_
    | refine wG_n rfl rfl ?_
    | refine wG_u rfl rfl ?_
    | refine wG_new (o_mks rfl rfl (by omega) (by decide)) ?_))
    refine wC_loopX Nat (fun i => ⟨[(4, .pt 1 0 0), (6, .int .i64 (p : Int)), (7, .pt (m + 3) 0 0), (37, .int .i64 (p : Int)), (38, .int .i64 (s : Int)), (8, .int .i64 (s : Int)), (45, .int .i64 (r.cs.length : Int)), (46, .int .i64 (i : Int))], cT a b r m p ((bfL r.cs.length (later r) s i).map iRow) (List.replicate p [AV.int .i64 0]), m + 4⟩) (fun i => i ≤ r.cs.length) (fun i => r.cs.length - i) 0 (Nat.zero_le _) ?_ ?_
    · exact .inl (Le_of ⟨⟨rfl, by simp [AV.ltr]⟩, ⟨rfl, rfl⟩, ⟨rfl, by simp [AV.ltr]⟩, ⟨rfl, rfl⟩, ⟨rfl, rfl⟩, ⟨rfl, rfl⟩, ⟨rfl, rfl⟩, ⟨rfl, rfl⟩, trivial⟩ (fun q rows hq => hq) (hw1 _))
    intro i hi
    repeat (first
    | refine wC_a rfl ?_
    | refine q_s rfl ?_
    | refine q_b rfl ?_
    | refine wG_nil ?_
    | refine wG_g rfl ?_
    | refine wG_pure (o_len_vwm rfl) ?_
    | refine wG_pure (o_not_d rfl) ?_
    | refine wG_p rfl (by first | exact rfl | omega) ?_
    | refine wG_pure (o_str2 rfl rfl rfl) ?_
    | refine wG_pure (e_istr rfl rfl (by omega)) ?_
    | refine wG_pure (e_istr0 rfl rfl (by omega)) ?_
    | refine wG_pure (o_not rfl) ?_
    | refine wG_pure (e_ia_vw0 rfl rfl (by omega) rfl) ?_
    | refine wG_pure (e_ia_vwp rfl rfl (by omega) rfl) ?_
    | refine wG_pure (e_ia_vwm rfl rfl (by omega) (by omega) rfl) ?_
    | refine wG_pure (e_ia_vwi rfl rfl (by omega) rfl) ?_
    | refine wG_pure (e_ia_vwn rfl rfl (by omega) (by omega) rfl) ?_
    | refine wG_n rfl rfl ?_
    | refine wG_u rfl rfl ?_
    | refine wG_new (o_mks rfl rfl (by omega) (by decide)) ?_)
    refine wC_cond_d rfl (fun h5 => ?_) (fun h5 => ?_)
    · have hi2 : i < r.cs.length := by omega
      have cf := cF s i hs2 hi2
      have hpi := p10 hi2 hn
      have hor : s ||| 2 ^ i < p := by rw [← hp]; exact or_lt (by omega) hi2
      have g1 := hgB s i s hs2
      have g2 := hgB s i (s ||| 2 ^ i) hor
      have b1 := rwB_b (W := later r) (i := i) hn (show s < 2 ^ r.cs.length by omega) (show s < 2 ^ r.cs.length by omega) hi
      have b2 := rwB_b (W := later r) (s := s) (i := i) hn (show s ||| 2 ^ i < 2 ^ r.cs.length by omega) (show s < 2 ^ r.cs.length by omega) hi
      repeat (first | refine wG_pure (o_ldf_pt rfl cT_3 rfl rfl) ?_ | (refine wG_pure (e_ia_sl rfl rfl (by omega) (by omega)) ?_; simp only [e0]) | refine wG_pure (o_ldf_pt rfl cT_1 g1 rfl) ?_ | (first
    | refine wC_a rfl ?_
    | refine q_s rfl ?_
    | refine q_b rfl ?_
    | refine wG_nil ?_
    | refine wG_g rfl ?_
    | refine wG_pure (o_len_vwm rfl) ?_
    | refine wG_pure (o_not_d rfl) ?_
    | refine wG_p rfl (by first | exact rfl | omega) ?_
    | refine wG_pure (o_str2 rfl rfl rfl) ?_
    | refine wG_pure (e_istr rfl rfl (by omega)) ?_
    | refine wG_pure (e_istr0 rfl rfl (by omega)) ?_
    | refine wG_pure (o_not rfl) ?_
    | refine wG_pure (e_ia_vw0 rfl rfl (by omega) rfl) ?_
    | refine wG_pure (e_ia_vwp rfl rfl (by omega) rfl) ?_
    | refine wG_pure (e_ia_vwm rfl rfl (by omega) (by omega) rfl) ?_
    | refine wG_pure (e_ia_vwi rfl rfl (by omega) rfl) ?_
    | refine wG_pure (e_ia_vwn rfl rfl (by omega) (by omega) rfl) ?_
    | refine wG_n rfl rfl ?_
    | refine wG_u rfl rfl ?_
    | refine wG_new (o_mks rfl rfl (by omega) (by decide)) ?_))
      by_cases hv : 0 < rwB r.cs.length (later r) s i (tbB r.cs.length (later r) s) s
      · have hd : decide (((rwB r.cs.length (later r) s i (tbB r.cs.length (later r) s) s : Nat) : Int) > 0) = true := decide_eq_true (by omega)
        simp only [hd]
        by_cases hr : rdy r.cs.length (later r) s i
        · rw [decide_eq_true hr] at cf
          have hset := bfL_yes hr
          repeat (first | refine wG_call cf (ag_any (cT_ord hm) (ag_int rfl (ag_int rfl ag_nil))) rfl ?_ | refine wE_v (o_ldf_pt rfl cT_3 rfl rfl) rfl ?_ | (refine wE_v (e_ia_sl rfl rfl (by omega) (by omega)) rfl ?_; simp only [e0]) | refine wE_v (o_ldf_pt rfl cT_1 g1 rfl) rfl ?_ | refine wE_v (o_ldf_pt rfl cT_1 g2 rfl) rfl ?_ | refine wE_v (o_shl1 rfl rfl (by omega)) rfl ?_ | refine wE_v (o_or rfl rfl (by omega) (by omega)) rfl ?_ | refine wE_upd (o_st1 rfl cT_1 g2 rfl rfl hset) rfl ?_ | (first
    | refine wC_a rfl ?_
    | refine q_s rfl ?_
    | refine q_b rfl ?_
    | refine wG_nil ?_
    | refine wG_g rfl ?_
    | refine wG_pure (o_len_vwm rfl) ?_
    | refine wG_pure (o_not_d rfl) ?_
    | refine wG_p rfl (by first | exact rfl | omega) ?_
    | refine wG_pure (o_str2 rfl rfl rfl) ?_
    | refine wG_pure (e_istr rfl rfl (by omega)) ?_
    | refine wG_pure (e_istr0 rfl rfl (by omega)) ?_
    | refine wG_pure (o_not rfl) ?_
    | refine wG_pure (e_ia_vw0 rfl rfl (by omega) rfl) ?_
    | refine wG_pure (e_ia_vwp rfl rfl (by omega) rfl) ?_
    | refine wG_pure (e_ia_vwm rfl rfl (by omega) (by omega) rfl) ?_
    | refine wG_pure (e_ia_vwi rfl rfl (by omega) rfl) ?_
    | refine wG_pure (e_ia_vwn rfl rfl (by omega) (by omega) rfl) ?_
    | refine wG_n rfl rfl ?_
    | refine wG_u rfl rfl ?_
    | refine wG_new (o_mks rfl rfl (by omega) (by decide)) ?_) | (first
    | refine wE_nil (by kernel_rfl) ?_
    | refine wE_gy rfl ?_
    | refine wE_gn rfl rfl rfl ?_
    | refine wE_gu rfl rfl ?_
    | refine wE_gnn rfl rfl rfl ?_
    | refine wE_v (o_len_vwm rfl) rfl ?_
    | refine wE_v (o_not_d rfl) rfl ?_
    | refine wE_p rfl (by first | exact rfl | omega) rfl ?_
    | refine wE_v (o_str2 rfl rfl rfl) rfl ?_
    | refine wE_v (e_istr rfl rfl (by omega)) rfl ?_
    | refine wE_v (e_istr0 rfl rfl (by omega)) rfl ?_
    | refine wE_v (o_not rfl) rfl ?_
    | refine wE_v (e_ia_vw0 rfl rfl (by omega) rfl) rfl ?_
    | refine wE_v (e_ia_vwp rfl rfl (by omega) rfl) rfl ?_
    | refine wE_v (e_ia_vwm rfl rfl (by omega) (by omega) rfl) rfl ?_
    | refine wE_v (e_ia_vwi rfl rfl (by omega) rfl) rfl ?_
    | refine wE_v (e_ia_vwn rfl rfl (by omega) (by omega) rfl) rfl ?_
    | refine wE_n rfl rfl rfl ?_
    | refine wE_u rfl rfl rfl ?_
    | refine wE_new (o_mks rfl rfl (by omega) (by decide)) rfl ?_))
          exact ⟨i + 1, hi2, by omega, .inl (Le_of ⟨⟨rfl, by simp [AV.ltr]⟩, ⟨rfl, rfl⟩, ⟨rfl, by simp [AV.ltr]⟩, ⟨rfl, rfl⟩, ⟨rfl, rfl⟩, ⟨rfl, rfl⟩, ⟨rfl, rfl⟩, ⟨rfl, rfl⟩, trivial⟩ (fun q rows hq => cT_s1 hq) (hw1 _))⟩
        · rw [decide_eq_false hr] at cf
          have hno := bfL_no (n := r.cs.length) (W := later r) (s := s) (i := i) (fun h => hr h.1)
          repeat (first | refine wG_call cf (ag_any (cT_ord hm) (ag_int rfl (ag_int rfl ag_nil))) rfl ?_ | (first
    | refine wC_a rfl ?_
    | refine q_s rfl ?_
    | refine q_b rfl ?_
    | refine wG_nil ?_
    | refine wG_g rfl ?_
    | refine wG_pure (o_len_vwm rfl) ?_
    | refine wG_pure (o_not_d rfl) ?_
    | refine wG_p rfl (by first | exact rfl | omega) ?_
    | refine wG_pure (o_str2 rfl rfl rfl) ?_
    | refine wG_pure (e_istr rfl rfl (by omega)) ?_
    | refine wG_pure (e_istr0 rfl rfl (by omega)) ?_
    | refine wG_pure (o_not rfl) ?_
    | refine wG_pure (e_ia_vw0 rfl rfl (by omega) rfl) ?_
    | refine wG_pure (e_ia_vwp rfl rfl (by omega) rfl) ?_
    | refine wG_pure (e_ia_vwm rfl rfl (by omega) (by omega) rfl) ?_
    | refine wG_pure (e_ia_vwi rfl rfl (by omega) rfl) ?_
    | refine wG_pure (e_ia_vwn rfl rfl (by omega) (by omega) rfl) ?_
    | refine wG_n rfl rfl ?_
    | refine wG_u rfl rfl ?_
    | refine wG_new (o_mks rfl rfl (by omega) (by decide)) ?_))
          refine ⟨i + 1, hi2, by omega, .inl (Le_of ⟨⟨rfl, by simp [AV.ltr]⟩, ⟨rfl, rfl⟩, ⟨rfl, by simp [AV.ltr]⟩, ⟨rfl, rfl⟩, ⟨rfl, rfl⟩, ⟨rfl, rfl⟩, ⟨rfl, rfl⟩, ⟨rfl, rfl⟩, trivial⟩ (fun q rows hq => ?_) (hw1 _))⟩
          rw [hno] at hq; exact hq
      · have hd : decide (((rwB r.cs.length (later r) s i (tbB r.cs.length (later r) s) s : Nat) : Int) > 0) = false := decide_eq_false (by omega)
        simp only [hd]
        have hno := bfL_no (n := r.cs.length) (W := later r) (s := s) (i := i) (fun h => hv h.2)
        repeat (first
    | refine wC_a rfl ?_
    | refine q_s rfl ?_
    | refine q_b rfl ?_
    | refine wG_nil ?_
    | refine wG_g rfl ?_
    | refine wG_pure (o_len_vwm rfl) ?_
    | refine wG_pure (o_not_d rfl) ?_
    | refine wG_p rfl (by first | exact rfl | omega) ?_
    | refine wG_pure (o_str2 rfl rfl rfl) ?_
    | refine wG_pure (e_istr rfl rfl (by omega)) ?_
    | refine wG_pure (e_istr0 rfl rfl (by omega)) ?_
    | refine wG_pure (o_not rfl) ?_
    | refine wG_pure (e_ia_vw0 rfl rfl (by omega) rfl) ?_
    | refine wG_pure (e_ia_vwp rfl rfl (by omega) rfl) ?_
    | refine wG_pure (e_ia_vwm rfl rfl (by omega) (by omega) rfl) ?_
    | refine wG_pure (e_ia_vwi rfl rfl (by omega) rfl) ?_
    | refine wG_pure (e_ia_vwn rfl rfl (by omega) (by omega) rfl) ?_
    | refine wG_n rfl rfl ?_
    | refine wG_u rfl rfl ?_
    | refine wG_new (o_mks rfl rfl (by omega) (by decide)) ?_)
        refine ⟨i + 1, hi2, by omega, .inl (Le_of ⟨⟨rfl, by simp [AV.ltr]⟩, ⟨rfl, rfl⟩, ⟨rfl, by simp [AV.ltr]⟩, ⟨rfl, rfl⟩, ⟨rfl, rfl⟩, ⟨rfl, rfl⟩, ⟨rfl, rfl⟩, ⟨rfl, rfl⟩, trivial⟩ (fun q rows hq => ?_) (hw1 _))⟩
        rw [hno] at hq; exact hq
    · have hi3 : i = r.cs.length := by omega
      subst hi3
      repeat (first
    | refine wC_a rfl ?_
    | refine q_s rfl ?_
    | refine q_b rfl ?_
    | refine wG_nil ?_
    | refine wG_g rfl ?_
    | refine wG_pure (o_len_vwm rfl) ?_
    | refine wG_pure (o_not_d rfl) ?_
    | refine wG_p rfl (by first | exact rfl | omega) ?_
    | refine wG_pure (o_str2 rfl rfl rfl) ?_
    | refine wG_pure (e_istr rfl rfl (by omega)) ?_
    | refine wG_pure (e_istr0 rfl rfl (by omega)) ?_
    | refine wG_pure (o_not rfl) ?_
    | refine wG_pure (e_ia_vw0 rfl rfl (by omega) rfl) ?_
    | refine wG_pure (e_ia_vwp rfl rfl (by omega) rfl) ?_
    | refine wG_pure (e_ia_vwm rfl rfl (by omega) (by omega) rfl) ?_
    | refine wG_pure (e_ia_vwi rfl rfl (by omega) rfl) ?_
    | refine wG_pure (e_ia_vwn rfl rfl (by omega) (by omega) rfl) ?_
    | refine wG_n rfl rfl ?_
    | refine wG_u rfl rfl ?_
    | refine wG_new (o_mks rfl rfl (by omega) (by decide)) ?_)
      exact ⟨s + 1, hs2, by omega, .inl (Le_of ⟨⟨rfl, by simp [AV.ltr]⟩, ⟨rfl, rfl⟩, ⟨rfl, by simp [AV.ltr]⟩, ⟨rfl, rfl⟩, ⟨rfl, rfl⟩, trivial⟩ (fun q rows hq => hq) (hw1 _))⟩
  have hs3 : s = p := by omega
  subst hs3
  repeat (first | refine wG_pure (o_ldf_pt rfl cT_3 rfl rfl) ?_ | (refine wG_pure (e_ia_sl rfl rfl (by omega) (by omega)) ?_; simp only [ep]) | refine wG_upd (o_st1 rfl cT_2 hr1 rfl rfl ht0) ?_ | (first
    | refine wC_a rfl ?_
    | refine q_s rfl ?_
    | refine q_b rfl ?_
    | refine wG_nil ?_
    | refine wG_g rfl ?_
    | refine wG_pure (o_len_vwm rfl) ?_
    | refine wG_pure (o_not_d rfl) ?_
    | refine wG_p rfl (by first | exact rfl | omega) ?_
    | refine wG_pure (o_str2 rfl rfl rfl) ?_
    | refine wG_pure (e_istr rfl rfl (by omega)) ?_
    | refine wG_pure (e_istr0 rfl rfl (by omega)) ?_
    | refine wG_pure (o_not rfl) ?_
    | refine wG_pure (e_ia_vw0 rfl rfl (by omega) rfl) ?_
    | refine wG_pure (e_ia_vwp rfl rfl (by omega) rfl) ?_
    | refine wG_pure (e_ia_vwm rfl rfl (by omega) (by omega) rfl) ?_
    | refine wG_pure (e_ia_vwi rfl rfl (by omega) rfl) ?_
    | refine wG_pure (e_ia_vwn rfl rfl (by omega) (by omega) rfl) ?_
    | refine wG_n rfl rfl ?_
    | refine wG_u rfl rfl ?_
    | refine wG_new (o_mks rfl rfl (by omega) (by decide)) ?_))
  refine wC_loopX Nat (fun u => ⟨[(4, .pt 1 0 0), (7, .pt (m + 3) 0 0), (10, .int .i64 ((u : Int) - 1))], cT a b r m s ((bfL r.cs.length (later r) s 0).map iRow) ((bhL r.cs.length (later r) u 0).map iRow), m + 4⟩) (fun u => u ≤ s - 1) (fun u => u) (s - 1) (Nat.le_refl _) ?_ ?_
  · exact .inl (Le_of ⟨⟨rfl, by simp [AV.ltr]⟩, ⟨rfl, by simp [AV.ltr]⟩, ⟨by show AV.int _ _ = AV.int _ _; congr 1; omega, rfl⟩, trivial⟩ (fun q rows hq => cT_s2 hq) (hwS _ _))
  intro u hu
  repeat (first
    | refine wC_a rfl ?_
    | refine q_s rfl ?_
    | refine q_b rfl ?_
    | refine wG_nil ?_
    | refine wG_g rfl ?_
    | refine wG_pure (o_len_vwm rfl) ?_
    | refine wG_pure (o_not_d rfl) ?_
    | refine wG_p rfl (by first | exact rfl | omega) ?_
    | refine wG_pure (o_str2 rfl rfl rfl) ?_
    | refine wG_pure (e_istr rfl rfl (by omega)) ?_
    | refine wG_pure (e_istr0 rfl rfl (by omega)) ?_
    | refine wG_pure (o_not rfl) ?_
    | refine wG_pure (e_ia_vw0 rfl rfl (by omega) rfl) ?_
    | refine wG_pure (e_ia_vwp rfl rfl (by omega) rfl) ?_
    | refine wG_pure (e_ia_vwm rfl rfl (by omega) (by omega) rfl) ?_
    | refine wG_pure (e_ia_vwi rfl rfl (by omega) rfl) ?_
    | refine wG_pure (e_ia_vwn rfl rfl (by omega) (by omega) rfl) ?_
    | refine wG_n rfl rfl ?_
    | refine wG_u rfl rfl ?_
    | refine wG_new (o_mks rfl rfl (by omega) (by decide)) ?_)
  refine wC_cond_d rfl (fun h4 => ?_) (fun h4 => ?_)
  · obtain ⟨v, rfl⟩ : ∃ v, u = v + 1 := ⟨u - 1, by omega⟩
    have ev : (((v + 1 : Nat)) : Int) - 1 = (v : Int) := by omega
    simp only [ev]
    repeat (first | refine wG_pure (o_ldf_pt rfl (cT_o hl1 hm0) rfl rfl) ?_ | refine wG_pure (hlenv _ _ _ _ rfl) ?_ | (first
    | refine wC_a rfl ?_
    | refine q_s rfl ?_
    | refine q_b rfl ?_
    | refine wG_nil ?_
    | refine wG_g rfl ?_
    | refine wG_pure (o_len_vwm rfl) ?_
    | refine wG_pure (o_not_d rfl) ?_
    | refine wG_p rfl (by first | exact rfl | omega) ?_
    | refine wG_pure (o_str2 rfl rfl rfl) ?_
    | refine wG_pure (e_istr rfl rfl (by omega)) ?_
    | refine wG_pure (e_istr0 rfl rfl (by omega)) ?_
    | refine wG_pure (o_not rfl) ?_
    | refine wG_pure (e_ia_vw0 rfl rfl (by omega) rfl) ?_
    | refine wG_pure (e_ia_vwp rfl rfl (by omega) rfl) ?_
    | refine wG_pure (e_ia_vwm rfl rfl (by omega) (by omega) rfl) ?_
    | refine wG_pure (e_ia_vwi rfl rfl (by omega) rfl) ?_
    | refine wG_pure (e_ia_vwn rfl rfl (by omega) (by omega) rfl) ?_
    | refine wG_n rfl rfl ?_
    | refine wG_u rfl rfl ?_
    | refine wG_new (o_mks rfl rfl (by omega) (by decide)) ?_))
    refine wC_loopX Nat (fun i => ⟨[(4, .pt 1 0 0), (7, .pt (m + 3) 0 0), (10, .int .i64 (v : Int)), (101, .int .i64 (r.cs.length : Int)), (102, .int .i64 (i : Int))], cT a b r m s ((bfL r.cs.length (later r) s 0).map iRow) ((bhL r.cs.length (later r) (v + 1) i).map iRow), m + 4⟩) (fun i => i ≤ r.cs.length) (fun i => r.cs.length - i) 0 (Nat.zero_le _) ?_ ?_
    · exact .inl (Le_of ⟨⟨rfl, by simp [AV.ltr]⟩, ⟨rfl, by simp [AV.ltr]⟩, ⟨rfl, rfl⟩, ⟨rfl, rfl⟩, ⟨rfl, rfl⟩, trivial⟩ (fun q rows hq => hq) (hwS _ _))
    intro i hi
    repeat (first
    | refine wC_a rfl ?_
    | refine q_s rfl ?_
    | refine q_b rfl ?_
    | refine wG_nil ?_
    | refine wG_g rfl ?_
    | refine wG_pure (o_len_vwm rfl) ?_
    | refine wG_pure (o_not_d rfl) ?_
    | refine wG_p rfl (by first | exact rfl | omega) ?_
    | refine wG_pure (o_str2 rfl rfl rfl) ?_
    | refine wG_pure (e_istr rfl rfl (by omega)) ?_
    | refine wG_pure (e_istr0 rfl rfl (by omega)) ?_
    | refine wG_pure (o_not rfl) ?_
    | refine wG_pure (e_ia_vw0 rfl rfl (by omega) rfl) ?_
    | refine wG_pure (e_ia_vwp rfl rfl (by omega) rfl) ?_
    | refine wG_pure (e_ia_vwm rfl rfl (by omega) (by omega) rfl) ?_
    | refine wG_pure (e_ia_vwi rfl rfl (by omega) rfl) ?_
    | refine wG_pure (e_ia_vwn rfl rfl (by omega) (by omega) rfl) ?_
    | refine wG_n rfl rfl ?_
    | refine wG_u rfl rfl ?_
    | refine wG_new (o_mks rfl rfl (by omega) (by decide)) ?_)
    refine wC_cond_d rfl (fun h5 => ?_) (fun h5 => ?_)
    · have hi2 : i < r.cs.length := by omega
      have cf := cF v i (by omega) hi2
      have hpi := p10 hi2 hn
      have hor : v ||| 2 ^ i < s := by rw [← hp]; exact or_lt (by omega) hi2
      have g1 := hgH (v + 1) i v (by omega)
      have g2 := hgH (v + 1) i (v ||| 2 ^ i) hor
      have b1 := bhB_b (W := later r) hn (v + 1) v hi
      have b2 := bhB_b (W := later r) hn (v + 1) (v ||| 2 ^ i) hi
      by_cases hr : rdy r.cs.length (later r) v i
      · rw [decide_eq_true hr] at cf
        have hset := bhL_yes (W := later r) (show v < 2 ^ r.cs.length by omega) hi2 hr
        repeat (first | refine wG_call cf (ag_any (cT_ord hm) (ag_int rfl (ag_int rfl ag_nil))) rfl ?_ | refine wE_v (o_ldf_pt rfl cT_3 rfl rfl) rfl ?_ | (refine wE_v (e_ia_sl rfl rfl (by omega) (by omega)) rfl ?_; simp only [e0]) | refine wE_v (o_ldf_pt rfl cT_2 g1 rfl) rfl ?_ | refine wE_v (o_ldf_pt rfl cT_2 g2 rfl) rfl ?_ | refine wE_v (o_shl1 rfl rfl (by omega)) rfl ?_ | refine wE_v (o_or rfl rfl (by omega) (by omega)) rfl ?_ | refine wE_upd (o_st1 rfl cT_2 g1 rfl rfl hset) rfl ?_ | (first
    | refine wC_a rfl ?_
    | refine q_s rfl ?_
    | refine q_b rfl ?_
    | refine wG_nil ?_
    | refine wG_g rfl ?_
    | refine wG_pure (o_len_vwm rfl) ?_
    | refine wG_pure (o_not_d rfl) ?_
    | refine wG_p rfl (by first | exact rfl | omega) ?_
    | refine wG_pure (o_str2 rfl rfl rfl) ?_
    | refine wG_pure (e_istr rfl rfl (by omega)) ?_
    | refine wG_pure (e_istr0 rfl rfl (by omega)) ?_
    | refine wG_pure (o_not rfl) ?_
    | refine wG_pure (e_ia_vw0 rfl rfl (by omega) rfl) ?_
    | refine wG_pure (e_ia_vwp rfl rfl (by omega) rfl) ?_
    | refine wG_pure (e_ia_vwm rfl rfl (by omega) (by omega) rfl) ?_
    | refine wG_pure (e_ia_vwi rfl rfl (by omega) rfl) ?_
    | refine wG_pure (e_ia_vwn rfl rfl (by omega) (by omega) rfl) ?_
    | refine wG_n rfl rfl ?_
    | refine wG_u rfl rfl ?_
    | refine wG_new (o_mks rfl rfl (by omega) (by decide)) ?_) | (first
    | refine wE_nil (by kernel_rfl) ?_
    | refine wE_gy rfl ?_
    | refine wE_gn rfl rfl rfl ?_
    | refine wE_gu rfl rfl ?_
    | refine wE_gnn rfl rfl rfl ?_
    | refine wE_v (o_len_vwm rfl) rfl ?_
    | refine wE_v (o_not_d rfl) rfl ?_
    | refine wE_p rfl (by first | exact rfl | omega) rfl ?_
    | refine wE_v (o_str2 rfl rfl rfl) rfl ?_
    | refine wE_v (e_istr rfl rfl (by omega)) rfl ?_
    | refine wE_v (e_istr0 rfl rfl (by omega)) rfl ?_
    | refine wE_v (o_not rfl) rfl ?_
    | refine wE_v (e_ia_vw0 rfl rfl (by omega) rfl) rfl ?_
    | refine wE_v (e_ia_vwp rfl rfl (by omega) rfl) rfl ?_
    | refine wE_v (e_ia_vwm rfl rfl (by omega) (by omega) rfl) rfl ?_
    | refine wE_v (e_ia_vwi rfl rfl (by omega) rfl) rfl ?_
    | refine wE_v (e_ia_vwn rfl rfl (by omega) (by omega) rfl) rfl ?_
    | refine wE_n rfl rfl rfl ?_
    | refine wE_u rfl rfl rfl ?_
    | refine wE_new (o_mks rfl rfl (by omega) (by decide)) rfl ?_))
        exact ⟨i + 1, hi2, by omega, .inl (Le_of ⟨⟨rfl, by simp [AV.ltr]⟩, ⟨rfl, by simp [AV.ltr]⟩, ⟨rfl, rfl⟩, ⟨rfl, rfl⟩, ⟨rfl, rfl⟩, trivial⟩ (fun q rows hq => cT_s2 hq) (hwS _ _))⟩
      · rw [decide_eq_false hr] at cf
        have hno := bhL_no hr
        repeat (first | refine wG_call cf (ag_any (cT_ord hm) (ag_int rfl (ag_int rfl ag_nil))) rfl ?_ | (first
    | refine wC_a rfl ?_
    | refine q_s rfl ?_
    | refine q_b rfl ?_
    | refine wG_nil ?_
    | refine wG_g rfl ?_
    | refine wG_pure (o_len_vwm rfl) ?_
    | refine wG_pure (o_not_d rfl) ?_
    | refine wG_p rfl (by first | exact rfl | omega) ?_
    | refine wG_pure (o_str2 rfl rfl rfl) ?_
    | refine wG_pure (e_istr rfl rfl (by omega)) ?_
    | refine wG_pure (e_istr0 rfl rfl (by omega)) ?_
    | refine wG_pure (o_not rfl) ?_
    | refine wG_pure (e_ia_vw0 rfl rfl (by omega) rfl) ?_
    | refine wG_pure (e_ia_vwp rfl rfl (by omega) rfl) ?_
    | refine wG_pure (e_ia_vwm rfl rfl (by omega) (by omega) rfl) ?_
    | refine wG_pure (e_ia_vwi rfl rfl (by omega) rfl) ?_
    | refine wG_pure (e_ia_vwn rfl rfl (by omega) (by omega) rfl) ?_
    | refine wG_n rfl rfl ?_
    | refine wG_u rfl rfl ?_
    | refine wG_new (o_mks rfl rfl (by omega) (by decide)) ?_))
        refine ⟨i + 1, hi2, by omega, .inl (Le_of ⟨⟨rfl, by simp [AV.ltr]⟩, ⟨rfl, by simp [AV.ltr]⟩, ⟨rfl, rfl⟩, ⟨rfl, rfl⟩, ⟨rfl, rfl⟩, trivial⟩ (fun q rows hq => ?_) (hwS _ _))⟩
        rw [hno] at hq; exact hq
    · have hi3 : i = r.cs.length := by omega
      subst hi3
      have hend := bhL_end (W := later r) (show v < 2 ^ r.cs.length - 1 by omega)
      repeat (first
    | refine wC_a rfl ?_
    | refine q_s rfl ?_
    | refine q_b rfl ?_
    | refine wG_nil ?_
    | refine wG_g rfl ?_
    | refine wG_pure (o_len_vwm rfl) ?_
    | refine wG_pure (o_not_d rfl) ?_
    | refine wG_p rfl (by first | exact rfl | omega) ?_
    | refine wG_pure (o_str2 rfl rfl rfl) ?_
    | refine wG_pure (e_istr rfl rfl (by omega)) ?_
    | refine wG_pure (e_istr0 rfl rfl (by omega)) ?_
    | refine wG_pure (o_not rfl) ?_
    | refine wG_pure (e_ia_vw0 rfl rfl (by omega) rfl) ?_
    | refine wG_pure (e_ia_vwp rfl rfl (by omega) rfl) ?_
    | refine wG_pure (e_ia_vwm rfl rfl (by omega) (by omega) rfl) ?_
    | refine wG_pure (e_ia_vwi rfl rfl (by omega) rfl) ?_
    | refine wG_pure (e_ia_vwn rfl rfl (by omega) (by omega) rfl) ?_
    | refine wG_n rfl rfl ?_
    | refine wG_u rfl rfl ?_
    | refine wG_new (o_mks rfl rfl (by omega) (by decide)) ?_)
      refine ⟨v, by omega, by omega, .inl (Le_of ⟨⟨rfl, by simp [AV.ltr]⟩, ⟨rfl, by simp [AV.ltr]⟩, ⟨rfl, rfl⟩, trivial⟩ (fun q rows hq => ?_) (hwS _ _))⟩
      rw [← hend] at hq; exact hq
  have hu0 : u = 0 := by omega
  subst hu0
  repeat (first
    | refine wC_a rfl ?_
    | refine q_s rfl ?_
    | refine q_b rfl ?_
    | refine wG_nil ?_
    | refine wG_g rfl ?_
    | refine wG_pure (o_len_vwm rfl) ?_
    | refine wG_pure (o_not_d rfl) ?_
    | refine wG_p rfl (by first | exact rfl | omega) ?_
    | refine wG_pure (o_str2 rfl rfl rfl) ?_
    | refine wG_pure (e_istr rfl rfl (by omega)) ?_
    | refine wG_pure (e_istr0 rfl rfl (by omega)) ?_
    | refine wG_pure (o_not rfl) ?_
    | refine wG_pure (e_ia_vw0 rfl rfl (by omega) rfl) ?_
    | refine wG_pure (e_ia_vwp rfl rfl (by omega) rfl) ?_
    | refine wG_pure (e_ia_vwm rfl rfl (by omega) (by omega) rfl) ?_
    | refine wG_pure (e_ia_vwi rfl rfl (by omega) rfl) ?_
    | refine wG_pure (e_ia_vwn rfl rfl (by omega) (by omega) rfl) ?_
    | refine wG_n rfl rfl ?_
    | refine wG_u rfl rfl ?_
    | refine wG_new (o_mks rfl rfl (by omega) (by decide)) ?_)
  subst hm
  have hπ : ∀ i, i < (oO r).length + 3 → πof ((List.range (cgO r).length).map (· + 1)) i = i + 1 := fun i hi => πs (by rw [cgO_len]; exact hi)
  refine retG_gen (.inr rfl) (retVs_2 (retV_mv rfl) (retV_mv rfl)) ?_ (by simp [cgV, notOne]) ?_ (by simp) (nd_succ _) (fun i rows h => ?_)
  · show [AV.pt ((oO r).length + 3) 0 0, .bool true] = [AV.pt (πof _ ((oO r).length + 2)) 0 0, .bool true]
    rw [hπ _ (by omega)]
  · simp [cgV, cgO_len, AV.ltr, ltrL]
  · have hi : i < (oO r).length + 3 := by rw [← cgO_len]; exact (List.getElem?_eq_some_iff.1 h).1
    rw [hπ i hi]
    by_cases h6 : i < (oO r).length
    · rw [cgO, List.getElem?_append_left h6] at h
      rw [← ordO_sh (rowsP _) (b := 1) (fun j hj => by change j < (oO r).length at hj; rw [hπ j (by omega)]; omega) h]
      refine cT_o ?_ (by omega)
      rw [show i + 1 = 1 + i by omega]
      exact oT_in h
    · rw [cgO, List.getElem?_append_right (by omega)] at h
      have h7 : i = (oO r).length ∨ i = (oO r).length + 1 ∨ i = (oO r).length + 2 := by omega
      rcases h7 with rfl | rfl | rfl
      · rw [Nat.sub_self] at h
        cases h
        rw [← rn_rows (rowsP _), ← bfL_end, hp]
        exact cT_1
      · rw [Nat.add_sub_cancel_left] at h
        cases h
        rw [← rn_rows (rowsP _), ← bhL_0]
        exact cT_2
      · rw [Nat.add_sub_cancel_left] at h
        cases h
        rw [hp]
        refine cT_3.trans ?_
        simp only [List.map_cons, List.map_nil, rnL, rn]
        rw [hπ 0 (by omega), hπ _ (by omega), hπ _ (by omega)]
theorem con45_no (a b : Bool) (r : Rc) (h1 : r.cs.length ≤ 1048576) (h2 : r.xs.length ≤ 1048576) (hC : ¬ GoodC r) : Con Try.prog 45 true [.agg (rRow a b r)] (.tup [.nilP, .bool false]) [] := by
  classical
  refine con_of_wp mixed fun45 (by simp) [] plain_nil ?_
  unfold ac45 ro45
  simp only [zipT]
  by_cases hG : GoodR r
  · have cR := con68_yes a b r hG
    rw [decide_eq_false (fun h => hC ⟨hG, h⟩)] at cR
    repeat (first
    | refine wC_a rfl ?_
    | refine q_s rfl ?_
    | refine q_b rfl ?_
    | refine wG_nil ?_
    | refine wG_g rfl ?_
    | refine wG_pure (o_len_vwm rfl) ?_
    | refine wG_pure (o_not_d rfl) ?_
    | refine wG_p rfl (by first | exact rfl | omega) ?_
    | refine wG_pure (o_str2 rfl rfl rfl) ?_
    | refine wG_pure (e_istr rfl rfl (by omega)) ?_
    | refine wG_pure (e_istr0 rfl rfl (by omega)) ?_
    | refine wG_pure (o_not rfl) ?_
    | refine wG_pure (e_ia_vw0 rfl rfl (by omega) rfl) ?_
    | refine wG_pure (e_ia_vwp rfl rfl (by omega) rfl) ?_
    | refine wG_pure (e_ia_vwm rfl rfl (by omega) (by omega) rfl) ?_
    | refine wG_pure (e_ia_vwi rfl rfl (by omega) rfl) ?_
    | refine wG_pure (e_ia_vwn rfl rfl (by omega) (by omega) rfl) ?_
    | refine wG_n rfl rfl ?_
    | refine wG_u rfl rfl ?_
    | refine wG_new (o_mks rfl rfl (by omega) (by decide)) ?_)
    refine wG_callG (v' := .tup [.pt 1 0 0, .bool false]) cR rfl rfl rfl ?_
    repeat (first
    | refine wC_a rfl ?_
    | refine q_s rfl ?_
    | refine q_b rfl ?_
    | refine wG_nil ?_
    | refine wG_g rfl ?_
    | refine wG_pure (o_len_vwm rfl) ?_
    | refine wG_pure (o_not_d rfl) ?_
    | refine wG_p rfl (by first | exact rfl | omega) ?_
    | refine wG_pure (o_str2 rfl rfl rfl) ?_
    | refine wG_pure (e_istr rfl rfl (by omega)) ?_
    | refine wG_pure (e_istr0 rfl rfl (by omega)) ?_
    | refine wG_pure (o_not rfl) ?_
    | refine wG_pure (e_ia_vw0 rfl rfl (by omega) rfl) ?_
    | refine wG_pure (e_ia_vwp rfl rfl (by omega) rfl) ?_
    | refine wG_pure (e_ia_vwm rfl rfl (by omega) (by omega) rfl) ?_
    | refine wG_pure (e_ia_vwi rfl rfl (by omega) rfl) ?_
    | refine wG_pure (e_ia_vwn rfl rfl (by omega) (by omega) rfl) ?_
    | refine wG_n rfl rfl ?_
    | refine wG_u rfl rfl ?_
    | refine wG_new (o_mks rfl rfl (by omega) (by decide)) ?_)
    exact ret_pl (.inr rfl) (retVs_2 (retV_mv rfl) (retV_mv rfl)) rfl rfl (by simp)
  · have cR := con68_no a b r h1 h2 hG
    repeat (first | refine wG_call cR rfl rfl ?_ | (first
    | refine wC_a rfl ?_
    | refine q_s rfl ?_
    | refine q_b rfl ?_
    | refine wG_nil ?_
    | refine wG_g rfl ?_
    | refine wG_pure (o_len_vwm rfl) ?_
    | refine wG_pure (o_not_d rfl) ?_
    | refine wG_p rfl (by first | exact rfl | omega) ?_
    | refine wG_pure (o_str2 rfl rfl rfl) ?_
    | refine wG_pure (e_istr rfl rfl (by omega)) ?_
    | refine wG_pure (e_istr0 rfl rfl (by omega)) ?_
    | refine wG_pure (o_not rfl) ?_
    | refine wG_pure (e_ia_vw0 rfl rfl (by omega) rfl) ?_
    | refine wG_pure (e_ia_vwp rfl rfl (by omega) rfl) ?_
    | refine wG_pure (e_ia_vwm rfl rfl (by omega) (by omega) rfl) ?_
    | refine wG_pure (e_ia_vwi rfl rfl (by omega) rfl) ?_
    | refine wG_pure (e_ia_vwn rfl rfl (by omega) (by omega) rfl) ?_
    | refine wG_n rfl rfl ?_
    | refine wG_u rfl rfl ?_
    | refine wG_new (o_mks rfl rfl (by omega) (by decide)) ?_))
    exact ret_pl (.inr rfl) (retVs_2 (retV_mv rfl) (retV_mv rfl)) rfl rfl (by simp)
end Go.Proofs.Ythicnjgdngfbkaa.Rec
