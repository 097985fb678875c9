/- The order of a record, new in memory: what the implementation makes. -/
import Derived.Test.YteoonedddgiacaaRecD
namespace Go.Proofs.Yteoonedddgiacaa.Rec
open Go Go.Proofs.Yteoonedddgiacaa.Ab Go.Proofs.Yteoonedddgiacaa.Il
attribute [local irreducible] wpO wpC wpDr wpQ wpG wpE stepA seqQ blkQ Ret RetG ev
set_option maxRecDepth 10000
set_option maxHeartbeats 8000000
set_option linter.unusedSimpArgs false
set_option linter.unusedVariables false

def ac62 : AC := (.seq (.reg [⟨(some 1), none, (.box 2 true (.t 0))⟩, ⟨(some 2), none, (.mv (.c .nilP))⟩]) (.seq (.reg [⟨(some 14), none, (.fa 0 (.t 1))⟩, ⟨(some 15), none, (.ld false 1 (.t 14))⟩, ⟨(some 16), none, (.len (.t 15))⟩, ⟨(some 3), none, (.mv (.t 16))⟩]) (.seq (.reg [⟨(some 17), none, (.mv (.t 3))⟩, ⟨(some 18), none, (.call 73 [(.t 17)])⟩, ⟨(some 19), none, (.mv (.t 3))⟩, ⟨(some 20), none, (.call 73 [(.t 19)])⟩, ⟨(some 21), none, (.build [.nilS, .nilS, .nilS] [(1, (1, (.t 18))), (2, (1, (.t 20)))])⟩, ⟨(some 22), none, (.box 3 true (.t 21))⟩, ⟨(some 4), none, (.mv (.t 22))⟩]) (.seq (.seq (.reg [⟨(some 23), none, (.fa 0 (.t 1))⟩, ⟨(some 24), none, (.ld false 1 (.t 23))⟩, ⟨(some 25), none, (.len (.t 24))⟩, ⟨(some 26), none, (.mv (.c (.int .i64 0)))⟩]) (.blk 0 (.loop (.seq (.reg [⟨(some 27), none, (.bin .lss (.t 26) (.t 25))⟩]) (.seq (.cond (.t 27) .skip (.exit 0)) (.seq (.blk 1 (.seq (.reg [⟨(some 28), none, (.ia 2 (.t 24) (.t 26))⟩, ⟨(some 29), none, (.ld true 2 (.t 28))⟩, ⟨(some 6), none, (.alloc [(.int .i64 0), (.int .i64 0)])⟩, ⟨none, none, (.st 2 (.t 6) (.t 29))⟩]) (.dreg [⟨(some 30), none, (.mv (.t 4))⟩, ⟨(some 31), none, (.mv (.t 4))⟩, ⟨(some 32), none, (.nck (.t 31))⟩, ⟨(some 33), none, (.fa 0 (.t 32))⟩, ⟨(some 34), none, (.ld false 1 (.t 33))⟩, ⟨(some 35), none, (.fa 0 (.t 6))⟩, ⟨(some 36), none, (.ld false 1 (.t 35))⟩, ⟨(some 37), none, (.bsl 1 [(.int .i64 0)] 1 [(0, (.t 36))])⟩, ⟨(some 38), none, (.app 1 8 [(.int .i64 0)] (.t 34) (.t 37))⟩, ⟨(some 39), none, (.nck (.t 30))⟩, ⟨(some 40), none, (.fa 0 (.t 39))⟩, ⟨none, none, (.st 1 (.t 40) (.t 38))⟩] [[], [], [1], [1, 2], [1, 2, 3], [], [5], [5, 6], [1, 2, 3, 4, 5, 6, 7], [0, 1, 2, 3, 4, 5, 6, 7, 8], [0, 1, 2, 3, 4, 5, 6, 7, 8, 9], [0, 1, 2, 3, 4, 5, 6, 7, 8, 9, 10]]))) (.reg [⟨(some 41), none, (.bin .add (.t 26) (.c (.int .i64 1)))⟩, ⟨(some 26), none, (.mv (.t 41))⟩]))))))) (.seq (.seq (.reg [⟨(some 42), none, (.fa 1 (.t 1))⟩, ⟨(some 43), none, (.ld false 1 (.t 42))⟩, ⟨(some 44), none, (.len (.t 43))⟩, ⟨(some 45), none, (.mv (.c (.int .i64 0)))⟩]) (.blk 2 (.loop (.seq (.reg [⟨(some 46), none, (.bin .lss (.t 45) (.t 44))⟩]) (.seq (.cond (.t 46) .skip (.exit 2)) (.seq (.blk 3 (.seq (.reg [⟨(some 47), none, (.ia 2 (.t 43) (.t 45))⟩, ⟨(some 48), none, (.ld true 2 (.t 47))⟩, ⟨(some 8), none, (.alloc [(.int .i64 0), (.int .i64 0)])⟩, ⟨none, none, (.st 2 (.t 8) (.t 48))⟩]) (.seq (.dreg [⟨(some 49), none, (.ld true 2 (.t 1))⟩, ⟨(some 50), none, (.fa 0 (.t 8))⟩, ⟨(some 51), none, (.ld false 1 (.t 50))⟩, ⟨(some 52), none, (.call 27 [(.t 49), (.t 51)])⟩, ⟨(some 53), none, (.ld true 2 (.t 1))⟩, ⟨(some 54), none, (.fa 1 (.t 8))⟩, ⟨(some 55), none, (.ld false 1 (.t 54))⟩, ⟨(some 56), none, (.call 27 [(.t 53), (.t 55)])⟩, ⟨(some 9), none, (.mv (.t 52))⟩, ⟨(some 10), none, (.mv (.t 56))⟩] [[], [], [1], [0, 1, 2], [], [], [5], [0, 1, 2, 3, 4, 5, 6], [0, 1, 2, 3, 4, 5, 6, 7], [0, 1, 2, 3, 4, 5, 6, 7, 8]]) (.seq (.reg [⟨(some 57), none, (.mv (.t 4))⟩, ⟨(some 58), none, (.nck (.t 57))⟩, ⟨(some 59), none, (.fa 1 (.t 58))⟩, ⟨(some 60), none, (.ld false 1 (.t 59))⟩, ⟨(some 61), none, (.mv (.t 9))⟩, ⟨(some 62), none, (.ia 1 (.t 60) (.t 61))⟩, ⟨(some 63), none, (.ld false 1 (.t 62))⟩, ⟨(some 64), none, (.mv (.t 10))⟩, ⟨(some 65), none, (.ia 1 (.t 63) (.t 64))⟩, ⟨none, none, (.st 1 (.t 65) (.c (.bool true)))⟩]) (.reg [⟨(some 66), none, (.mv (.t 4))⟩, ⟨(some 67), none, (.nck (.t 66))⟩, ⟨(some 68), none, (.fa 2 (.t 67))⟩, ⟨(some 69), none, (.ld false 1 (.t 68))⟩, ⟨(some 70), none, (.mv (.t 9))⟩, ⟨(some 71), none, (.ia 1 (.t 69) (.t 70))⟩, ⟨(some 72), none, (.ld false 1 (.t 71))⟩, ⟨(some 73), none, (.mv (.t 10))⟩, ⟨(some 74), none, (.ia 1 (.t 72) (.t 73))⟩, ⟨none, none, (.st 1 (.t 74) (.c (.bool true)))⟩]))))) (.reg [⟨(some 75), none, (.bin .add (.t 45) (.c (.int .i64 1)))⟩, ⟨(some 45), none, (.mv (.t 75))⟩]))))))) (.seq (.seq (.reg [⟨(some 76), none, (.mv (.t 3))⟩, ⟨(some 77), none, (.mv (.c (.int .i64 0)))⟩]) (.blk 4 (.loop (.seq (.reg [⟨(some 78), none, (.bin .lss (.t 77) (.t 76))⟩]) (.seq (.cond (.t 78) .skip (.exit 4)) (.seq (.blk 5 (.seq (.reg [⟨(some 79), none, (.mv (.t 77))⟩, ⟨(some 11), none, (.mv (.t 79))⟩]) (.seq (.reg [⟨(some 80), none, (.mv (.t 3))⟩, ⟨(some 81), none, (.mv (.c (.int .i64 0)))⟩]) (.blk 6 (.loop (.seq (.reg [⟨(some 82), none, (.bin .lss (.t 81) (.t 80))⟩]) (.seq (.cond (.t 82) .skip (.exit 6)) (.seq (.blk 7 (.seq (.reg [⟨(some 83), none, (.mv (.t 81))⟩, ⟨(some 12), none, (.mv (.t 83))⟩]) (.seq (.reg [⟨(some 84), none, (.mv (.t 3))⟩, ⟨(some 85), none, (.mv (.c (.int .i64 0)))⟩]) (.blk 8 (.loop (.seq (.reg [⟨(some 86), none, (.bin .lss (.t 85) (.t 84))⟩]) (.seq (.cond (.t 86) .skip (.exit 8)) (.seq (.blk 9 (.seq (.reg [⟨(some 87), none, (.mv (.t 85))⟩, ⟨(some 13), none, (.mv (.t 87))⟩]) (.dreg [⟨(some 88), none, (.mv (.t 4))⟩, ⟨(some 89), none, (.nck (.t 88))⟩, ⟨(some 90), none, (.fa 2 (.t 89))⟩, ⟨(some 91), none, (.ld false 1 (.t 90))⟩, ⟨(some 92), none, (.mv (.t 12))⟩, ⟨(some 93), none, (.ia 1 (.t 91) (.t 92))⟩, ⟨(some 94), none, (.ld false 1 (.t 93))⟩, ⟨(some 95), none, (.mv (.t 13))⟩, ⟨(some 96), none, (.mv (.t 4))⟩, ⟨(some 97), none, (.nck (.t 96))⟩, ⟨(some 98), none, (.fa 2 (.t 97))⟩, ⟨(some 99), none, (.ld false 1 (.t 98))⟩, ⟨(some 100), none, (.mv (.t 12))⟩, ⟨(some 101), none, (.ia 1 (.t 99) (.t 100))⟩, ⟨(some 102), none, (.ld false 1 (.t 101))⟩, ⟨(some 103), none, (.mv (.t 13))⟩, ⟨(some 104), none, (.ia 1 (.t 102) (.t 103))⟩, ⟨(some 105), none, (.ld false 1 (.t 104))⟩, ⟨(some 106), none, (.mv (.t 105))⟩, ⟨(some 107), (some (106, false)), (.mv (.t 4))⟩, ⟨(some 108), (some (106, false)), (.nck (.t 107))⟩, ⟨(some 109), (some (106, false)), (.fa 2 (.t 108))⟩, ⟨(some 110), (some (106, false)), (.ld false 1 (.t 109))⟩, ⟨(some 111), (some (106, false)), (.mv (.t 12))⟩, ⟨(some 112), (some (106, false)), (.ia 1 (.t 110) (.t 111))⟩, ⟨(some 113), (some (106, false)), (.ld false 1 (.t 112))⟩, ⟨(some 114), (some (106, false)), (.mv (.t 11))⟩, ⟨(some 115), (some (106, false)), (.ia 1 (.t 113) (.t 114))⟩, ⟨(some 116), (some (106, false)), (.ld false 1 (.t 115))⟩, ⟨(some 117), (some (106, false)), (.mv (.t 116))⟩, ⟨(some 118), (some (117, true)), (.mv (.t 4))⟩, ⟨(some 119), (some (117, true)), (.nck (.t 118))⟩, ⟨(some 120), (some (117, true)), (.fa 2 (.t 119))⟩, ⟨(some 121), (some (117, true)), (.ld false 1 (.t 120))⟩, ⟨(some 122), (some (117, true)), (.mv (.t 11))⟩, ⟨(some 123), (some (117, true)), (.ia 1 (.t 121) (.t 122))⟩, ⟨(some 124), (some (117, true)), (.ld false 1 (.t 123))⟩, ⟨(some 125), (some (117, true)), (.mv (.t 13))⟩, ⟨(some 126), (some (117, true)), (.ia 1 (.t 124) (.t 125))⟩, ⟨(some 127), (some (117, true)), (.ld false 1 (.t 126))⟩, ⟨(some 128), (some (106, false)), (.pick (.t 117) (.t 127) (.c (.bool false)))⟩, ⟨(some 129), none, (.pick (.t 106) (.c (.bool true)) (.t 128))⟩, ⟨(some 130), none, (.ia 1 (.t 94) (.t 95))⟩, ⟨none, none, (.st 1 (.t 130) (.t 129))⟩] [[], [0], [0, 1], [0, 1, 2], [], [0, 1, 2, 3, 4], [0, 1, 2, 3, 4, 5], [], [], [8], [8, 9], [8, 9, 10], [], [8, 9, 10, 11, 12], [8, 9, 10, 11, 12, 13], [], [8, 9, 10, 11, 12, 13, 14, 15], [8, 9, 10, 11, 12, 13, 14, 15, 16], [8, 9, 10, 11, 12, 13, 14, 15, 16, 17], [8, 9, 10, 11, 12, 13, 14, 15, 16, 17, 18], [8, 9, 10, 11, 12, 13, 14, 15, 16, 17, 18, 19], [8, 9, 10, 11, 12, 13, 14, 15, 16, 17, 18, 19, 20], [8, 9, 10, 11, 12, 13, 14, 15, 16, 17, 18, 19, 20, 21], [8, 9, 10, 11, 12, 13, 14, 15, 16, 17, 18], [8, 9, 10, 11, 12, 13, 14, 15, 16, 17, 18, 19, 20, 21, 22, 23], [8, 9, 10, 11, 12, 13, 14, 15, 16, 17, 18, 19, 20, 21, 22, 23, 24], [8, 9, 10, 11, 12, 13, 14, 15, 16, 17, 18], [8, 9, 10, 11, 12, 13, 14, 15, 16, 17, 18, 19, 20, 21, 22, 23, 24, 25, 26], [8, 9, 10, 11, 12, 13, 14, 15, 16, 17, 18, 19, 20, 21, 22, 23, 24, 25, 26, 27], [8, 9, 10, 11, 12, 13, 14, 15, 16, 17, 18, 19, 20, 21, 22, 23, 24, 25, 26, 27, 28], [8, 9, 10, 11, 12, 13, 14, 15, 16, 17, 18, 19, 20, 21, 22, 23, 24, 25, 26, 27, 28, 29], [8, 9, 10, 11, 12, 13, 14, 15, 16, 17, 18, 19, 20, 21, 22, 23, 24, 25, 26, 27, 28, 29, 30], [8, 9, 10, 11, 12, 13, 14, 15, 16, 17, 18, 19, 20, 21, 22, 23, 24, 25, 26, 27, 28, 29, 30, 31], [8, 9, 10, 11, 12, 13, 14, 15, 16, 17, 18, 19, 20, 21, 22, 23, 24, 25, 26, 27, 28, 29, 30, 31, 32], [8, 9, 10, 11, 12, 13, 14, 15, 16, 17, 18, 19, 20, 21, 22, 23, 24, 25, 26, 27, 28, 29], [8, 9, 10, 11, 12, 13, 14, 15, 16, 17, 18, 19, 20, 21, 22, 23, 24, 25, 26, 27, 28, 29, 30, 31, 32, 33, 34], [8, 9, 10, 11, 12, 13, 14, 15, 16, 17, 18, 19, 20, 21, 22, 23, 24, 25, 26, 27, 28, 29, 30, 31, 32, 33, 34, 35], [8, 9, 10, 11, 12, 13, 14, 15, 16, 17, 18, 19, 20, 21, 22, 23, 24, 25, 26, 27, 28, 29], [8, 9, 10, 11, 12, 13, 14, 15, 16, 17, 18, 19, 20, 21, 22, 23, 24, 25, 26, 27, 28, 29, 30, 31, 32, 33, 34, 35, 36, 37], [8, 9, 10, 11, 12, 13, 14, 15, 16, 17, 18, 19, 20, 21, 22, 23, 24, 25, 26, 27, 28, 29, 30, 31, 32, 33, 34, 35, 36, 37, 38], [8, 9, 10, 11, 12, 13, 14, 15, 16, 17, 18, 19, 20, 21, 22, 23, 24, 25, 26, 27, 28, 29, 30, 31, 32, 33, 34, 35, 36, 37, 38, 39], [8, 9, 10, 11, 12, 13, 14, 15, 16, 17, 18, 19, 20, 21, 22, 23, 24, 25, 26, 27, 28, 29, 30, 31, 32, 33, 34, 35, 36, 37, 38, 39, 40], [0, 1, 2, 3, 4, 5, 6, 7, 8, 9, 10, 11, 12, 13, 14, 15, 16, 17, 18, 19, 20, 21, 22, 23, 24, 25, 26, 27, 28, 29, 30, 31, 32, 33, 34, 35, 36, 37, 38, 39, 40, 41], [0, 1, 2, 3, 4, 5, 6, 7, 8, 9, 10, 11, 12, 13, 14, 15, 16, 17, 18, 19, 20, 21, 22, 23, 24, 25, 26, 27, 28, 29, 30, 31, 32, 33, 34, 35, 36, 37, 38, 39, 40, 41, 42]]))) (.reg [⟨(some 131), none, (.bin .add (.t 85) (.c (.int .i64 1)))⟩, ⟨(some 85), none, (.mv (.t 131))⟩]))))))))) (.reg [⟨(some 132), none, (.bin .add (.t 81) (.c (.int .i64 1)))⟩, ⟨(some 81), none, (.mv (.t 132))⟩]))))))))) (.reg [⟨(some 133), none, (.bin .add (.t 77) (.c (.int .i64 1)))⟩, ⟨(some 77), none, (.mv (.t 133))⟩]))))))) (.seq (.reg [⟨(some 134), none, (.mv (.t 4))⟩, ⟨(some 2), none, (.mv (.t 134))⟩]) .ret)))))))
def ro62 : List AOp := [(.mv (.t 2))]
theorem fun62 : Fun Try.prog 62 135 ac62 ro62 := ⟨Try.f62, _, Try.func62, by kernel_rfl, rfl, rfl, by kernel_rfl, by kernel_rfl, by decide⟩

/-- The memory of an order: 0 the record, 1 the order, 2 and 3 its tables, 4 its numbers, 5 .. the tables' rows. -/
def hO (rr : List AV) (nv : AV) (no : Option Ab.Rows) (W A : Nat → Nat → Bool) (n : Nat) : List (Nat × Option Ab.Rows) :=
  (1, some [[nv, .sl 3 1 0 n, .sl 2 1 0 n]]) :: (2, some (outB n 5)) :: (3, some (outB n (n + 5))) :: (0, some [rr]) :: (4, no) :: mkh 5 (boolRs W n ++ boolRs A n)
theorem sqO_sh (n b : Nat) : (sqO n).map (shR b) = outB n (b + 1) :: List.replicate n (fR n) := by
  rw [sqO, List.map_cons, List.map_replicate, fR_eq, shR_plain (boolR_plain _ _)]
  congr 1
  rw [outB, shR, List.map_map, outB]
  refine List.map_congr_left fun q _ => ?_
  show [AV.sl (b + (q + 1)) 1 0 n] = [AV.sl (q + (b + 1)) 1 0 n]
  rw [show b + (q + 1) = q + (b + 1) by omega]
theorem sqO_len (n : Nat) : (sqO n).length = n + 1 := by simp [sqO]
def nums (r : Rc) (c : Nat) : List Int := (r.cs.take c).map Cn.n
theorem nums_len {r : Rc} {c : Nat} (h : c ≤ r.cs.length) : (nums r c).length = c := by simp [nums]; omega
theorem nums_succ {r : Rc} {c : Nat} (h : c < r.cs.length) : nums r (c + 1) = nums r c ++ [(r.cs.getD c default).n] := by
  rw [nums, nums, List.take_succ_eq_append_getElem h, List.map_append]
  simp [List.getD_eq_getElem?_getD, List.getElem?_eq_getElem h]
def numV (c : Nat) : AV := match c with
  | 0 => .nilS
  | c + 1 => .sl 4 1 0 (c + 1)
def numO (r : Rc) (c : Nat) : Option Ab.Rows := match c with
  | 0 => none
  | c + 1 => some ((nums r (c + 1)).map iRow)
/-- All that an order's memory holds is known. -/
theorem hO_wf {rr : List AV} {nv : AV} {no : Option Ab.Rows} {W A : Nat → Nat → Bool} {n nr : Nat} (h1 : 2 * n + 5 ≤ nr) (hr : ∀ x ∈ rr, AV.ltr nr x = true) (hv : AV.ltr nr nv = true) (ho : ∀ rows, no = some rows → ∀ row ∈ rows, ∀ x ∈ row, AV.ltr nr x = true) : wfH (hO rr nv no W A n) nr := by
  have hz : wfH (mkh 5 (boolRs W n ++ boolRs A n)) nr := by
    refine wfH_mkh (by simp [boolRs_len]; omega) (fun rows hrw => ?_)
    rcases List.mem_append.1 hrw with h | h
    · exact boolRs_ltr W n nr rows h
    · exact boolRs_ltr A n nr rows h
  have h4 : wfH ((4, no) :: mkh 5 (boolRs W n ++ boolRs A n)) nr := by
    cases no with
    | none => exact wfH_none hz
    | some rows => exact wfH_cons (by omega) (ho rows rfl) hz
  refine wfH_cons (by omega) ?_ (wfH_cons (by omega) (outB_ltr (by omega)) (wfH_cons (by omega) (outB_ltr (by omega)) (wfH_cons (by omega) ?_ h4)))
  · intro row hrow x hx
    simp at hrow; subst hrow
    simp at hx
    rcases hx with rfl | rfl | rfl
    · exact hv
    · simp [AV.ltr]; omega
    · simp [AV.ltr]; omega
  · intro row hrow x hx
    simp at hrow; subst hrow
    exact hr x hx
theorem hO_1 {rr : List AV} {nv : AV} {no : Option Ab.Rows} {W A : Nat → Nat → Bool} {n : Nat} : hg (hO rr nv no W A n) 1 = some [[nv, .sl 3 1 0 n, .sl 2 1 0 n]] := rfl
theorem hO_2 {rr : List AV} {nv : AV} {no : Option Ab.Rows} {W A : Nat → Nat → Bool} {n : Nat} : hg (hO rr nv no W A n) 2 = some (outB n 5) := rfl
theorem hO_3 {rr : List AV} {nv : AV} {no : Option Ab.Rows} {W A : Nat → Nat → Bool} {n : Nat} : hg (hO rr nv no W A n) 3 = some (outB n (n + 5)) := rfl
theorem hO_0 {rr : List AV} {nv : AV} {no : Option Ab.Rows} {W A : Nat → Nat → Bool} {n : Nat} : hg (hO rr nv no W A n) 0 = some [rr] := rfl
theorem hO_4 {rr : List AV} {nv : AV} {no : Option Ab.Rows} {W A : Nat → Nat → Bool} {n : Nat} : hg (hO rr nv no W A n) 4 = no := rfl
/-- A look-up in an order's memory. -/
theorem hO_cases {rr : List AV} {nv : AV} {no : Option Ab.Rows} {W A : Nat → Nat → Bool} {n q : Nat} {rows : Ab.Rows} (h : hg (hO rr nv no W A n) q = some rows) :
    (q = 1 ∧ rows = [[nv, .sl 3 1 0 n, .sl 2 1 0 n]]) ∨ (q = 2 ∧ rows = outB n 5) ∨ (q = 3 ∧ rows = outB n (n + 5)) ∨ (q = 0 ∧ rows = [rr]) ∨ (q = 4 ∧ no = some rows) ∨ (5 ≤ q ∧ q < n + 5 ∧ rows = boolR (W (q - 5)) n) ∨ (n + 5 ≤ q ∧ q < 2 * n + 5 ∧ rows = boolR (A (q - (n + 5))) n) := by
  unfold hO at h
  by_cases h1 : q = 1
  · subst h1; rw [hg_here] at h; exact .inl ⟨rfl, (Option.some.inj h).symm⟩
  by_cases h2 : q = 2
  · subst h2; exact .inr (.inl ⟨rfl, (Option.some.inj h).symm⟩)
  by_cases h3 : q = 3
  · subst h3; exact .inr (.inr (.inl ⟨rfl, (Option.some.inj h).symm⟩))
  by_cases h0 : q = 0
  · subst h0; exact .inr (.inr (.inr (.inl ⟨rfl, (Option.some.inj h).symm⟩)))
  by_cases h4 : q = 4
  · subst h4; exact .inr (.inr (.inr (.inr (.inl ⟨rfl, h⟩))))
  have h5 : Ab.hg (mkh 5 (boolRs W n ++ boolRs A n)) q = some rows := by simpa [Ab.hg, upd, h1, h2, h3, h0, h4] using h
  rw [hg_mkh] at h5
  split at h5
  · rename_i hc
    simp only [List.length_append, boolRs_len] at hc
    by_cases hq : q < n + 5
    · rw [List.getElem?_append_left (by simp [boolRs_len]; omega), boolRs_get (by omega)] at h5
      exact .inr (.inr (.inr (.inr (.inr (.inl ⟨hc.1, hq, (Option.some.inj h5).symm⟩)))))
    · rw [List.getElem?_append_right (by simp [boolRs_len]; omega), boolRs_len, boolRs_get (by omega)] at h5
      refine .inr (.inr (.inr (.inr (.inr (.inr ⟨by omega, by omega, ?_⟩)))))
      rw [show q - 5 - n = q - (n + 5) by omega] at h5
      exact (Option.some.inj h5).symm
  · cases h5
theorem hO_W {rr : List AV} {nv : AV} {no : Option Ab.Rows} {W A : Nat → Nat → Bool} {n i : Nat} (hi : i < n) : hg (hO rr nv no W A n) (i + 5) = some (boolR (W i) n) := by
  unfold hO
  refine hg_skip (by omega) (hg_skip (by omega) (hg_skip (by omega) (hg_skip (by omega) (hg_skip (by omega) (hg_in0 (by omega) ?_)))))
  rw [Nat.add_sub_cancel, List.getElem?_append_left (by simp [boolRs_len]; omega), boolRs_get hi]
theorem hO_A {rr : List AV} {nv : AV} {no : Option Ab.Rows} {W A : Nat → Nat → Bool} {n i : Nat} (hi : i < n) : hg (hO rr nv no W A n) (i + (n + 5)) = some (boolR (A i) n) := by
  unfold hO
  refine hg_skip (by omega) (hg_skip (by omega) (hg_skip (by omega) (hg_skip (by omega) (hg_skip (by omega) (hg_in0 (by omega) ?_)))))
  rw [List.getElem?_append_right (by simp [boolRs_len]; omega), boolRs_len, show i + (n + 5) - 5 - n = i by omega, boolRs_get hi]
/-- The order's memory after a truth value is written in its second or its first table. -/
theorem hO_setW {rr : List AV} {nv : AV} {no : Option Ab.Rows} {W W' A : Nat → Nat → Bool} {n i k : Nat} {b : Bool} {h : List (Nat × Option Ab.Rows)} (hi : i < n) (h1 : W' i k = b) (h2 : ∀ x, x ≠ k → W' i x = W i x) (h3 : ∀ a, a ≠ i → W' a = W a) (hh : ∀ q rows, hg (hO rr nv no W A n) q = some rows → q ≠ i + 5 → hg h q = some rows) {q : Nat} {rows : Ab.Rows} (hq : hg (hO rr nv no W' A n) q = some rows) :
    hg ((i + 5, some ((boolR (W i) n).set k [.bool b])) :: h) q = some rows := by
  by_cases hqi : q = i + 5
  · subst hqi
    rw [hO_W hi] at hq
    rw [← hq]
    refine Eq.trans hg_here (congrArg some ?_)
    exact set_range (by rw [h1]) (fun a ha => by rw [h2 a ha])
  · refine hg_skip hqi (hh q rows ?_ hqi)
    rcases hO_cases hq with ⟨rfl, rfl⟩ | ⟨rfl, rfl⟩ | ⟨rfl, rfl⟩ | ⟨rfl, rfl⟩ | ⟨rfl, e⟩ | ⟨q1, q2, rfl⟩ | ⟨q1, q2, rfl⟩
    · rfl
    · rfl
    · rfl
    · rfl
    · exact e
    · have := hO_W (rr := rr) (nv := nv) (no := no) (W := W) (A := A) (n := n) (i := q - 5) (by omega)
      rw [Nat.sub_add_cancel q1] at this
      rw [this, h3 _ (by omega)]
    · have := hO_A (rr := rr) (nv := nv) (no := no) (W := W) (A := A) (n := n) (i := q - (n + 5)) (by omega)
      rw [Nat.sub_add_cancel q1] at this
      exact this
theorem hO_setA {rr : List AV} {nv : AV} {no : Option Ab.Rows} {W A A' : Nat → Nat → Bool} {n i k : Nat} {b : Bool} {h : List (Nat × Option Ab.Rows)} (hi : i < n) (h1 : A' i k = b) (h2 : ∀ x, x ≠ k → A' i x = A i x) (h3 : ∀ a, a ≠ i → A' a = A a) (hh : ∀ q rows, hg (hO rr nv no W A n) q = some rows → q ≠ i + (n + 5) → hg h q = some rows) {q : Nat} {rows : Ab.Rows} (hq : hg (hO rr nv no W A' n) q = some rows) :
    hg ((i + (n + 5), some ((boolR (A i) n).set k [.bool b])) :: h) q = some rows := by
  by_cases hqi : q = i + (n + 5)
  · subst hqi
    rw [hO_A hi] at hq
    rw [← hq]
    refine Eq.trans hg_here (congrArg some ?_)
    exact set_range (by rw [h1]) (fun a ha => by rw [h2 a ha])
  · refine hg_skip hqi (hh q rows ?_ hqi)
    rcases hO_cases hq with ⟨rfl, rfl⟩ | ⟨rfl, rfl⟩ | ⟨rfl, rfl⟩ | ⟨rfl, rfl⟩ | ⟨rfl, e⟩ | ⟨q1, q2, rfl⟩ | ⟨q1, q2, rfl⟩
    · rfl
    · rfl
    · rfl
    · rfl
    · exact e
    · have := hO_W (rr := rr) (nv := nv) (no := no) (W := W) (A := A) (n := n) (i := q - 5) (by omega)
      rw [Nat.sub_add_cancel q1] at this
      exact this
    · have := hO_A (rr := rr) (nv := nv) (no := no) (W := W) (A := A) (n := n) (i := q - (n + 5)) (by omega)
      rw [Nat.sub_add_cancel q1] at this
      rw [this, h3 _ (by omega)]
/-- How the numbers of the first memory stand for those of the second. -/
def πO (n q : Nat) : Nat := if q = 0 then 0 else if q = 1 then 2 * n + 3 else if q = 2 then n + 2 else if q = 3 then 1 else if q = 4 then 2 * n + 4 else if q < n + 5 then q - 5 + (n + 3) else q - (n + 5) + 2
theorem πO_inj {n q q' : Nat} (h1 : q < 2 * n + 5) (h2 : q' < 2 * n + 5) (h : πO n q = πO n q') : q = q' := by
  unfold πO at h
  repeat' (split at h)
  all_goals omega
theorem rn_outB {n b b' : Nat} {π : Nat → Nat} (h : ∀ q, q < n → π (q + b) = q + b') : (outB n b).map (fun row => rnL π row) = outB n b' := by
  rw [outB, List.map_map, outB]
  refine List.map_congr_left fun q hq => ?_
  simp only [Function.comp, rnL, rn]
  rw [h q (List.mem_range.1 hq)]
/-- The list of numbers stands anew under the number w. -/
def π4 (w q : Nat) : Nat := if q = 4 then w else q
theorem hO_ren {rr : List AV} {nv : AV} {no : Option Ab.Rows} {W A : Nat → Nat → Bool} {n w c : Nat} {rows4 : Ab.Rows} {h : List (Nat × Option Ab.Rows)} (hrr : ∀ w, rnL (π4 w) rr = rr) (h4p : ∀ row ∈ rows4, ∀ x ∈ row, AV.plain x = true) (h1 : hg h 1 = some [[.sl w 1 0 c, .sl 3 1 0 n, .sl 2 1 0 n]]) (h4 : hg h w = some rows4)
    (hh : ∀ q rows, q ≠ 1 → q ≠ 4 → hg (hO rr nv no W A n) q = some rows → hg h q = some rows) {q : Nat} {rows : Ab.Rows} (hq : hg (hO rr (.sl 4 1 0 c) (some rows4) W A n) q = some rows) : hg h (π4 w q) = some (rows.map fun row => rnL (π4 w) row) := by
  have e4 : ∀ q, q ≠ 4 → π4 w q = q := fun q hq => if_neg hq
  rcases hO_cases hq with ⟨rfl, rfl⟩ | ⟨rfl, rfl⟩ | ⟨rfl, rfl⟩ | ⟨rfl, rfl⟩ | ⟨rfl, e⟩ | ⟨q1, q2, rfl⟩ | ⟨q1, q2, rfl⟩
  · exact h1
  · rw [e4 2 (by decide), rn_outB (b' := 5) (fun q _ => e4 _ (by omega))]
    exact hh 2 _ (by decide) (by decide) hO_2
  · rw [e4 3 (by decide), rn_outB (b' := n + 5) (fun q _ => e4 _ (by omega))]
    exact hh 3 _ (by decide) (by decide) hO_3
  · rw [e4 0 (by decide), List.map_cons, List.map_nil, hrr]
    exact hh 0 _ (by decide) (by decide) hO_0
  · cases e
    rw [← rn_rows h4p]
    exact h4
  · rw [e4 q (by omega), ← rn_rows (boolR_plain _ _)]
    have := hO_W (rr := rr) (nv := nv) (no := no) (W := W) (A := A) (n := n) (i := q - 5) (by omega)
    rw [Nat.sub_add_cancel q1] at this
    exact hh q _ (by omega) (by omega) this
  · rw [e4 q (by omega), ← rn_rows (boolR_plain _ _)]
    have := hO_A (rr := rr) (nv := nv) (no := no) (W := W) (A := A) (n := n) (i := q - (n + 5)) (by omega)
    rw [Nat.sub_add_cancel q1] at this
    exact hh q _ (by omega) (by omega) this
theorem π4_inj {w m q q' : Nat} (hw : m ≤ w) (h1 : q < m) (h2 : q' < m) (h : π4 w q = π4 w q') : q = q' := by
  unfold π4 at h
  repeat' (split at h)
  all_goals omega
theorem hO_congr {rr : List AV} {nv : AV} {no : Option Ab.Rows} {W W' A : Nat → Nat → Bool} {n : Nat} (h : ∀ i k, i < n → k < n → W i k = W' i k) : hO rr nv no W A n = hO rr nv no W' A n := by
  have : boolRs W n = boolRs W' n := by
    refine List.map_congr_left fun i hi => List.map_congr_left fun k hk => ?_
    rw [h i k (List.mem_range.1 hi) (List.mem_range.1 hk)]
  rw [hO, hO, this]
/-- Row i has taken in the first k places of row j. -/
def wsK (V : Nat → Nat → Bool) (j i k : Nat) : Nat → Nat → Bool := fun a x => if a = i ∧ x < k then (V i x || (V i j && V j x)) else V a x
theorem wsK_0 (V : Nat → Nat → Bool) (j i : Nat) : wsK V j i 0 = V := by funext a x; simp [wsK]
theorem wsK_n (V : Nat → Nat → Bool) (j i n a x : Nat) (hx : x < n) : wsK V j i n a x = ws V j i a x := by
  unfold wsK ws
  by_cases h : a = i
  · subst h; simp [hx]
  · simp [h]
theorem wsK_ik (V : Nat → Nat → Bool) (j i k : Nat) : wsK V j i k i k = V i k := by simp [wsK]
theorem wsK_ij (V : Nat → Nat → Bool) (j i k : Nat) : wsK V j i k i j = V i j := by
  unfold wsK
  split
  · cases V i j <;> simp
  · rfl
theorem wsK_jk (V : Nat → Nat → Bool) (j i k : Nat) : wsK V j i k j k = V j k := by simp [wsK]
theorem wsK_up (V : Nat → Nat → Bool) (j i k : Nat) : wsK V j i (k + 1) i k = (V i k || (V i j && V j k)) := by simp [wsK]
theorem wsK_x {V : Nat → Nat → Bool} {j i k x : Nat} (h : x ≠ k) : wsK V j i (k + 1) i x = wsK V j i k i x := by
  unfold wsK
  by_cases hx : x < k
  · rw [if_pos ⟨rfl, by omega⟩, if_pos ⟨rfl, hx⟩]
  · rw [if_neg (fun q => by have := q.2; omega), if_neg (fun q => hx q.2)]
theorem wsK_a {V : Nat → Nat → Bool} {j i k k' a : Nat} (h : a ≠ i) : wsK V j i k' a = wsK V j i k a := by funext x; simp [wsK, h]
/-- The new objects of an order: the order, its tables, its numbers, the tables' rows. -/
def ordO (nb : Ab.Rows) (W A : Nat → Nat → Bool) (n : Nat) : List Ab.Rows := match n with
  | 0 => [[[.nilS, .sl 2 1 0 0, .sl 1 1 0 0]], [], []]
  | n + 1 => [[.sl 3 1 0 (n + 1), .sl 2 1 0 (n + 1), .sl 1 1 0 (n + 1)]] :: outB (n + 1) 4 :: outB (n + 1) (n + 1 + 4) :: nb :: (boolRs W (n + 1) ++ boolRs A (n + 1))
theorem nd_succ (m : Nat) : ((List.range m).map (· + 1)).Nodup := by
  unfold List.Nodup
  rw [List.pairwise_map]
  exact List.Pairwise.imp (fun h e => h (by omega)) List.nodup_range
theorem ordO_pos (nb : Ab.Rows) (W A : Nat → Nat → Bool) (n : Nat) : 0 < (ordO nb W A n).length := by cases n <;> simp [ordO]
theorem πs {m i : Nat} (h : i < m) : πof ((List.range m).map (· + 1)) i = i + 1 := by simp [πof, h]
theorem ordO_nest {nb : Ab.Rows} (hnb : ∀ row ∈ nb, ∀ x ∈ row, AV.plain x = true) (W A : Nat → Nat → Bool) (n : Nat) : NestObjs (ordO nb W A n) := by
  have pl : ∀ (m : Nat) (x : AV), AV.plain x = true → AV.ltr m x = true ∧ AV.nvf x = true := by
    intro m x hx
    cases x <;> first | exact ⟨rfl, rfl⟩ | simp [AV.plain] at hx
  cases n with
  | zero =>
    intro rows hr row hrow x hx
    simp [ordO] at hr
    rcases hr with rfl | rfl
    · simp at hrow; subst hrow; simp at hx
      rcases hx with rfl | rfl | rfl <;> exact ⟨by simp [ordO, AV.ltr], rfl⟩
    · simp at hrow
  | succ n =>
    have hl : (ordO nb W A (n + 1)).length = 2 * (n + 1) + 4 := by simp [ordO, boolRs_len]; omega
    intro rows hr row hrow x hx
    rw [hl]
    rcases List.mem_cons.1 hr with rfl | hr
    · simp at hrow; subst hrow; simp at hx
      rcases hx with rfl | rfl | rfl <;> exact ⟨by simp [AV.ltr] <;> omega, rfl⟩
    rcases List.mem_cons.1 hr with rfl | hr
    · refine ⟨outB_ltr (by omega) row hrow x hx, ?_⟩
      obtain ⟨k, hk, rfl⟩ := List.mem_map.1 hrow
      simp at hx; subst hx; rfl
    rcases List.mem_cons.1 hr with rfl | hr
    · refine ⟨outB_ltr (by omega) row hrow x hx, ?_⟩
      obtain ⟨k, hk, rfl⟩ := List.mem_map.1 hrow
      simp at hx; subst hx; rfl
    rcases List.mem_cons.1 hr with rfl | hr
    · exact pl _ x (hnb row hrow x hx)
    · rcases List.mem_append.1 hr with h | h
      · obtain ⟨k, _, rfl⟩ := List.mem_map.1 h; exact pl _ x (boolR_plain _ _ row hrow x hx)
      · obtain ⟨k, _, rfl⟩ := List.mem_map.1 h; exact pl _ x (boolR_plain _ _ row hrow x hx)
/-- The order's memory, renumbered, is what the contract tells. -/
theorem ordO_mem {rr : List AV} {r : Rc} {W A : Nat → Nat → Bool} {n i : Nat} {rows : Ab.Rows} (h : (ordO ((nums r n).map iRow) W A n)[i]? = some rows) :
    hg (hO rr (numV n) (numO r n) W A n) (πof ((List.range (ordO ((nums r n).map iRow) W A n).length).map (· + 1)) i) = some (rows.map fun row => rnL (πof ((List.range (ordO ((nums r n).map iRow) W A n).length).map (· + 1))) row) := by
  have hi := (List.getElem?_eq_some_iff.1 h).1
  rw [πs hi]
  cases n with
  | zero =>
    match i, h with
    | 0, h => simp [ordO] at h; subst h; rfl
    | 1, h => simp [ordO] at h; subst h; rfl
    | 2, h => simp [ordO] at h; subst h; rfl
  | succ n =>
    have hl : (ordO ((nums r (n + 1)).map iRow) W A (n + 1)).length = 2 * (n + 1) + 4 := by simp [ordO, boolRs_len]; omega
    rw [hl] at hi ⊢
    match i, h, hi with
    | 0, h, hi =>
      simp [ordO] at h; subst h
      refine Eq.trans hO_1 (congrArg some ?_)
      simp only [List.map_cons, List.map_nil, rnL, rn]
      rw [πs (by omega), πs (by omega), πs (by omega)]
      rfl
    | 1, h, hi =>
      simp [ordO] at h; subst h
      rw [rn_outB (b' := 5) (fun q hq => πs (by omega))]
      exact hO_2
    | 2, h, hi =>
      simp [ordO] at h; subst h
      rw [rn_outB (b' := n + 1 + 5) (fun q hq => by rw [πs (by omega)]; omega)]
      exact hO_3
    | 3, h, hi =>
      simp [ordO] at h; subst h
      rw [← rn_rows (rowsP _)]
      exact hO_4
    | i + 4, h, hi =>
      have h' : (boolRs W (n + 1) ++ boolRs A (n + 1))[i]? = some rows := h
      by_cases hq : i < n + 1
      · rw [List.getElem?_append_left (by simp [boolRs_len]; omega), boolRs_get hq] at h'
        cases h'
        rw [← rn_rows (boolR_plain _ _)]
        exact hO_W hq
      · rw [List.getElem?_append_right (by simp [boolRs_len]; omega), boolRs_len, boolRs_get (by omega)] at h'
        cases h'
        rw [← rn_rows (boolR_plain _ _)]
        have := hO_A (rr := rr) (nv := numV (n + 1)) (no := numO r (n + 1)) (W := W) (A := A) (n := n + 1) (i := i - (n + 1)) (by omega)
        rw [show i - (n + 1) + (n + 1 + 5) = i + 4 + 1 by omega] at this
        exact this
end Go.Proofs.Yteoonedddgiacaa.Rec
