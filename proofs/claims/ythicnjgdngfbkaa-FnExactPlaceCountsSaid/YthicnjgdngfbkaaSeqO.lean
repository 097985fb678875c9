/- How often a context stands at each place: both sides. -/
import Derived.Test.YthicnjgdngfbkaaSeqE
import Derived.Test.YthicnjgdngfbkaaSeqP
namespace Go.Proofs.Ythicnjgdngfbkaa.Rec
open Go Go.Proofs.Ythicnjgdngfbkaa.Ab Go.Proofs.Ythicnjgdngfbkaa.Il
attribute [local irreducible] wpO wpC wpDr wpQ wpG wpE stepA seqQ blkQ Ret RetG ev
set_option maxRecDepth 10000
set_option maxHeartbeats 8000000
set_option linter.unusedSimpArgs false
set_option linter.unusedVariables false

def ac29 : AC := (.seq (.reg [⟨(some 2), none, (.box 2 true (.t 0))⟩, ⟨(some 4), none, (.mv (.c .nilS))⟩, ⟨(some 5), none, (.mv (.c (.bool false)))⟩]) (.seq (.seq (.reg [⟨(some 6), none, (.ld true 2 (.t 2))⟩, ⟨(some 7), none, (.call 40 [(.t 6)])⟩, ⟨(some 8), none, (.un .not (.t 7))⟩, ⟨(some 9), none, (.mv (.t 8))⟩, ⟨(some 10), (some (9, false)), (.ld true 2 (.t 2))⟩, ⟨(some 11), (some (9, false)), (.mv (.t 1))⟩, ⟨(some 12), (some (9, false)), (.call 48 [(.t 10), (.t 11)])⟩, ⟨(some 13), (some (9, false)), (.bin .lss (.t 12) (.c (.int .i64 0)))⟩, ⟨(some 14), none, (.pick (.t 9) (.c (.bool true)) (.t 13))⟩]) (.cond (.t 14) (.seq (.reg [⟨(some 15), none, (.bsl 1 [(.int .i64 0)] 0 [])⟩, ⟨(some 4), none, (.mv (.t 15))⟩, ⟨(some 5), none, (.mv (.c (.bool false)))⟩]) .ret) .skip)) (.seq (.dreg [⟨(some 16), none, (.ld true 2 (.t 2))⟩, ⟨(some 17), none, (.ld true 2 (.t 2))⟩, ⟨(some 18), none, (.mv (.t 1))⟩, ⟨(some 19), none, (.call 48 [(.t 17), (.t 18)])⟩, ⟨(some 20), none, (.call 58 [(.t 16), (.t 19)])⟩, ⟨(some 4), none, (.mv (.t 20))⟩, ⟨(some 5), none, (.mv (.c (.bool true)))⟩] [[], [], [], [1, 2], [0, 1, 2, 3], [0, 1, 2, 3, 4], [0, 1, 2, 3, 4, 5]]) .ret)))
def ro29 : List AOp := [(.mv (.t 4)), (.mv (.t 5))]
theorem fun29 : Fun Try.prog 29 21 ac29 ro29 := ⟨Try.f29, _, Try.func29, by kernel_rfl, rfl, rfl, by kernel_rfl, by kernel_rfl, by decide⟩
def ac30 : AC := (.seq (.reg [⟨(some 2), none, (.box 2 true (.t 0))⟩, ⟨(some 4), none, (.mv (.c .nilS))⟩, ⟨(some 5), none, (.mv (.c (.bool false)))⟩]) (.seq (.reg [⟨(some 15), none, (.ld true 2 (.t 2))⟩, ⟨(some 16), none, (.call 45 [(.t 15)])⟩, ⟨(some 14), none, (.mv (.t 16))⟩, ⟨(some 17), none, (.ext (.t 14) 0)⟩, ⟨(some 18), none, (.ext (.t 14) 1)⟩, ⟨(some 6), none, (.mv (.t 17))⟩, ⟨(some 7), none, (.mv (.t 18))⟩]) (.seq (.seq (.reg [⟨(some 19), none, (.mv (.t 7))⟩, ⟨(some 20), none, (.un .not (.t 19))⟩, ⟨(some 21), none, (.mv (.t 20))⟩, ⟨(some 22), (some (21, false)), (.ld true 2 (.t 2))⟩, ⟨(some 23), (some (21, false)), (.mv (.t 1))⟩, ⟨(some 24), (some (21, false)), (.call 50 [(.t 22), (.t 23)])⟩, ⟨(some 25), (some (21, false)), (.bin .lss (.t 24) (.c (.int .i64 0)))⟩, ⟨(some 26), none, (.pick (.t 21) (.c (.bool true)) (.t 25))⟩]) (.cond (.t 26) (.seq (.reg [⟨(some 4), none, (.mv (.c .nilS))⟩, ⟨(some 5), none, (.mv (.c (.bool false)))⟩]) .ret) .skip)) (.seq (.reg [⟨(some 27), none, (.ld true 2 (.t 2))⟩, ⟨(some 28), none, (.mv (.t 1))⟩, ⟨(some 29), none, (.call 50 [(.t 27), (.t 28)])⟩, ⟨(some 8), none, (.mv (.t 29))⟩]) (.seq (.reg [⟨(some 30), none, (.mv (.t 6))⟩, ⟨(some 31), none, (.nck (.t 30))⟩, ⟨(some 32), none, (.fa 0 (.t 31))⟩, ⟨(some 33), none, (.ld false 1 (.t 32))⟩, ⟨(some 34), none, (.nck (.t 33))⟩, ⟨(some 35), none, (.fa 0 (.t 34))⟩, ⟨(some 36), none, (.ld false 1 (.t 35))⟩, ⟨(some 37), none, (.len (.t 36))⟩, ⟨(some 38), none, (.mks 1 8 [(.int .i64 0)] (.t 37) (.t 37))⟩, ⟨(some 9), none, (.mv (.t 38))⟩]) (.seq (.seq (.reg [⟨(some 39), none, (.mv (.t 6))⟩, ⟨(some 40), none, (.nck (.t 39))⟩, ⟨(some 41), none, (.fa 1 (.t 40))⟩, ⟨(some 42), none, (.ld false 1 (.t 41))⟩, ⟨(some 43), none, (.len (.t 42))⟩, ⟨(some 44), none, (.mv (.c (.int .i64 0)))⟩]) (.blk 0 (.loop (.seq (.reg [⟨(some 45), none, (.bin .lss (.t 44) (.t 43))⟩]) (.seq (.cond (.t 45) .skip (.exit 0)) (.seq (.blk 1 (.seq (.reg [⟨(some 46), none, (.mv (.t 44))⟩, ⟨(some 47), none, (.ia 1 (.t 42) (.t 44))⟩, ⟨(some 48), none, (.ld false 1 (.t 47))⟩, ⟨(some 10), none, (.mv (.t 46))⟩, ⟨(some 11), none, (.mv (.t 48))⟩]) (.seq (.seq (.reg [⟨(some 49), none, (.mv (.t 6))⟩, ⟨(some 50), none, (.nck (.t 49))⟩, ⟨(some 51), none, (.fa 0 (.t 50))⟩, ⟨(some 52), none, (.ld false 1 (.t 51))⟩, ⟨(some 53), none, (.mv (.t 10))⟩, ⟨(some 54), none, (.mv (.t 8))⟩, ⟨(some 55), none, (.call 51 [(.t 52), (.t 53), (.t 54)])⟩, ⟨(some 56), none, (.un .not (.t 55))⟩]) (.cond (.t 56) (.exit 1) .skip)) (.seq (.reg [⟨(some 12), none, (.mv (.c (.int .i64 0)))⟩]) (.seq (.seq (.reg [⟨(some 57), none, (.mv (.t 6))⟩, ⟨(some 58), none, (.nck (.t 57))⟩, ⟨(some 59), none, (.fa 0 (.t 58))⟩, ⟨(some 60), none, (.ld false 1 (.t 59))⟩, ⟨(some 61), none, (.nck (.t 60))⟩, ⟨(some 62), none, (.fa 0 (.t 61))⟩, ⟨(some 63), none, (.ld false 1 (.t 62))⟩, ⟨(some 64), none, (.len (.t 63))⟩, ⟨(some 65), none, (.mv (.c (.int .i64 0)))⟩]) (.blk 2 (.loop (.seq (.reg [⟨(some 66), none, (.bin .lss (.t 65) (.t 64))⟩]) (.seq (.cond (.t 66) .skip (.exit 2)) (.seq (.blk 3 (.seq (.reg [⟨(some 67), none, (.mv (.t 65))⟩, ⟨(some 13), none, (.mv (.t 67))⟩]) (.reg [⟨(some 68), none, (.mv (.t 12))⟩, ⟨(some 69), none, (.mv (.t 10))⟩, ⟨(some 70), none, (.mv (.t 13))⟩, ⟨(some 71), none, (.bin .shr (.t 69) (.t 70))⟩, ⟨(some 72), none, (.bin .and (.t 71) (.c (.int .i64 1)))⟩, ⟨(some 73), none, (.bin .add (.t 68) (.t 72))⟩, ⟨(some 12), none, (.mv (.t 73))⟩]))) (.reg [⟨(some 74), none, (.bin .add (.t 65) (.c (.int .i64 1)))⟩, ⟨(some 65), none, (.mv (.t 74))⟩]))))))) (.dreg [⟨(some 75), none, (.mv (.t 9))⟩, ⟨(some 76), none, (.mv (.t 12))⟩, ⟨(some 77), none, (.ia 1 (.t 75) (.t 76))⟩, ⟨(some 78), none, (.ld false 1 (.t 77))⟩, ⟨(some 79), none, (.mv (.t 11))⟩, ⟨(some 80), none, (.mv (.t 6))⟩, ⟨(some 81), none, (.nck (.t 80))⟩, ⟨(some 82), none, (.fa 2 (.t 81))⟩, ⟨(some 83), none, (.ld false 1 (.t 82))⟩, ⟨(some 84), none, (.mv (.t 10))⟩, ⟨(some 85), none, (.mv (.t 8))⟩, ⟨(some 86), none, (.bin .shl (.c (.int .i64 1)) (.t 85))⟩, ⟨(some 87), none, (.bin .or (.t 84) (.t 86))⟩, ⟨(some 88), none, (.ia 1 (.t 83) (.t 87))⟩, ⟨(some 89), none, (.ld false 1 (.t 88))⟩, ⟨(some 90), none, (.bin .mul (.t 79) (.t 89))⟩, ⟨(some 91), none, (.bin .add (.t 78) (.t 90))⟩, ⟨(some 92), none, (.ia 1 (.t 75) (.t 76))⟩, ⟨none, none, (.st 1 (.t 92) (.t 91))⟩] [[], [], [0, 1], [0, 1, 2], [], [], [5], [5, 6], [5, 6, 7], [], [], [10], [9, 10, 11], [5, 6, 7, 8, 9, 10, 11, 12], [5, 6, 7, 8, 9, 10, 11, 12, 13], [4, 5, 6, 7, 8, 9, 10, 11, 12, 13, 14], [0, 1, 2, 3, 4, 5, 6, 7, 8, 9, 10, 11, 12, 13, 14, 15], [0, 1, 2, 3, 4, 5, 6, 7, 8, 9, 10, 11, 12, 13, 14, 15, 16], [0, 1, 2, 3, 4, 5, 6, 7, 8, 9, 10, 11, 12, 13, 14, 15, 16, 17]])))))) (.reg [⟨(some 93), none, (.bin .add (.t 44) (.c (.int .i64 1)))⟩, ⟨(some 44), none, (.mv (.t 93))⟩]))))))) (.seq (.reg [⟨(some 94), none, (.mv (.t 9))⟩, ⟨(some 4), none, (.mv (.t 94))⟩, ⟨(some 5), none, (.mv (.c (.bool true)))⟩]) .ret)))))))
def ro30 : List AOp := [(.mv (.t 4)), (.mv (.t 5))]
theorem fun30 : Fun Try.prog 30 95 ac30 ro30 := ⟨Try.f30, _, Try.func30, by kernel_rfl, rfl, rfl, by kernel_rfl, by kernel_rfl, by decide⟩
def ac58 : AC := (.seq (.reg [⟨(some 2), none, (.box 2 true (.t 0))⟩, ⟨(some 4), none, (.mv (.c .nilS))⟩]) (.seq (.reg [⟨(some 14), none, (.ld true 2 (.t 2))⟩, ⟨(some 15), none, (.call 42 [(.t 14)])⟩, ⟨(some 5), none, (.mv (.t 15))⟩]) (.seq (.reg [⟨(some 16), none, (.mv (.t 5))⟩, ⟨(some 17), none, (.len (.t 16))⟩, ⟨(some 6), none, (.mv (.t 17))⟩]) (.seq (.reg [⟨(some 18), none, (.mv (.t 5))⟩, ⟨(some 19), none, (.call 41 [(.t 18)])⟩, ⟨(some 7), none, (.mv (.t 19))⟩]) (.seq (.reg [⟨(some 20), none, (.mv (.t 6))⟩, ⟨(some 21), none, (.mks 1 8 [(.int .i64 0)] (.t 20) (.t 20))⟩, ⟨(some 8), none, (.mv (.t 21))⟩]) (.seq (.reg [⟨(some 22), none, (.mv (.t 6))⟩, ⟨(some 23), none, (.cv .u64 (.t 22))⟩, ⟨(some 24), none, (.bin .shl (.c (.int .i64 1)) (.t 23))⟩, ⟨(some 25), none, (.mks 1 8 [(.int .i64 0)] (.t 24) (.t 24))⟩, ⟨(some 9), none, (.mv (.t 25))⟩]) (.seq (.reg [⟨(some 26), none, (.mv (.t 9))⟩, ⟨(some 27), none, (.ia 1 (.t 26) (.c (.int .i64 0)))⟩, ⟨none, none, (.st 1 (.t 27) (.c (.int .i64 1)))⟩]) (.seq (.seq (.reg [⟨(some 10), none, (.mv (.c (.int .i64 0)))⟩]) (.blk 0 (.loop (.seq (.seq (.reg [⟨(some 28), none, (.mv (.t 10))⟩, ⟨(some 29), none, (.mv (.t 9))⟩, ⟨(some 30), none, (.len (.t 29))⟩, ⟨(some 31), none, (.bin .lss (.t 28) (.t 30))⟩]) (.cond (.t 31) .skip (.exit 0))) (.seq (.blk 1 (.seq (.reg [⟨(some 11), none, (.mv (.c (.int .i64 0)))⟩]) (.seq (.seq (.reg [⟨(some 12), none, (.mv (.c (.int .i64 0)))⟩]) (.blk 2 (.loop (.seq (.seq (.reg [⟨(some 34), none, (.mv (.t 12))⟩, ⟨(some 35), none, (.mv (.t 6))⟩, ⟨(some 36), none, (.bin .lss (.t 34) (.t 35))⟩]) (.cond (.t 36) .skip (.exit 2))) (.seq (.blk 3 (.seq (.reg [⟨(some 39), none, (.mv (.t 10))⟩, ⟨(some 40), none, (.mv (.t 12))⟩, ⟨(some 41), none, (.call 49 [(.t 39), (.t 40)])⟩]) (.cond (.t 41) (.reg [⟨(some 42), none, (.mv (.t 11))⟩, ⟨(some 43), none, (.bin .add (.t 42) (.c (.int .i64 1)))⟩, ⟨(some 11), none, (.mv (.t 43))⟩]) .skip))) (.reg [⟨(some 37), none, (.mv (.t 12))⟩, ⟨(some 38), none, (.bin .add (.t 37) (.c (.int .i64 1)))⟩, ⟨(some 12), none, (.mv (.t 38))⟩])))))) (.seq (.reg [⟨(some 13), none, (.mv (.c (.int .i64 0)))⟩]) (.blk 4 (.loop (.seq (.seq (.reg [⟨(some 44), none, (.mv (.t 13))⟩, ⟨(some 45), none, (.mv (.t 6))⟩, ⟨(some 46), none, (.bin .lss (.t 44) (.t 45))⟩, ⟨(some 47), none, (.mv (.t 46))⟩, ⟨(some 48), (some (47, true)), (.mv (.t 9))⟩, ⟨(some 49), (some (47, true)), (.mv (.t 10))⟩, ⟨(some 50), (some (47, true)), (.ia 1 (.t 48) (.t 49))⟩, ⟨(some 51), (some (47, true)), (.ld false 1 (.t 50))⟩, ⟨(some 52), (some (47, true)), (.bin .gtr (.t 51) (.c (.int .i64 0)))⟩, ⟨(some 53), none, (.pick (.t 47) (.t 52) (.c (.bool false)))⟩]) (.cond (.t 53) .skip (.exit 4))) (.seq (.blk 5 (.seq (.seq (.reg [⟨(some 56), none, (.mv (.t 5))⟩, ⟨(some 57), none, (.mv (.t 10))⟩, ⟨(some 58), none, (.mv (.t 13))⟩, ⟨(some 59), none, (.call 56 [(.t 56), (.t 57), (.t 58)])⟩, ⟨(some 60), none, (.un .not (.t 59))⟩]) (.cond (.t 60) (.exit 5) .skip)) (.seq (.dreg [⟨(some 61), none, (.mv (.t 9))⟩, ⟨(some 62), none, (.mv (.t 10))⟩, ⟨(some 63), none, (.mv (.t 13))⟩, ⟨(some 64), none, (.cv .u64 (.t 63))⟩, ⟨(some 65), none, (.bin .shl (.c (.int .i64 1)) (.t 64))⟩, ⟨(some 66), none, (.bin .or (.t 62) (.t 65))⟩, ⟨(some 67), none, (.mv (.t 9))⟩, ⟨(some 68), none, (.mv (.t 10))⟩, ⟨(some 69), none, (.mv (.t 13))⟩, ⟨(some 70), none, (.cv .u64 (.t 69))⟩, ⟨(some 71), none, (.bin .shl (.c (.int .i64 1)) (.t 70))⟩, ⟨(some 72), none, (.bin .or (.t 68) (.t 71))⟩, ⟨(some 73), none, (.ia 1 (.t 67) (.t 72))⟩, ⟨(some 74), none, (.ld false 1 (.t 73))⟩, ⟨(some 75), none, (.mv (.t 9))⟩, ⟨(some 76), none, (.mv (.t 10))⟩, ⟨(some 77), none, (.ia 1 (.t 75) (.t 76))⟩, ⟨(some 78), none, (.ld false 1 (.t 77))⟩, ⟨(some 79), none, (.bin .add (.t 74) (.t 78))⟩, ⟨(some 80), none, (.ia 1 (.t 61) (.t 66))⟩, ⟨none, none, (.st 1 (.t 80) (.t 79))⟩] [[], [], [], [2], [2, 3], [1, 2, 3, 4], [], [], [], [8], [8, 9], [7, 8, 9, 10], [6, 7, 8, 9, 10, 11], [6, 7, 8, 9, 10, 11, 12], [], [], [14, 15], [14, 15, 16], [6, 7, 8, 9, 10, 11, 12, 13, 14, 15, 16, 17], [0, 1, 2, 3, 4, 5, 6, 7, 8, 9, 10, 11, 12, 13, 14, 15, 16, 17, 18], [0, 1, 2, 3, 4, 5, 6, 7, 8, 9, 10, 11, 12, 13, 14, 15, 16, 17, 18, 19]]) (.seq (.reg [⟨(some 81), none, (.mv (.t 13))⟩, ⟨(some 82), none, (.mv (.t 1))⟩, ⟨(some 83), none, (.bin .eql (.t 81) (.t 82))⟩]) (.cond (.t 83) (.dreg [⟨(some 84), none, (.mv (.t 8))⟩, ⟨(some 85), none, (.mv (.t 11))⟩, ⟨(some 86), none, (.mv (.t 8))⟩, ⟨(some 87), none, (.mv (.t 11))⟩, ⟨(some 88), none, (.ia 1 (.t 86) (.t 87))⟩, ⟨(some 89), none, (.ld false 1 (.t 88))⟩, ⟨(some 90), none, (.mv (.t 9))⟩, ⟨(some 91), none, (.mv (.t 10))⟩, ⟨(some 92), none, (.ia 1 (.t 90) (.t 91))⟩, ⟨(some 93), none, (.ld false 1 (.t 92))⟩, ⟨(some 94), none, (.mv (.t 7))⟩, ⟨(some 95), none, (.mv (.t 10))⟩, ⟨(some 96), none, (.mv (.t 13))⟩, ⟨(some 97), none, (.cv .u64 (.t 96))⟩, ⟨(some 98), none, (.bin .shl (.c (.int .i64 1)) (.t 97))⟩, ⟨(some 99), none, (.bin .or (.t 95) (.t 98))⟩, ⟨(some 100), none, (.ia 1 (.t 94) (.t 99))⟩, ⟨(some 101), none, (.ld false 1 (.t 100))⟩, ⟨(some 102), none, (.bin .mul (.t 93) (.t 101))⟩, ⟨(some 103), none, (.bin .add (.t 89) (.t 102))⟩, ⟨(some 104), none, (.ia 1 (.t 84) (.t 85))⟩, ⟨none, none, (.st 1 (.t 104) (.t 103))⟩] [[], [], [], [], [2, 3], [2, 3, 4], [], [], [6, 7], [6, 7, 8], [], [], [], [12], [12, 13], [11, 12, 13, 14], [10, 11, 12, 13, 14, 15], [10, 11, 12, 13, 14, 15, 16], [6, 7, 8, 9, 10, 11, 12, 13, 14, 15, 16, 17], [2, 3, 4, 5, 6, 7, 8, 9, 10, 11, 12, 13, 14, 15, 16, 17, 18], [0, 1, 2, 3, 4, 5, 6, 7, 8, 9, 10, 11, 12, 13, 14, 15, 16, 17, 18, 19], [0, 1, 2, 3, 4, 5, 6, 7, 8, 9, 10, 11, 12, 13, 14, 15, 16, 17, 18, 19, 20]]) .skip))))) (.reg [⟨(some 54), none, (.mv (.t 13))⟩, ⟨(some 55), none, (.bin .add (.t 54) (.c (.int .i64 1)))⟩, ⟨(some 13), none, (.mv (.t 55))⟩]))))))))) (.reg [⟨(some 32), none, (.mv (.t 10))⟩, ⟨(some 33), none, (.bin .add (.t 32) (.c (.int .i64 1)))⟩, ⟨(some 10), none, (.mv (.t 33))⟩])))))) (.seq (.reg [⟨(some 105), none, (.mv (.t 8))⟩, ⟨(some 4), none, (.mv (.t 105))⟩]) .ret)))))))))
def ro58 : List AOp := [(.mv (.t 4))]
theorem fun58 : Fun Try.prog 58 106 ac58 ro58 := ⟨Try.f58, _, Try.func58, by kernel_rfl, rfl, rfl, by kernel_rfl, by kernel_rfl, by decide⟩

def plcL (n : Nat) (W : Nat → Nat → Bool) (i m : Nat) : List Int := (List.range n).map fun q => ((plc n W i q m : Nat) : Int)
theorem plcL_len (n : Nat) (W : Nat → Nat → Bool) (i m : Nat) : (plcL n W i m).length = n := by simp [plcL]
theorem plcL_get {n i m q : Nat} {W : Nat → Nat → Bool} (h : q < n) : ((plcL n W i m).map iRow)[q]? = some (iRow ((plc n W i q m : Nat) : Int)) := by
  rw [plcL, List.map_map]; exact get_range h
theorem plcL_0 (n : Nat) (W : Nat → Nat → Bool) (i : Nat) : List.replicate n [AV.int .i64 0] = (plcL n W i 0).map iRow := by
  refine List.ext_getElem (by simp [plcL]) fun S h1 h2 => ?_
  simp only [List.getElem_replicate, plcL, List.getElem_map, List.getElem_range]
  rfl
theorem plcL_no {n i s : Nat} {W : Nat → Nat → Bool} (h : ¬ rdy n W s i ∨ bef n W s = 0) : plcL n W i (s + 1) = plcL n W i s := by
  refine List.map_congr_left fun q _ => ?_
  show ((plc n W i q s + addP n W i q s : Nat) : Int) = _
  have : addP n W i q s = 0 := by
    unfold addP
    split
    · rename_i hc
      rcases h with h | h
      · exact absurd hc.1 h
      · rw [h, Nat.zero_mul]
    · rfl
  rw [this]; rfl
theorem plcL_yes {n i s : Nat} {W : Nat → Nat → Bool} (h : rdy n W s i) : ((plcL n W i s).map iRow).set (pcB s n) (iRow (((plc n W i (pcB s n) s + bef n W s * cnt n W (s ||| 2 ^ i) : Nat)) : Int)) = (plcL n W i (s + 1)).map iRow := by
  rw [← List.map_set]
  congr 1
  refine set_range (v := (((plc n W i (pcB s n) s + bef n W s * cnt n W (s ||| 2 ^ i) : Nat)) : Int)) ?_ (fun q hq => ?_)
  · show ((plc n W i (pcB s n) s + addP n W i (pcB s n) s : Nat) : Int) = _
    rw [addP, if_pos ⟨h, rfl⟩]
  · show ((plc n W i q s + addP n W i q s : Nat) : Int) = _
    rw [addP, if_neg (fun hc => hq hc.2.symm)]; rfl
theorem bfL_z {n s : Nat} {W : Nat → Nat → Bool} (h : bef n W s = 0) : ∀ i, bfL n W s i = bfL n W s 0
  | 0 => rfl
  | i + 1 => by
    rw [bfL_no (fun hc => ?_), bfL_z h i]
    rw [rwB_le (Nat.le_refl _)] at hc
    have : tbB n W s s = bef n W s := rfl
    omega
theorem rw_bef {n s i : Nat} {W : Nat → Nat → Bool} : rwB n W s i (tbB n W s) s = bef n W s := rwB_le (Nat.le_refl _) i
theorem pc_lt {n i s : Nat} {W : Nat → Nat → Bool} (hi : i < n) (hs : s < 2 ^ n) (h : rdy n W s i) : pcB s n < n := by
  refine pcB_lt hs fun e => ?_
  have := h.1
  rw [e, Nat.testBit_two_pow_sub_one] at this
  simp [hi] at this
theorem bitN (s k : Nat) : (s >>> k) &&& 1 = if s.testBit k = true then 1 else 0 := by
  rw [Nat.testBit_eq_decide_div_mod_eq, Nat.and_one_is_mod, Nat.shiftRight_eq_div_pow]
  split
  · rename_i h; simpa using h
  · rename_i h
    have h2 : ¬ s / 2 ^ k % 2 = 1 := by simpa using h
    omega
theorem con58 (a b : Bool) (r : Rc) (i : Nat) (hG : GoodR r) (hi : i < r.cs.length) : Con Try.prog 58 true [.agg (rRow a b r), .int .i64 (i : Int)] (.sl 0 1 0 r.cs.length) [(plcL r.cs.length (later r) i (2 ^ r.cs.length)).map iRow] := by
  refine con_of_wp mixed fun58 (by simp) [3] (plain_map iRow_plain _) ?_
  unfold ac58 ro58
  simp only [zipT]
  have h10 := hG.1
  have c3 := con42 a b r hG
  have c4 := con41 true (later r) h10
  have e0 : ∀ n : Nat, 0 + ((n : Int)).toNat = n := fun n => by simp
  obtain ⟨p, hp⟩ : ∃ p, 2 ^ r.cs.length = p := ⟨_, rfl⟩
  have hp0 : 0 < p := by rw [← hp]; exact Nat.pow_pos (by decide)
  have hp1 : p ≤ 1024 := by rw [← hp]; exact Nat.pow_le_pow_right (by decide) h10
  have hb0 := bfL_0 r.cs.length (later r)
  have hr0 : (List.replicate p [AV.int .i64 0])[0]? = some [AV.int .i64 0] := by rw [List.getElem?_replicate, if_pos (by omega)]
  rw [hp] at hb0 c4 ⊢
  repeat (first | refine wG_call1 c3 rfl rfl ?_ | refine wG_call1 c4 (ag_sl rfl rfl (maskL_len _ _).symm iRow_plain ag_nil) rfl ?_ | refine wG_new (o_mks rfl rfl (by omega) (by decide)) ?_ | refine wG_pure (o_cvu rfl (by omega)) ?_ | refine wG_pure (o_shl1 rfl rfl (by omega)) ?_ | (first
    | refine wC_a rfl ?_
    | refine q_s rfl ?_
    | refine q_b rfl ?_
    | refine wG_nil ?_
    | refine wG_g rfl ?_
    | refine wG_pure (o_len_vwm rfl) ?_
    | refine wG_pure (o_not_d rfl) ?_
    | refine wG_p rfl (by first | exact rfl | omega) ?_
    | refine wG_pure (o_str2 rfl rfl rfl) ?_
    | refine wG_pure (e_istr rfl rfl (by omega)) ?_
    | refine wG_pure (e_istr0 rfl rfl (by omega)) ?_
    | refine wG_pure (o_not rfl) ?_
    | refine wG_pure (e_ia_vw0 rfl rfl (by omega) rfl) ?_
    | refine wG_pure (e_ia_vwp rfl rfl (by omega) rfl) ?_
    | refine wG_pure (e_ia_vwm rfl rfl (by omega) (by omega) rfl) ?_
    | refine wG_pure (e_ia_vwi rfl rfl (by omega) rfl) ?_
    | refine wG_pure (e_ia_vwn rfl rfl (by omega) (by omega) rfl) ?_
    | refine wG_n rfl rfl ?_
    | refine wG_u rfl rfl ?_
    | refine wG_new (o_mks rfl rfl (by omega) (by decide)) ?_))
  rw [hp]
  repeat (first | refine wG_new (o_mks rfl rfl (by omega) (by decide)) ?_ | refine wG_pure (e_ia_sl (n := 0) rfl rfl (by decide) (by omega)) ?_ | refine wG_upd (o_st1 rfl hg_here hr0 rfl rfl hb0) ?_ | (first
    | refine wC_a rfl ?_
    | refine q_s rfl ?_
    | refine q_b rfl ?_
    | refine wG_nil ?_
    | refine wG_g rfl ?_
    | refine wG_pure (o_len_vwm rfl) ?_
    | refine wG_pure (o_not_d rfl) ?_
    | refine wG_p rfl (by first | exact rfl | omega) ?_
    | refine wG_pure (o_str2 rfl rfl rfl) ?_
    | refine wG_pure (e_istr rfl rfl (by omega)) ?_
    | refine wG_pure (e_istr0 rfl rfl (by omega)) ?_
    | refine wG_pure (o_not rfl) ?_
    | refine wG_pure (e_ia_vw0 rfl rfl (by omega) rfl) ?_
    | refine wG_pure (e_ia_vwp rfl rfl (by omega) rfl) ?_
    | refine wG_pure (e_ia_vwm rfl rfl (by omega) (by omega) rfl) ?_
    | refine wG_pure (e_ia_vwi rfl rfl (by omega) rfl) ?_
    | refine wG_pure (e_ia_vwn rfl rfl (by omega) (by omega) rfl) ?_
    | refine wG_n rfl rfl ?_
    | refine wG_u rfl rfl ?_
    | refine wG_new (o_mks rfl rfl (by omega) (by decide)) ?_))
  clear c3 hG
  generalize later r = W at *
  generalize r.cs.length = n at *
  have hgB : ∀ s i S, S < p → ((bfL n W s i).map iRow)[S]? = some (iRow ((rwB n W s i (tbB n W s) S : Nat) : Int)) := fun s i S h => bfL_get (by omega)
  have hgC : ∀ S, S < p → ((cntL n W).map iRow)[S]? = some (iRow ((cnt n W S : Nat) : Int)) := fun S h => cntL_get (by omega)
  refine wC_loop Nat (fun s => ⟨[(1, .int .i64 (i : Int)), (5, .sl 1 1 0 n), (6, .int .i64 (n : Int)), (7, .sl 2 1 0 p), (8, .sl 3 1 0 n), (9, .sl 4 1 0 p), (10, .int .i64 (s : Int))], [(4, some ((bfL n W s 0).map iRow)), (3, some ((plcL n W i s).map iRow)), (2, some ((cntL n W).map iRow)), (1, some ((maskL W n).map iRow))], 5⟩) (fun s => s ≤ p) (fun s => p - s) 0 (Nat.zero_le _) ?_ (fun _ _ => Nat.zero_le _) ?_
  · refine ⟨⟨⟨rfl, rfl⟩, ⟨rfl, rfl⟩, ⟨rfl, rfl⟩, ⟨rfl, rfl⟩, ⟨rfl, rfl⟩, ⟨rfl, rfl⟩, ⟨rfl, rfl⟩, trivial⟩, ⟨rfl, by show 4 < 5; decide, ltrI _ _⟩, ⟨?_, by show 3 < 5; decide, ltrI _ _⟩, ⟨rfl, by show 2 < 5; decide, ltrI _ _⟩, ⟨rfl, by show 1 < 5; decide, ltrI _ _⟩, trivial⟩
    exact congrArg some (plcL_0 n W i)
  intro s hs
  repeat (first
    | refine wC_a rfl ?_
    | refine q_s rfl ?_
    | refine q_b rfl ?_
    | refine wG_nil ?_
    | refine wG_g rfl ?_
    | refine wG_pure (o_len_vwm rfl) ?_
    | refine wG_pure (o_not_d rfl) ?_
    | refine wG_p rfl (by first | exact rfl | omega) ?_
    | refine wG_pure (o_str2 rfl rfl rfl) ?_
    | refine wG_pure (e_istr rfl rfl (by omega)) ?_
    | refine wG_pure (e_istr0 rfl rfl (by omega)) ?_
    | refine wG_pure (o_not rfl) ?_
    | refine wG_pure (e_ia_vw0 rfl rfl (by omega) rfl) ?_
    | refine wG_pure (e_ia_vwp rfl rfl (by omega) rfl) ?_
    | refine wG_pure (e_ia_vwm rfl rfl (by omega) (by omega) rfl) ?_
    | refine wG_pure (e_ia_vwi rfl rfl (by omega) rfl) ?_
    | refine wG_pure (e_ia_vwn rfl rfl (by omega) (by omega) rfl) ?_
    | refine wG_n rfl rfl ?_
    | refine wG_u rfl rfl ?_
    | refine wG_new (o_mks rfl rfl (by omega) (by decide)) ?_)
  refine wC_cond_d rfl (fun h4 => ?_) (fun h4 => ?_)
  · have hs2 : s < p := by omega
    have hs3 : s < 2 ^ n := by omega
    repeat (first
    | refine wC_a rfl ?_
    | refine q_s rfl ?_
    | refine q_b rfl ?_
    | refine wG_nil ?_
    | refine wG_g rfl ?_
    | refine wG_pure (o_len_vwm rfl) ?_
    | refine wG_pure (o_not_d rfl) ?_
    | refine wG_p rfl (by first | exact rfl | omega) ?_
    | refine wG_pure (o_str2 rfl rfl rfl) ?_
    | refine wG_pure (e_istr rfl rfl (by omega)) ?_
    | refine wG_pure (e_istr0 rfl rfl (by omega)) ?_
    | refine wG_pure (o_not rfl) ?_
    | refine wG_pure (e_ia_vw0 rfl rfl (by omega) rfl) ?_
    | refine wG_pure (e_ia_vwp rfl rfl (by omega) rfl) ?_
    | refine wG_pure (e_ia_vwm rfl rfl (by omega) (by omega) rfl) ?_
    | refine wG_pure (e_ia_vwi rfl rfl (by omega) rfl) ?_
    | refine wG_pure (e_ia_vwn rfl rfl (by omega) (by omega) rfl) ?_
    | refine wG_n rfl rfl ?_
    | refine wG_u rfl rfl ?_
    | refine wG_new (o_mks rfl rfl (by omega) (by decide)) ?_)
    refine wC_loop Nat (fun k => ⟨[(1, .int .i64 (i : Int)), (5, .sl 1 1 0 n), (6, .int .i64 (n : Int)), (7, .sl 2 1 0 p), (8, .sl 3 1 0 n), (9, .sl 4 1 0 p), (10, .int .i64 (s : Int)), (11, .int .i64 ((pcB s k : Nat) : Int)), (12, .int .i64 (k : Int))], [(4, some ((bfL n W s 0).map iRow)), (3, some ((plcL n W i s).map iRow)), (2, some ((cntL n W).map iRow)), (1, some ((maskL W n).map iRow))], 5⟩) (fun k => k ≤ n) (fun k => n - k) 0 (Nat.zero_le _) ?_ (fun _ _ => Nat.zero_le _) ?_
    · exact ⟨⟨⟨rfl, rfl⟩, ⟨rfl, rfl⟩, ⟨rfl, rfl⟩, ⟨rfl, rfl⟩, ⟨rfl, rfl⟩, ⟨rfl, rfl⟩, ⟨rfl, rfl⟩, ⟨rfl, rfl⟩, ⟨rfl, rfl⟩, trivial⟩, ⟨rfl, by show 4 < 5; decide, ltrI _ _⟩, ⟨rfl, by show 3 < 5; decide, ltrI _ _⟩, ⟨rfl, by show 2 < 5; decide, ltrI _ _⟩, ⟨rfl, by show 1 < 5; decide, ltrI _ _⟩, trivial⟩
    intro k hk
    have hpk := pcB_le s k
    repeat (first
    | refine wC_a rfl ?_
    | refine q_s rfl ?_
    | refine q_b rfl ?_
    | refine wG_nil ?_
    | refine wG_g rfl ?_
    | refine wG_pure (o_len_vwm rfl) ?_
    | refine wG_pure (o_not_d rfl) ?_
    | refine wG_p rfl (by first | exact rfl | omega) ?_
    | refine wG_pure (o_str2 rfl rfl rfl) ?_
    | refine wG_pure (e_istr rfl rfl (by omega)) ?_
    | refine wG_pure (e_istr0 rfl rfl (by omega)) ?_
    | refine wG_pure (o_not rfl) ?_
    | refine wG_pure (e_ia_vw0 rfl rfl (by omega) rfl) ?_
    | refine wG_pure (e_ia_vwp rfl rfl (by omega) rfl) ?_
    | refine wG_pure (e_ia_vwm rfl rfl (by omega) (by omega) rfl) ?_
    | refine wG_pure (e_ia_vwi rfl rfl (by omega) rfl) ?_
    | refine wG_pure (e_ia_vwn rfl rfl (by omega) (by omega) rfl) ?_
    | refine wG_n rfl rfl ?_
    | refine wG_u rfl rfl ?_
    | refine wG_new (o_mks rfl rfl (by omega) (by decide)) ?_)
    refine wC_cond_d rfl (fun h5 => ?_) (fun h5 => ?_)
    · have hk2 : k < n := by omega
      have cb := con49 s k (by omega) (by omega)
      have hup : pcB s (k + 1) = pcB s k + (if s.testBit k = true then 1 else 0) := rfl
      cases hb : s.testBit k
      all_goals (rw [hb] at cb hup)
      all_goals (repeat (first | refine wG_call cb rfl rfl ?_ | (first
    | refine wC_a rfl ?_
    | refine q_s rfl ?_
    | refine q_b rfl ?_
    | refine wG_nil ?_
    | refine wG_g rfl ?_
    | refine wG_pure (o_len_vwm rfl) ?_
    | refine wG_pure (o_not_d rfl) ?_
    | refine wG_p rfl (by first | exact rfl | omega) ?_
    | refine wG_pure (o_str2 rfl rfl rfl) ?_
    | refine wG_pure (e_istr rfl rfl (by omega)) ?_
    | refine wG_pure (e_istr0 rfl rfl (by omega)) ?_
    | refine wG_pure (o_not rfl) ?_
    | refine wG_pure (e_ia_vw0 rfl rfl (by omega) rfl) ?_
    | refine wG_pure (e_ia_vwp rfl rfl (by omega) rfl) ?_
    | refine wG_pure (e_ia_vwm rfl rfl (by omega) (by omega) rfl) ?_
    | refine wG_pure (e_ia_vwi rfl rfl (by omega) rfl) ?_
    | refine wG_pure (e_ia_vwn rfl rfl (by omega) (by omega) rfl) ?_
    | refine wG_n rfl rfl ?_
    | refine wG_u rfl rfl ?_
    | refine wG_new (o_mks rfl rfl (by omega) (by decide)) ?_)))
      all_goals (
        refine ⟨k + 1, hk2, by omega, ⟨⟨rfl, rfl⟩, ⟨rfl, rfl⟩, ⟨rfl, rfl⟩, ⟨rfl, rfl⟩, ⟨rfl, rfl⟩, ⟨rfl, rfl⟩, ⟨rfl, rfl⟩, ⟨?_, rfl⟩, ⟨rfl, rfl⟩, trivial⟩, ⟨rfl, by show 4 < 5; decide, ltrI _ _⟩, ⟨rfl, by show 3 < 5; decide, ltrI _ _⟩, ⟨rfl, by show 2 < 5; decide, ltrI _ _⟩, ⟨rfl, by show 1 < 5; decide, ltrI _ _⟩, trivial⟩
        rw [hup]; rfl)
    · have hk3 : k = n := by omega
      subst hk3
      have hbef : bef k W s ≤ 10000000000 := bef_le h10 hs3
      repeat (first
    | refine wC_a rfl ?_
    | refine q_s rfl ?_
    | refine q_b rfl ?_
    | refine wG_nil ?_
    | refine wG_g rfl ?_
    | refine wG_pure (o_len_vwm rfl) ?_
    | refine wG_pure (o_not_d rfl) ?_
    | refine wG_p rfl (by first | exact rfl | omega) ?_
    | refine wG_pure (o_str2 rfl rfl rfl) ?_
    | refine wG_pure (e_istr rfl rfl (by omega)) ?_
    | refine wG_pure (e_istr0 rfl rfl (by omega)) ?_
    | refine wG_pure (o_not rfl) ?_
    | refine wG_pure (e_ia_vw0 rfl rfl (by omega) rfl) ?_
    | refine wG_pure (e_ia_vwp rfl rfl (by omega) rfl) ?_
    | refine wG_pure (e_ia_vwm rfl rfl (by omega) (by omega) rfl) ?_
    | refine wG_pure (e_ia_vwi rfl rfl (by omega) rfl) ?_
    | refine wG_pure (e_ia_vwn rfl rfl (by omega) (by omega) rfl) ?_
    | refine wG_n rfl rfl ?_
    | refine wG_u rfl rfl ?_
    | refine wG_new (o_mks rfl rfl (by omega) (by decide)) ?_)
      refine wC_loop Nat (fun j => ⟨[(1, .int .i64 (i : Int)), (5, .sl 1 1 0 k), (6, .int .i64 (k : Int)), (7, .sl 2 1 0 p), (8, .sl 3 1 0 k), (9, .sl 4 1 0 p), (10, .int .i64 (s : Int)), (11, .int .i64 ((pcB s k : Nat) : Int)), (13, .int .i64 (j : Int))], [(4, some ((bfL k W s j).map iRow)), (3, some ((plcL k W i (if i < j then s + 1 else s)).map iRow)), (2, some ((cntL k W).map iRow)), (1, some ((maskL W k).map iRow))], 5⟩) (fun j => j ≤ k) (fun j => k - j) 0 (Nat.zero_le _) ?_ (fun _ _ => Nat.zero_le _) ?_
      · exact ⟨⟨⟨rfl, rfl⟩, ⟨rfl, rfl⟩, ⟨rfl, rfl⟩, ⟨rfl, rfl⟩, ⟨rfl, rfl⟩, ⟨rfl, rfl⟩, ⟨rfl, rfl⟩, ⟨rfl, rfl⟩, ⟨rfl, rfl⟩, trivial⟩, ⟨rfl, by show 4 < 5; decide, ltrI _ _⟩, ⟨rfl, by show 3 < 5; decide, ltrI _ _⟩, ⟨rfl, by show 2 < 5; decide, ltrI _ _⟩, ⟨rfl, by show 1 < 5; decide, ltrI _ _⟩, trivial⟩
      intro j hj
      repeat (first
    | refine wC_a rfl ?_
    | refine q_s rfl ?_
    | refine q_b rfl ?_
    | refine wG_nil ?_
    | refine wG_g rfl ?_
    | refine wG_pure (o_len_vwm rfl) ?_
    | refine wG_pure (o_not_d rfl) ?_
    | refine wG_p rfl (by first | exact rfl | omega) ?_
    | refine wG_pure (o_str2 rfl rfl rfl) ?_
    | refine wG_pure (e_istr rfl rfl (by omega)) ?_
    | refine wG_pure (e_istr0 rfl rfl (by omega)) ?_
    | refine wG_pure (o_not rfl) ?_
    | refine wG_pure (e_ia_vw0 rfl rfl (by omega) rfl) ?_
    | refine wG_pure (e_ia_vwp rfl rfl (by omega) rfl) ?_
    | refine wG_pure (e_ia_vwm rfl rfl (by omega) (by omega) rfl) ?_
    | refine wG_pure (e_ia_vwi rfl rfl (by omega) rfl) ?_
    | refine wG_pure (e_ia_vwn rfl rfl (by omega) (by omega) rfl) ?_
    | refine wG_n rfl rfl ?_
    | refine wG_u rfl rfl ?_
    | refine wG_new (o_mks rfl rfl (by omega) (by decide)) ?_)
      by_cases hj2 : j < k
      · have hd : decide ((j : Int) < (k : Int)) = true := decide_eq_true (by omega)
        simp only [hd]
        have g1 := hgB s j s hs2
        rw [rw_bef] at g1
        repeat (first | (refine wG_pure (e_ia_sl rfl rfl (by omega) (by omega)) ?_; simp only [e0]) | refine wG_pure (o_ldf_pt rfl rfl g1 rfl) ?_ | (first
    | refine wC_a rfl ?_
    | refine q_s rfl ?_
    | refine q_b rfl ?_
    | refine wG_nil ?_
    | refine wG_g rfl ?_
    | refine wG_pure (o_len_vwm rfl) ?_
    | refine wG_pure (o_not_d rfl) ?_
    | refine wG_p rfl (by first | exact rfl | omega) ?_
    | refine wG_pure (o_str2 rfl rfl rfl) ?_
    | refine wG_pure (e_istr rfl rfl (by omega)) ?_
    | refine wG_pure (e_istr0 rfl rfl (by omega)) ?_
    | refine wG_pure (o_not rfl) ?_
    | refine wG_pure (e_ia_vw0 rfl rfl (by omega) rfl) ?_
    | refine wG_pure (e_ia_vwp rfl rfl (by omega) rfl) ?_
    | refine wG_pure (e_ia_vwm rfl rfl (by omega) (by omega) rfl) ?_
    | refine wG_pure (e_ia_vwi rfl rfl (by omega) rfl) ?_
    | refine wG_pure (e_ia_vwn rfl rfl (by omega) (by omega) rfl) ?_
    | refine wG_n rfl rfl ?_
    | refine wG_u rfl rfl ?_
    | refine wG_new (o_mks rfl rfl (by omega) (by decide)) ?_))
        by_cases hz : bef k W s = 0
        · have hd2 : decide (((bef k W s : Nat) : Int) > 0) = false := decide_eq_false (by omega)
          simp only [hd2]
          repeat (first
    | refine wC_a rfl ?_
    | refine q_s rfl ?_
    | refine q_b rfl ?_
    | refine wG_nil ?_
    | refine wG_g rfl ?_
    | refine wG_pure (o_len_vwm rfl) ?_
    | refine wG_pure (o_not_d rfl) ?_
    | refine wG_p rfl (by first | exact rfl | omega) ?_
    | refine wG_pure (o_str2 rfl rfl rfl) ?_
    | refine wG_pure (e_istr rfl rfl (by omega)) ?_
    | refine wG_pure (e_istr0 rfl rfl (by omega)) ?_
    | refine wG_pure (o_not rfl) ?_
    | refine wG_pure (e_ia_vw0 rfl rfl (by omega) rfl) ?_
    | refine wG_pure (e_ia_vwp rfl rfl (by omega) rfl) ?_
    | refine wG_pure (e_ia_vwm rfl rfl (by omega) (by omega) rfl) ?_
    | refine wG_pure (e_ia_vwi rfl rfl (by omega) rfl) ?_
    | refine wG_pure (e_ia_vwn rfl rfl (by omega) (by omega) rfl) ?_
    | refine wG_n rfl rfl ?_
    | refine wG_u rfl rfl ?_
    | refine wG_new (o_mks rfl rfl (by omega) (by decide)) ?_)
          have hb1 := bfL_z (W := W) hz j
          have hb2 := bfL_z (W := W) hz k
          have hq : plcL k W i (if i < j then s + 1 else s) = plcL k W i (s + 1) := by
            split
            · rfl
            · exact (plcL_no (.inr hz)).symm
          refine ⟨s + 1, hs2, by omega, ⟨⟨rfl, rfl⟩, ⟨rfl, rfl⟩, ⟨rfl, rfl⟩, ⟨rfl, rfl⟩, ⟨rfl, rfl⟩, ⟨rfl, rfl⟩, ⟨rfl, rfl⟩, trivial⟩, ⟨?_, by show 4 < 5; decide, ltrI _ _⟩, ⟨?_, by show 3 < 5; decide, ltrI _ _⟩, ⟨rfl, by show 2 < 5; decide, ltrI _ _⟩, ⟨rfl, by show 1 < 5; decide, ltrI _ _⟩, trivial⟩
          · rw [← bfL_n, hb2, ← hb1]; rfl
          · rw [← hq]; rfl
        · have hd2 : decide (((bef k W s : Nat) : Int) > 0) = true := decide_eq_true (by omega)
          simp only [hd2]
          have cR := con56 true W h10 (show s < 1024 by omega) hj2
          have hpj := p10 hj2 h10
          have hor : s ||| 2 ^ j < p := by rw [← hp]; exact or_lt hs3 hj2
          have g2 := hgB s j (s ||| 2 ^ j) hor
          have g3 := hgB s (j + 1) s hs2
          rw [rw_bef] at g3
          have g4 := hgC (s ||| 2 ^ j) hor
          have b2 := rwB_b (W := W) (s := s) (i := j) h10 (show s ||| 2 ^ j < 2 ^ k by omega) hs3 hj
          have bp := plc_le (W := W) (p := pcB s k) h10 hi s (by omega)
          by_cases hr : rdy k W s j
          · rw [decide_eq_true hr] at cR
            have hset := bfL_yes hr
            rw [rw_bef] at hset
            have hpc := pc_lt hj2 hs3 hr
            by_cases hji : j = i
            · subst hji
              have hd3 : decide ((j : Int) = (j : Int)) = true := decide_eq_true rfl
              have bpr := prod_b (W := W) h10 hs3 hr.1 hj2
              have gp := plcL_get (W := W) (i := j) (m := s) hpc
              have hset2 := plcL_yes hr
              have ei : (if j < j then s + 1 else s) = s := if_neg (Nat.lt_irrefl _)
              rw [ei]
              repeat (first | refine wG_call cR (ag_sl rfl rfl (maskL_len _ _).symm iRow_plain (ag_int rfl (ag_int rfl ag_nil))) rfl ?_ | (refine wE_v (e_ia_sl rfl rfl (by omega) (by omega)) rfl ?_; simp only [e0]) | refine wE_v (o_ldf_pt rfl rfl g1 rfl) rfl ?_ | refine wE_v (o_ldf_pt rfl rfl g2 rfl) rfl ?_ | refine wE_v (o_cvu rfl (by omega)) rfl ?_ | refine wE_v (o_shl1 rfl rfl (by omega)) rfl ?_ | refine wE_v (o_or rfl rfl (by omega) (by omega)) rfl ?_ | refine wE_upd (o_st1 rfl rfl g2 rfl rfl hset) rfl ?_ | (first
    | refine wC_a rfl ?_
    | refine q_s rfl ?_
    | refine q_b rfl ?_
    | refine wG_nil ?_
    | refine wG_g rfl ?_
    | refine wG_pure (o_len_vwm rfl) ?_
    | refine wG_pure (o_not_d rfl) ?_
    | refine wG_p rfl (by first | exact rfl | omega) ?_
    | refine wG_pure (o_str2 rfl rfl rfl) ?_
    | refine wG_pure (e_istr rfl rfl (by omega)) ?_
    | refine wG_pure (e_istr0 rfl rfl (by omega)) ?_
    | refine wG_pure (o_not rfl) ?_
    | refine wG_pure (e_ia_vw0 rfl rfl (by omega) rfl) ?_
    | refine wG_pure (e_ia_vwp rfl rfl (by omega) rfl) ?_
    | refine wG_pure (e_ia_vwm rfl rfl (by omega) (by omega) rfl) ?_
    | refine wG_pure (e_ia_vwi rfl rfl (by omega) rfl) ?_
    | refine wG_pure (e_ia_vwn rfl rfl (by omega) (by omega) rfl) ?_
    | refine wG_n rfl rfl ?_
    | refine wG_u rfl rfl ?_
    | refine wG_new (o_mks rfl rfl (by omega) (by decide)) ?_) | (first
    | refine wE_nil (by kernel_rfl) ?_
    | refine wE_gy rfl ?_
    | refine wE_gn rfl rfl rfl ?_
    | refine wE_gu rfl rfl ?_
    | refine wE_gnn rfl rfl rfl ?_
    | refine wE_v (o_len_vwm rfl) rfl ?_
    | refine wE_v (o_not_d rfl) rfl ?_
    | refine wE_p rfl (by first | exact rfl | omega) rfl ?_
    | refine wE_v (o_str2 rfl rfl rfl) rfl ?_
    | refine wE_v (e_istr rfl rfl (by omega)) rfl ?_
    | refine wE_v (e_istr0 rfl rfl (by omega)) rfl ?_
    | refine wE_v (o_not rfl) rfl ?_
    | refine wE_v (e_ia_vw0 rfl rfl (by omega) rfl) rfl ?_
    | refine wE_v (e_ia_vwp rfl rfl (by omega) rfl) rfl ?_
    | refine wE_v (e_ia_vwm rfl rfl (by omega) (by omega) rfl) rfl ?_
    | refine wE_v (e_ia_vwi rfl rfl (by omega) rfl) rfl ?_
    | refine wE_v (e_ia_vwn rfl rfl (by omega) (by omega) rfl) rfl ?_
    | refine wE_n rfl rfl rfl ?_
    | refine wE_u rfl rfl rfl ?_
    | refine wE_new (o_mks rfl rfl (by omega) (by decide)) rfl ?_))
              simp only [hd3]
              have e3 : ((bef k W s : Nat) : Int) * ((cnt k W (s ||| 2 ^ j) : Nat) : Int) = ((bef k W s * cnt k W (s ||| 2 ^ j) : Nat) : Int) := (Int.natCast_mul _ _).symm
              have ei2 : (if j < j + 1 then s + 1 else s) = s + 1 := if_pos (Nat.lt_succ_self _)
              repeat (first | (refine wE_v (e_ia_sl rfl rfl (by omega) (by omega)) rfl ?_; simp only [e0]) | refine wE_v (o_ldf_pt rfl rfl gp rfl) rfl ?_ | refine wE_v (o_ldf_pt rfl rfl g3 rfl) rfl ?_ | refine wE_v (o_ldf_pt rfl rfl g4 rfl) rfl ?_ | refine wE_v (o_cvu rfl (by omega)) rfl ?_ | refine wE_v (o_shl1 rfl rfl (by omega)) rfl ?_ | refine wE_v (o_or rfl rfl (by omega) (by omega)) rfl ?_ | refine wE_p rfl (by rw [e3]; omega) rfl ?_ | refine wE_upd (o_st1 rfl rfl gp rfl rfl hset2) rfl ?_ | (first
    | refine wC_a rfl ?_
    | refine q_s rfl ?_
    | refine q_b rfl ?_
    | refine wG_nil ?_
    | refine wG_g rfl ?_
    | refine wG_pure (o_len_vwm rfl) ?_
    | refine wG_pure (o_not_d rfl) ?_
    | refine wG_p rfl (by first | exact rfl | omega) ?_
    | refine wG_pure (o_str2 rfl rfl rfl) ?_
    | refine wG_pure (e_istr rfl rfl (by omega)) ?_
    | refine wG_pure (e_istr0 rfl rfl (by omega)) ?_
    | refine wG_pure (o_not rfl) ?_
    | refine wG_pure (e_ia_vw0 rfl rfl (by omega) rfl) ?_
    | refine wG_pure (e_ia_vwp rfl rfl (by omega) rfl) ?_
    | refine wG_pure (e_ia_vwm rfl rfl (by omega) (by omega) rfl) ?_
    | refine wG_pure (e_ia_vwi rfl rfl (by omega) rfl) ?_
    | refine wG_pure (e_ia_vwn rfl rfl (by omega) (by omega) rfl) ?_
    | refine wG_n rfl rfl ?_
    | refine wG_u rfl rfl ?_
    | refine wG_new (o_mks rfl rfl (by omega) (by decide)) ?_) | (first
    | refine wE_nil (by kernel_rfl) ?_
    | refine wE_gy rfl ?_
    | refine wE_gn rfl rfl rfl ?_
    | refine wE_gu rfl rfl ?_
    | refine wE_gnn rfl rfl rfl ?_
    | refine wE_v (o_len_vwm rfl) rfl ?_
    | refine wE_v (o_not_d rfl) rfl ?_
    | refine wE_p rfl (by first | exact rfl | omega) rfl ?_
    | refine wE_v (o_str2 rfl rfl rfl) rfl ?_
    | refine wE_v (e_istr rfl rfl (by omega)) rfl ?_
    | refine wE_v (e_istr0 rfl rfl (by omega)) rfl ?_
    | refine wE_v (o_not rfl) rfl ?_
    | refine wE_v (e_ia_vw0 rfl rfl (by omega) rfl) rfl ?_
    | refine wE_v (e_ia_vwp rfl rfl (by omega) rfl) rfl ?_
    | refine wE_v (e_ia_vwm rfl rfl (by omega) (by omega) rfl) rfl ?_
    | refine wE_v (e_ia_vwi rfl rfl (by omega) rfl) rfl ?_
    | refine wE_v (e_ia_vwn rfl rfl (by omega) (by omega) rfl) rfl ?_
    | refine wE_n rfl rfl rfl ?_
    | refine wE_u rfl rfl rfl ?_
    | refine wE_new (o_mks rfl rfl (by omega) (by decide)) rfl ?_))
              refine ⟨j + 1, hj2, by omega, ⟨⟨rfl, rfl⟩, ⟨rfl, rfl⟩, ⟨rfl, rfl⟩, ⟨rfl, rfl⟩, ⟨rfl, rfl⟩, ⟨rfl, rfl⟩, ⟨rfl, rfl⟩, ⟨rfl, rfl⟩, ⟨rfl, rfl⟩, trivial⟩, ⟨rfl, by show 4 < 5; decide, ltrI _ _⟩, ⟨?_, by show 3 < 5; decide, ltrI _ _⟩, ⟨rfl, by show 2 < 5; decide, ltrI _ _⟩, ⟨rfl, by show 1 < 5; decide, ltrI _ _⟩, trivial⟩
              exact congrArg (fun z => some ((plcL k W j z).map iRow)) ei2.symm
            · have hd3 : decide ((j : Int) = (i : Int)) = false := decide_eq_false (by omega)
              have ei2 : (if i < j + 1 then s + 1 else s) = if i < j then s + 1 else s := by
                by_cases g : i < j
                · rw [if_pos g, if_pos (by omega)]
                · rw [if_neg g, if_neg (by omega)]
              repeat (first | refine wG_call cR (ag_sl rfl rfl (maskL_len _ _).symm iRow_plain (ag_int rfl (ag_int rfl ag_nil))) rfl ?_ | (refine wE_v (e_ia_sl rfl rfl (by omega) (by omega)) rfl ?_; simp only [e0]) | refine wE_v (o_ldf_pt rfl rfl g1 rfl) rfl ?_ | refine wE_v (o_ldf_pt rfl rfl g2 rfl) rfl ?_ | refine wE_v (o_cvu rfl (by omega)) rfl ?_ | refine wE_v (o_shl1 rfl rfl (by omega)) rfl ?_ | refine wE_v (o_or rfl rfl (by omega) (by omega)) rfl ?_ | refine wE_upd (o_st1 rfl rfl g2 rfl rfl hset) rfl ?_ | (first
    | refine wC_a rfl ?_
    | refine q_s rfl ?_
    | refine q_b rfl ?_
    | refine wG_nil ?_
    | refine wG_g rfl ?_
    | refine wG_pure (o_len_vwm rfl) ?_
    | refine wG_pure (o_not_d rfl) ?_
    | refine wG_p rfl (by first | exact rfl | omega) ?_
    | refine wG_pure (o_str2 rfl rfl rfl) ?_
    | refine wG_pure (e_istr rfl rfl (by omega)) ?_
    | refine wG_pure (e_istr0 rfl rfl (by omega)) ?_
    | refine wG_pure (o_not rfl) ?_
    | refine wG_pure (e_ia_vw0 rfl rfl (by omega) rfl) ?_
    | refine wG_pure (e_ia_vwp rfl rfl (by omega) rfl) ?_
    | refine wG_pure (e_ia_vwm rfl rfl (by omega) (by omega) rfl) ?_
    | refine wG_pure (e_ia_vwi rfl rfl (by omega) rfl) ?_
    | refine wG_pure (e_ia_vwn rfl rfl (by omega) (by omega) rfl) ?_
    | refine wG_n rfl rfl ?_
    | refine wG_u rfl rfl ?_
    | refine wG_new (o_mks rfl rfl (by omega) (by decide)) ?_) | (first
    | refine wE_nil (by kernel_rfl) ?_
    | refine wE_gy rfl ?_
    | refine wE_gn rfl rfl rfl ?_
    | refine wE_gu rfl rfl ?_
    | refine wE_gnn rfl rfl rfl ?_
    | refine wE_v (o_len_vwm rfl) rfl ?_
    | refine wE_v (o_not_d rfl) rfl ?_
    | refine wE_p rfl (by first | exact rfl | omega) rfl ?_
    | refine wE_v (o_str2 rfl rfl rfl) rfl ?_
    | refine wE_v (e_istr rfl rfl (by omega)) rfl ?_
    | refine wE_v (e_istr0 rfl rfl (by omega)) rfl ?_
    | refine wE_v (o_not rfl) rfl ?_
    | refine wE_v (e_ia_vw0 rfl rfl (by omega) rfl) rfl ?_
    | refine wE_v (e_ia_vwp rfl rfl (by omega) rfl) rfl ?_
    | refine wE_v (e_ia_vwm rfl rfl (by omega) (by omega) rfl) rfl ?_
    | refine wE_v (e_ia_vwi rfl rfl (by omega) rfl) rfl ?_
    | refine wE_v (e_ia_vwn rfl rfl (by omega) (by omega) rfl) rfl ?_
    | refine wE_n rfl rfl rfl ?_
    | refine wE_u rfl rfl rfl ?_
    | refine wE_new (o_mks rfl rfl (by omega) (by decide)) rfl ?_))
              simp only [hd3]
              repeat (first
    | refine wC_a rfl ?_
    | refine q_s rfl ?_
    | refine q_b rfl ?_
    | refine wG_nil ?_
    | refine wG_g rfl ?_
    | refine wG_pure (o_len_vwm rfl) ?_
    | refine wG_pure (o_not_d rfl) ?_
    | refine wG_p rfl (by first | exact rfl | omega) ?_
    | refine wG_pure (o_str2 rfl rfl rfl) ?_
    | refine wG_pure (e_istr rfl rfl (by omega)) ?_
    | refine wG_pure (e_istr0 rfl rfl (by omega)) ?_
    | refine wG_pure (o_not rfl) ?_
    | refine wG_pure (e_ia_vw0 rfl rfl (by omega) rfl) ?_
    | refine wG_pure (e_ia_vwp rfl rfl (by omega) rfl) ?_
    | refine wG_pure (e_ia_vwm rfl rfl (by omega) (by omega) rfl) ?_
    | refine wG_pure (e_ia_vwi rfl rfl (by omega) rfl) ?_
    | refine wG_pure (e_ia_vwn rfl rfl (by omega) (by omega) rfl) ?_
    | refine wG_n rfl rfl ?_
    | refine wG_u rfl rfl ?_
    | refine wG_new (o_mks rfl rfl (by omega) (by decide)) ?_)
              refine ⟨j + 1, hj2, by omega, ⟨⟨rfl, rfl⟩, ⟨rfl, rfl⟩, ⟨rfl, rfl⟩, ⟨rfl, rfl⟩, ⟨rfl, rfl⟩, ⟨rfl, rfl⟩, ⟨rfl, rfl⟩, ⟨rfl, rfl⟩, ⟨rfl, rfl⟩, trivial⟩, ⟨rfl, by show 4 < 5; decide, ltrI _ _⟩, ⟨?_, by show 3 < 5; decide, ltrI _ _⟩, ⟨rfl, by show 2 < 5; decide, ltrI _ _⟩, ⟨rfl, by show 1 < 5; decide, ltrI _ _⟩, trivial⟩
              rw [ei2]; rfl
          · rw [decide_eq_false hr] at cR
            have hb1 := bfL_no (n := k) (W := W) (s := s) (i := j) (fun h => hr h.1)
            have ei2 : plcL k W i (if i < j + 1 then s + 1 else s) = plcL k W i (if i < j then s + 1 else s) := by
              by_cases g : i < j
              · rw [if_pos g, if_pos (by omega)]
              · by_cases g2 : i = j
                · subst g2
                  rw [if_neg g, if_pos (Nat.lt_succ_self _), plcL_no (.inl hr)]
                · rw [if_neg g, if_neg (by omega)]
            repeat (first | refine wG_call cR (ag_sl rfl rfl (maskL_len _ _).symm iRow_plain (ag_int rfl (ag_int rfl ag_nil))) rfl ?_ | (first
    | refine wC_a rfl ?_
    | refine q_s rfl ?_
    | refine q_b rfl ?_
    | refine wG_nil ?_
    | refine wG_g rfl ?_
    | refine wG_pure (o_len_vwm rfl) ?_
    | refine wG_pure (o_not_d rfl) ?_
    | refine wG_p rfl (by first | exact rfl | omega) ?_
    | refine wG_pure (o_str2 rfl rfl rfl) ?_
    | refine wG_pure (e_istr rfl rfl (by omega)) ?_
    | refine wG_pure (e_istr0 rfl rfl (by omega)) ?_
    | refine wG_pure (o_not rfl) ?_
    | refine wG_pure (e_ia_vw0 rfl rfl (by omega) rfl) ?_
    | refine wG_pure (e_ia_vwp rfl rfl (by omega) rfl) ?_
    | refine wG_pure (e_ia_vwm rfl rfl (by omega) (by omega) rfl) ?_
    | refine wG_pure (e_ia_vwi rfl rfl (by omega) rfl) ?_
    | refine wG_pure (e_ia_vwn rfl rfl (by omega) (by omega) rfl) ?_
    | refine wG_n rfl rfl ?_
    | refine wG_u rfl rfl ?_
    | refine wG_new (o_mks rfl rfl (by omega) (by decide)) ?_))
            refine ⟨j + 1, hj2, by omega, ⟨⟨rfl, rfl⟩, ⟨rfl, rfl⟩, ⟨rfl, rfl⟩, ⟨rfl, rfl⟩, ⟨rfl, rfl⟩, ⟨rfl, rfl⟩, ⟨rfl, rfl⟩, ⟨rfl, rfl⟩, ⟨rfl, rfl⟩, trivial⟩, ⟨?_, by show 4 < 5; decide, ltrI _ _⟩, ⟨?_, by show 3 < 5; decide, ltrI _ _⟩, ⟨rfl, by show 2 < 5; decide, ltrI _ _⟩, ⟨rfl, by show 1 < 5; decide, ltrI _ _⟩, trivial⟩
            · rw [hb1]; rfl
            · rw [ei2]; rfl
      · have hj3 : j = k := by omega
        subst hj3
        have hd : decide ((j : Int) < (j : Int)) = false := decide_eq_false (by omega)
        have ei2 : (if i < j then s + 1 else s) = s + 1 := if_pos hi
        simp only [hd]
        repeat (first
    | refine wC_a rfl ?_
    | refine q_s rfl ?_
    | refine q_b rfl ?_
    | refine wG_nil ?_
    | refine wG_g rfl ?_
    | refine wG_pure (o_len_vwm rfl) ?_
    | refine wG_pure (o_not_d rfl) ?_
    | refine wG_p rfl (by first | exact rfl | omega) ?_
    | refine wG_pure (o_str2 rfl rfl rfl) ?_
    | refine wG_pure (e_istr rfl rfl (by omega)) ?_
    | refine wG_pure (e_istr0 rfl rfl (by omega)) ?_
    | refine wG_pure (o_not rfl) ?_
    | refine wG_pure (e_ia_vw0 rfl rfl (by omega) rfl) ?_
    | refine wG_pure (e_ia_vwp rfl rfl (by omega) rfl) ?_
    | refine wG_pure (e_ia_vwm rfl rfl (by omega) (by omega) rfl) ?_
    | refine wG_pure (e_ia_vwi rfl rfl (by omega) rfl) ?_
    | refine wG_pure (e_ia_vwn rfl rfl (by omega) (by omega) rfl) ?_
    | refine wG_n rfl rfl ?_
    | refine wG_u rfl rfl ?_
    | refine wG_new (o_mks rfl rfl (by omega) (by decide)) ?_)
        refine ⟨s + 1, hs2, by omega, ⟨⟨rfl, rfl⟩, ⟨rfl, rfl⟩, ⟨rfl, rfl⟩, ⟨rfl, rfl⟩, ⟨rfl, rfl⟩, ⟨rfl, rfl⟩, ⟨rfl, rfl⟩, trivial⟩, ⟨rfl, by show 4 < 5; decide, ltrI _ _⟩, ⟨?_, by show 3 < 5; decide, ltrI _ _⟩, ⟨rfl, by show 2 < 5; decide, ltrI _ _⟩, ⟨rfl, by show 1 < 5; decide, ltrI _ _⟩, trivial⟩
        exact congrArg (fun z => some ((plcL j W i z).map iRow)) ei2
  · have hs3 : s = p := by omega
    subst hs3
    repeat (first
    | refine wC_a rfl ?_
    | refine q_s rfl ?_
    | refine q_b rfl ?_
    | refine wG_nil ?_
    | refine wG_g rfl ?_
    | refine wG_pure (o_len_vwm rfl) ?_
    | refine wG_pure (o_not_d rfl) ?_
    | refine wG_p rfl (by first | exact rfl | omega) ?_
    | refine wG_pure (o_str2 rfl rfl rfl) ?_
    | refine wG_pure (e_istr rfl rfl (by omega)) ?_
    | refine wG_pure (e_istr0 rfl rfl (by omega)) ?_
    | refine wG_pure (o_not rfl) ?_
    | refine wG_pure (e_ia_vw0 rfl rfl (by omega) rfl) ?_
    | refine wG_pure (e_ia_vwp rfl rfl (by omega) rfl) ?_
    | refine wG_pure (e_ia_vwm rfl rfl (by omega) (by omega) rfl) ?_
    | refine wG_pure (e_ia_vwi rfl rfl (by omega) rfl) ?_
    | refine wG_pure (e_ia_vwn rfl rfl (by omega) (by omega) rfl) ?_
    | refine wG_n rfl rfl ?_
    | refine wG_u rfl rfl ?_
    | refine wG_new (o_mks rfl rfl (by omega) (by decide)) ?_)
    exact ret_sl (.inr rfl) (retV_mv rfl) rfl
theorem con29_yes (a b : Bool) (r : Rc) (x : Int) (h1 : r.cs.length ≤ 1048576) (h2 : r.xs.length ≤ 1048576) (hC : GoodC r) {i : Nat} (hi : idx r x = i) : Con Try.prog 29 true [.agg (rRow a b r), .int .i64 x] (.tup [.sl 0 1 0 r.cs.length, .bool true]) [(plcL r.cs.length (later r) i (2 ^ r.cs.length)).map iRow] := by
  classical
  refine con_of_wp mixed fun29 (by simp) [1] (plain_map iRow_plain _) ?_
  unfold ac29 ro29
  simp only [zipT]
  have c1 := con40 a b r h1 h2
  rw [decide_eq_true hC] at c1
  have cx := con48 a b r x h1
  have bx := idx_b r x
  rw [hi] at cx bx
  have c2 := con58 a b r i hC.1 (by omega)
  have d1 : decide ((i : Int) < 0) = false := decide_eq_false (by omega)
  repeat (first | refine wC_dregE ?_ | refine wG_call c1 rfl rfl ?_ | refine wG_call cx rfl rfl ?_ | refine wE_call cx rfl rfl rfl ?_ | refine wG_call1 c2 rfl rfl ?_ | refine wE_call1 c2 rfl rfl rfl ?_ | (first
    | refine wC_a rfl ?_
    | refine q_s rfl ?_
    | refine q_b rfl ?_
    | refine wG_nil ?_
    | refine wG_g rfl ?_
    | refine wG_pure (o_len_vwm rfl) ?_
    | refine wG_pure (o_not_d rfl) ?_
    | refine wG_p rfl (by first | exact rfl | omega) ?_
    | refine wG_pure (o_str2 rfl rfl rfl) ?_
    | refine wG_pure (e_istr rfl rfl (by omega)) ?_
    | refine wG_pure (e_istr0 rfl rfl (by omega)) ?_
    | refine wG_pure (o_not rfl) ?_
    | refine wG_pure (e_ia_vw0 rfl rfl (by omega) rfl) ?_
    | refine wG_pure (e_ia_vwp rfl rfl (by omega) rfl) ?_
    | refine wG_pure (e_ia_vwm rfl rfl (by omega) (by omega) rfl) ?_
    | refine wG_pure (e_ia_vwi rfl rfl (by omega) rfl) ?_
    | refine wG_pure (e_ia_vwn rfl rfl (by omega) (by omega) rfl) ?_
    | refine wG_n rfl rfl ?_
    | refine wG_u rfl rfl ?_
    | refine wG_new (o_mks rfl rfl (by omega) (by decide)) ?_) | (first
    | refine wE_nil (by kernel_rfl) ?_
    | refine wE_gy rfl ?_
    | refine wE_gn rfl rfl rfl ?_
    | refine wE_gu rfl rfl ?_
    | refine wE_gnn rfl rfl rfl ?_
    | refine wE_v (o_len_vwm rfl) rfl ?_
    | refine wE_v (o_not_d rfl) rfl ?_
    | refine wE_p rfl (by first | exact rfl | omega) rfl ?_
    | refine wE_v (o_str2 rfl rfl rfl) rfl ?_
    | refine wE_v (e_istr rfl rfl (by omega)) rfl ?_
    | refine wE_v (e_istr0 rfl rfl (by omega)) rfl ?_
    | refine wE_v (o_not rfl) rfl ?_
    | refine wE_v (e_ia_vw0 rfl rfl (by omega) rfl) rfl ?_
    | refine wE_v (e_ia_vwp rfl rfl (by omega) rfl) rfl ?_
    | refine wE_v (e_ia_vwm rfl rfl (by omega) (by omega) rfl) rfl ?_
    | refine wE_v (e_ia_vwi rfl rfl (by omega) rfl) rfl ?_
    | refine wE_v (e_ia_vwn rfl rfl (by omega) (by omega) rfl) rfl ?_
    | refine wE_n rfl rfl rfl ?_
    | refine wE_u rfl rfl rfl ?_
    | refine wE_new (o_mks rfl rfl (by omega) (by decide)) rfl ?_))
  exact ret_sb (.inr rfl) rfl ⟨_, retV_mv rfl, retV_mv rfl, rfl⟩ rfl
def okP (r : Rc) (x : Int) : Prop := GoodC r ∧ 0 ≤ idx r x
theorem con29_no (a b : Bool) (r : Rc) (x : Int) (h1 : r.cs.length ≤ 1048576) (h2 : r.xs.length ≤ 1048576) (hC : ¬ okP r x) : Con Try.prog 29 true [.agg (rRow a b r), .int .i64 x] (.tup [.sl 0 1 0 0, .bool false]) [([] : List Int).map iRow] := by
  classical
  refine con_of_wp mixed fun29 (by simp) [1] (plain_map iRow_plain _) ?_
  unfold ac29 ro29
  simp only [zipT]
  have c1 := con40 a b r h1 h2
  have cx := con48 a b r x h1
  by_cases hG : GoodC r
  · rw [decide_eq_true hG] at c1
    have d1 : decide (idx r x < 0) = true := decide_eq_true (Int.not_le.1 fun h => hC ⟨hG, h⟩)
    repeat (first | refine wG_call c1 rfl rfl ?_ | refine wG_call cx rfl rfl ?_ | (first
    | refine wC_a rfl ?_
    | refine q_s rfl ?_
    | refine q_b rfl ?_
    | refine wG_nil ?_
    | refine wG_g rfl ?_
    | refine wG_pure (o_len_vwm rfl) ?_
    | refine wG_pure (o_not_d rfl) ?_
    | refine wG_p rfl (by first | exact rfl | omega) ?_
    | refine wG_pure (o_str2 rfl rfl rfl) ?_
    | refine wG_pure (e_istr rfl rfl (by omega)) ?_
    | refine wG_pure (e_istr0 rfl rfl (by omega)) ?_
    | refine wG_pure (o_not rfl) ?_
    | refine wG_pure (e_ia_vw0 rfl rfl (by omega) rfl) ?_
    | refine wG_pure (e_ia_vwp rfl rfl (by omega) rfl) ?_
    | refine wG_pure (e_ia_vwm rfl rfl (by omega) (by omega) rfl) ?_
    | refine wG_pure (e_ia_vwi rfl rfl (by omega) rfl) ?_
    | refine wG_pure (e_ia_vwn rfl rfl (by omega) (by omega) rfl) ?_
    | refine wG_n rfl rfl ?_
    | refine wG_u rfl rfl ?_
    | refine wG_new (o_mks rfl rfl (by omega) (by decide)) ?_))
    simp only [d1]
    repeat (first
    | refine wC_a rfl ?_
    | refine q_s rfl ?_
    | refine q_b rfl ?_
    | refine wG_nil ?_
    | refine wG_g rfl ?_
    | refine wG_pure (o_len_vwm rfl) ?_
    | refine wG_pure (o_not_d rfl) ?_
    | refine wG_p rfl (by first | exact rfl | omega) ?_
    | refine wG_pure (o_str2 rfl rfl rfl) ?_
    | refine wG_pure (e_istr rfl rfl (by omega)) ?_
    | refine wG_pure (e_istr0 rfl rfl (by omega)) ?_
    | refine wG_pure (o_not rfl) ?_
    | refine wG_pure (e_ia_vw0 rfl rfl (by omega) rfl) ?_
    | refine wG_pure (e_ia_vwp rfl rfl (by omega) rfl) ?_
    | refine wG_pure (e_ia_vwm rfl rfl (by omega) (by omega) rfl) ?_
    | refine wG_pure (e_ia_vwi rfl rfl (by omega) rfl) ?_
    | refine wG_pure (e_ia_vwn rfl rfl (by omega) (by omega) rfl) ?_
    | refine wG_n rfl rfl ?_
    | refine wG_u rfl rfl ?_
    | refine wG_new (o_mks rfl rfl (by omega) (by decide)) ?_)
    exact ret_sb (.inr rfl) rfl ⟨_, retV_mv rfl, retV_mv rfl, rfl⟩ rfl
  · rw [decide_eq_false hG] at c1
    repeat (first | refine wG_call c1 rfl rfl ?_ | (first
    | refine wC_a rfl ?_
    | refine q_s rfl ?_
    | refine q_b rfl ?_
    | refine wG_nil ?_
    | refine wG_g rfl ?_
    | refine wG_pure (o_len_vwm rfl) ?_
    | refine wG_pure (o_not_d rfl) ?_
    | refine wG_p rfl (by first | exact rfl | omega) ?_
    | refine wG_pure (o_str2 rfl rfl rfl) ?_
    | refine wG_pure (e_istr rfl rfl (by omega)) ?_
    | refine wG_pure (e_istr0 rfl rfl (by omega)) ?_
    | refine wG_pure (o_not rfl) ?_
    | refine wG_pure (e_ia_vw0 rfl rfl (by omega) rfl) ?_
    | refine wG_pure (e_ia_vwp rfl rfl (by omega) rfl) ?_
    | refine wG_pure (e_ia_vwm rfl rfl (by omega) (by omega) rfl) ?_
    | refine wG_pure (e_ia_vwi rfl rfl (by omega) rfl) ?_
    | refine wG_pure (e_ia_vwn rfl rfl (by omega) (by omega) rfl) ?_
    | refine wG_n rfl rfl ?_
    | refine wG_u rfl rfl ?_
    | refine wG_new (o_mks rfl rfl (by omega) (by decide)) ?_))
    exact ret_sb (.inr rfl) rfl ⟨_, retV_mv rfl, retV_mv rfl, rfl⟩ rfl
theorem con30_yes (a b : Bool) (r : Rc) (x : Int) (h1 : r.cs.length ≤ 1048576) (h2 : r.xs.length ≤ 1048576) (hC : GoodC r) {i : Nat} (hi : idx r x = i) : Con Try.prog 30 true [.agg (rRow a b r), .int .i64 x] (.tup [.sl 0 1 0 r.cs.length, .bool true]) [(plcL r.cs.length (later r) i (2 ^ r.cs.length)).map iRow] := by
  refine con_of_wp mixed fun30 (by simp) [0 + 1 + (cgO r).length] (plain_map iRow_plain _) ?_
  unfold ac30 ro30
  simp only [zipT]
  have h10 := hC.1.1
  have cx := con50 a b r x (by omega)
  have bx := idx_b r x
  rw [hi] at cx bx
  have e0 : ∀ n : Nat, 0 + ((n : Int)).toNat = n := fun n => by simp
  have hi2 : i < r.cs.length := by omega
  have d1 : decide ((i : Int) < 0) = false := decide_eq_false (by omega)
  obtain ⟨p, hp⟩ : ∃ p, 2 ^ r.cs.length = p := ⟨_, rfl⟩
  have hp1 : p ≤ 1024 := by rw [← hp]; exact Nat.pow_le_pow_right (by decide) h10
  have hnl : (nums r r.cs.length).length = r.cs.length := nums_len (Nat.le_refl _)
  have hgc := gH_c (a := a) (b := b) (r := r)
  have hl := cgO_len r
  obtain ⟨X, Y, Z, hst, hlenv⟩ := oO_st r
  have hl1 : hg (gH a b r) 1 = some [[sh 1 X, sh 1 Y, sh 1 Z]] := gH_o (i := 0) hst
  have hwf0 := gH_wf a b r
  obtain ⟨M, hM⟩ : ∃ M, 0 + 1 + (cgO r).length = M := ⟨_, rfl⟩
  rw [hM] at hwf0 ⊢
  rw [hp] at hgc ⊢
  have hsk : ∀ {q rows} {z : Option Ab.Rows}, hg (gH a b r) q = some rows → hg ((M, z) :: gH a b r) q = some rows := fun {q rows z} h => hg_skip (Nat.ne_of_lt (hwf0 q rows h).1) h
  have hsk2 : ∀ {q rows} {z z' : Option Ab.Rows}, hg (gH a b r) q = some rows → hg ((M, z') :: (M, z) :: gH a b r) q = some rows := fun {q rows z z'} h => hg_skip (Nat.ne_of_lt (hwf0 q rows h).1) (hsk h)
  have hdr : ∀ (z : Option Ab.Rows), dr (hg ((M, z) :: gH a b r)) 6 (.pt 1 0 0) = oC r := fun z => dr_gHo (fun q rows h _ => hsk h)
  have hwS : ∀ s, wfH ((M, some ((plcL r.cs.length (later r) i s).map iRow)) :: gH a b r) (M + 1) := fun s => wfH_cons (by omega) (ltrI _ _) (wfH_le hwf0 (by omega))
  repeat (first
    | refine wC_a rfl ?_
    | refine q_s rfl ?_
    | refine q_b rfl ?_
    | refine wG_nil ?_
    | refine wG_g rfl ?_
    | refine wG_pure (o_len_vwm rfl) ?_
    | refine wG_pure (o_not_d rfl) ?_
    | refine wG_p rfl (by first | exact rfl | omega) ?_
    | refine wG_pure (o_str2 rfl rfl rfl) ?_
    | refine wG_pure (e_istr rfl rfl (by omega)) ?_
    | refine wG_pure (e_istr0 rfl rfl (by omega)) ?_
    | refine wG_pure (o_not rfl) ?_
    | refine wG_pure (e_ia_vw0 rfl rfl (by omega) rfl) ?_
    | refine wG_pure (e_ia_vwp rfl rfl (by omega) rfl) ?_
    | refine wG_pure (e_ia_vwm rfl rfl (by omega) (by omega) rfl) ?_
    | refine wG_pure (e_ia_vwi rfl rfl (by omega) rfl) ?_
    | refine wG_pure (e_ia_vwn rfl rfl (by omega) (by omega) rfl) ?_
    | refine wG_n rfl rfl ?_
    | refine wG_u rfl rfl ?_
    | refine wG_new (o_mks rfl rfl (by omega) (by decide)) ?_)
  refine wG_callG (v' := .tup [.pt (1 + ((oO r).length + 2)) 0 0, .bool true]) (con45_yes a b r h1 h2 hC) rfl rfl rfl ?_
  rw [hM]
  change wpG _ _ _ ⟨_, gH a b r, _⟩ _
  repeat (first | refine wG_pure (o_ldt_pt rfl gH_0 rfl rfl rfl) ?_ | refine wG_call cx rfl rfl ?_ | (first
    | refine wC_a rfl ?_
    | refine q_s rfl ?_
    | refine q_b rfl ?_
    | refine wG_nil ?_
    | refine wG_g rfl ?_
    | refine wG_pure (o_len_vwm rfl) ?_
    | refine wG_pure (o_not_d rfl) ?_
    | refine wG_p rfl (by first | exact rfl | omega) ?_
    | refine wG_pure (o_str2 rfl rfl rfl) ?_
    | refine wG_pure (e_istr rfl rfl (by omega)) ?_
    | refine wG_pure (e_istr0 rfl rfl (by omega)) ?_
    | refine wG_pure (o_not rfl) ?_
    | refine wG_pure (e_ia_vw0 rfl rfl (by omega) rfl) ?_
    | refine wG_pure (e_ia_vwp rfl rfl (by omega) rfl) ?_
    | refine wG_pure (e_ia_vwm rfl rfl (by omega) (by omega) rfl) ?_
    | refine wG_pure (e_ia_vwi rfl rfl (by omega) rfl) ?_
    | refine wG_pure (e_ia_vwn rfl rfl (by omega) (by omega) rfl) ?_
    | refine wG_n rfl rfl ?_
    | refine wG_u rfl rfl ?_
    | refine wG_new (o_mks rfl rfl (by omega) (by decide)) ?_))
  simp only [d1]
  repeat (first | refine wG_pure (o_ldt_pt rfl gH_0 rfl rfl rfl) ?_ | refine wG_call cx rfl rfl ?_ | refine wG_pure (o_ldf_pt rfl hgc rfl rfl) ?_ | refine wG_pure (o_ldf_pt rfl hl1 rfl rfl) ?_ | refine wG_pure (hlenv _ _ _ _ rfl) ?_ | refine wG_new (o_mks rfl rfl (by omega) (by decide)) ?_ | refine wG_pure (o_ldf_pt rfl (hsk hgc) rfl rfl) ?_ | (first
    | refine wC_a rfl ?_
    | refine q_s rfl ?_
    | refine q_b rfl ?_
    | refine wG_nil ?_
    | refine wG_g rfl ?_
    | refine wG_pure (o_len_vwm rfl) ?_
    | refine wG_pure (o_not_d rfl) ?_
    | refine wG_p rfl (by first | exact rfl | omega) ?_
    | refine wG_pure (o_str2 rfl rfl rfl) ?_
    | refine wG_pure (e_istr rfl rfl (by omega)) ?_
    | refine wG_pure (e_istr0 rfl rfl (by omega)) ?_
    | refine wG_pure (o_not rfl) ?_
    | refine wG_pure (e_ia_vw0 rfl rfl (by omega) rfl) ?_
    | refine wG_pure (e_ia_vwp rfl rfl (by omega) rfl) ?_
    | refine wG_pure (e_ia_vwm rfl rfl (by omega) (by omega) rfl) ?_
    | refine wG_pure (e_ia_vwi rfl rfl (by omega) rfl) ?_
    | refine wG_pure (e_ia_vwn rfl rfl (by omega) (by omega) rfl) ?_
    | refine wG_n rfl rfl ?_
    | refine wG_u rfl rfl ?_
    | refine wG_new (o_mks rfl rfl (by omega) (by decide)) ?_))
  refine wC_loopX Nat (fun s => ⟨[(6, .pt (1 + ((oO r).length + 2)) 0 0), (8, .int .i64 (i : Int)), (9, .sl M 1 0 r.cs.length), (42, .sl (1 + (oO r).length) 1 0 p), (43, .int .i64 (p : Int)), (44, .int .i64 (s : Int))], (M, some ((plcL r.cs.length (later r) i s).map iRow)) :: gH a b r, M + 1⟩) (fun s => s ≤ p) (fun s => p - s) 0 (Nat.zero_le _) ?_ ?_
  · refine .inl (Le_of ⟨⟨rfl, by simp [AV.ltr]; omega⟩, ⟨rfl, rfl⟩, ⟨rfl, by simp [AV.ltr]⟩, ⟨rfl, by simp [AV.ltr]; omega⟩, ⟨rfl, rfl⟩, ⟨rfl, rfl⟩, trivial⟩ (fun q rows hq => ?_) (hwS 0))
    rw [← plcL_0] at hq
    exact hq
  intro s hs
  repeat (first
    | refine wC_a rfl ?_
    | refine q_s rfl ?_
    | refine q_b rfl ?_
    | refine wG_nil ?_
    | refine wG_g rfl ?_
    | refine wG_pure (o_len_vwm rfl) ?_
    | refine wG_pure (o_not_d rfl) ?_
    | refine wG_p rfl (by first | exact rfl | omega) ?_
    | refine wG_pure (o_str2 rfl rfl rfl) ?_
    | refine wG_pure (e_istr rfl rfl (by omega)) ?_
    | refine wG_pure (e_istr0 rfl rfl (by omega)) ?_
    | refine wG_pure (o_not rfl) ?_
    | refine wG_pure (e_ia_vw0 rfl rfl (by omega) rfl) ?_
    | refine wG_pure (e_ia_vwp rfl rfl (by omega) rfl) ?_
    | refine wG_pure (e_ia_vwm rfl rfl (by omega) (by omega) rfl) ?_
    | refine wG_pure (e_ia_vwi rfl rfl (by omega) rfl) ?_
    | refine wG_pure (e_ia_vwn rfl rfl (by omega) (by omega) rfl) ?_
    | refine wG_n rfl rfl ?_
    | refine wG_u rfl rfl ?_
    | refine wG_new (o_mks rfl rfl (by omega) (by decide)) ?_)
  refine wC_cond_d rfl (fun h4 => ?_) (fun h4 => ?_)
  · have hs2 : s < p := by omega
    have hs3 : s < 2 ^ r.cs.length := by omega
    have gB := befL_get (W := later r) hs3
    have cF := con51 (nums r r.cs.length) (later r) (lk0 r r.xs.length) hnl h10 (show s < 1024 by omega) hi2
    by_cases hr : rdy r.cs.length (later r) s i
    · rw [decide_eq_true hr] at cF
      repeat (first | (refine wG_pure (e_ia_sl rfl rfl (by omega) (by omega)) ?_; simp only [e0]) | refine wG_pure (o_ldf_pt rfl (hsk gH_b) gB rfl) ?_ | refine wG_pure (o_ldf_pt rfl (hsk hgc) rfl rfl) ?_ | refine wG_pure (o_ldf_pt rfl (hsk hl1) rfl rfl) ?_ | refine wG_pure (hlenv _ _ _ _ rfl) ?_ | refine wG_call cF (ag_any (hdr _) (ag_int rfl (ag_int rfl ag_nil))) rfl ?_ | (first
    | refine wC_a rfl ?_
    | refine q_s rfl ?_
    | refine q_b rfl ?_
    | refine wG_nil ?_
    | refine wG_g rfl ?_
    | refine wG_pure (o_len_vwm rfl) ?_
    | refine wG_pure (o_not_d rfl) ?_
    | refine wG_p rfl (by first | exact rfl | omega) ?_
    | refine wG_pure (o_str2 rfl rfl rfl) ?_
    | refine wG_pure (e_istr rfl rfl (by omega)) ?_
    | refine wG_pure (e_istr0 rfl rfl (by omega)) ?_
    | refine wG_pure (o_not rfl) ?_
    | refine wG_pure (e_ia_vw0 rfl rfl (by omega) rfl) ?_
    | refine wG_pure (e_ia_vwp rfl rfl (by omega) rfl) ?_
    | refine wG_pure (e_ia_vwm rfl rfl (by omega) (by omega) rfl) ?_
    | refine wG_pure (e_ia_vwi rfl rfl (by omega) rfl) ?_
    | refine wG_pure (e_ia_vwn rfl rfl (by omega) (by omega) rfl) ?_
    | refine wG_n rfl rfl ?_
    | refine wG_u rfl rfl ?_
    | refine wG_new (o_mks rfl rfl (by omega) (by decide)) ?_))
      refine wC_loopX Nat (fun k => ⟨[(6, .pt (1 + ((oO r).length + 2)) 0 0), (8, .int .i64 (i : Int)), (9, .sl M 1 0 r.cs.length), (10, .int .i64 (s : Int)), (11, .int .i64 ((bef r.cs.length (later r) s : Nat) : Int)), (12, .int .i64 ((pcB s k : Nat) : Int)), (42, .sl (1 + (oO r).length) 1 0 p), (43, .int .i64 (p : Int)), (44, .int .i64 (s : Int)), (64, .int .i64 (r.cs.length : Int)), (65, .int .i64 (k : Int))], (M, some ((plcL r.cs.length (later r) i s).map iRow)) :: gH a b r, M + 1⟩) (fun k => k ≤ r.cs.length) (fun k => r.cs.length - k) 0 (Nat.zero_le _) ?_ ?_
      · exact .inl (Le_of ⟨⟨rfl, by simp [AV.ltr]; omega⟩, ⟨rfl, rfl⟩, ⟨rfl, by simp [AV.ltr]⟩, ⟨rfl, rfl⟩, ⟨rfl, rfl⟩, ⟨rfl, rfl⟩, ⟨rfl, by simp [AV.ltr]; omega⟩, ⟨rfl, rfl⟩, ⟨rfl, rfl⟩, ⟨rfl, rfl⟩, ⟨rfl, rfl⟩, trivial⟩ (fun q rows hq => hq) (hwS s))
      intro k hk
      have hpk := pcB_le s k
      repeat (first
    | refine wC_a rfl ?_
    | refine q_s rfl ?_
    | refine q_b rfl ?_
    | refine wG_nil ?_
    | refine wG_g rfl ?_
    | refine wG_pure (o_len_vwm rfl) ?_
    | refine wG_pure (o_not_d rfl) ?_
    | refine wG_p rfl (by first | exact rfl | omega) ?_
    | refine wG_pure (o_str2 rfl rfl rfl) ?_
    | refine wG_pure (e_istr rfl rfl (by omega)) ?_
    | refine wG_pure (e_istr0 rfl rfl (by omega)) ?_
    | refine wG_pure (o_not rfl) ?_
    | refine wG_pure (e_ia_vw0 rfl rfl (by omega) rfl) ?_
    | refine wG_pure (e_ia_vwp rfl rfl (by omega) rfl) ?_
    | refine wG_pure (e_ia_vwm rfl rfl (by omega) (by omega) rfl) ?_
    | refine wG_pure (e_ia_vwi rfl rfl (by omega) rfl) ?_
    | refine wG_pure (e_ia_vwn rfl rfl (by omega) (by omega) rfl) ?_
    | refine wG_n rfl rfl ?_
    | refine wG_u rfl rfl ?_
    | refine wG_new (o_mks rfl rfl (by omega) (by decide)) ?_)
      refine wC_cond_d rfl (fun h5 => ?_) (fun h5 => ?_)
      · have hk2 : k < r.cs.length := by omega
        have hsh : s >>> k ≤ 1024 := by rw [Nat.shiftRight_eq_div_pow]; exact Nat.le_trans (Nat.div_le_self _ _) (by omega)
        have hup : pcB s (k + 1) = pcB s k + (s >>> k &&& 1) := by rw [bitN]; rfl
        have hb1 : s >>> k &&& 1 ≤ 1 := Nat.and_le_right
        repeat (first | refine wG_pure (o_shr rfl rfl (by omega)) ?_ | refine wG_pure (o_and (b := 1) rfl rfl (by omega) (by decide)) ?_ | (first
    | refine wC_a rfl ?_
    | refine q_s rfl ?_
    | refine q_b rfl ?_
    | refine wG_nil ?_
    | refine wG_g rfl ?_
    | refine wG_pure (o_len_vwm rfl) ?_
    | refine wG_pure (o_not_d rfl) ?_
    | refine wG_p rfl (by first | exact rfl | omega) ?_
    | refine wG_pure (o_str2 rfl rfl rfl) ?_
    | refine wG_pure (e_istr rfl rfl (by omega)) ?_
    | refine wG_pure (e_istr0 rfl rfl (by omega)) ?_
    | refine wG_pure (o_not rfl) ?_
    | refine wG_pure (e_ia_vw0 rfl rfl (by omega) rfl) ?_
    | refine wG_pure (e_ia_vwp rfl rfl (by omega) rfl) ?_
    | refine wG_pure (e_ia_vwm rfl rfl (by omega) (by omega) rfl) ?_
    | refine wG_pure (e_ia_vwi rfl rfl (by omega) rfl) ?_
    | refine wG_pure (e_ia_vwn rfl rfl (by omega) (by omega) rfl) ?_
    | refine wG_n rfl rfl ?_
    | refine wG_u rfl rfl ?_
    | refine wG_new (o_mks rfl rfl (by omega) (by decide)) ?_))
        refine ⟨k + 1, hk2, by omega, .inl (Le_of ⟨⟨rfl, by simp [AV.ltr]; omega⟩, ⟨rfl, rfl⟩, ⟨rfl, by simp [AV.ltr]⟩, ⟨rfl, rfl⟩, ⟨rfl, rfl⟩, ⟨?_, rfl⟩, ⟨rfl, by simp [AV.ltr]; omega⟩, ⟨rfl, rfl⟩, ⟨rfl, rfl⟩, ⟨rfl, rfl⟩, ⟨rfl, rfl⟩, trivial⟩ (fun q rows hq => hq) (hwS s))⟩
        rw [hup]; rfl
      · have hk3 : k = r.cs.length := by omega
        subst hk3
        have hpi := p10 hi2 h10
        have hor := or_lt hs3 hi2
        have hor2 : s ||| 2 ^ i < p := by omega
        have gC := cntL_get (W := later r) hor
        have bpr := prod_b (W := later r) h10 hs3 hr.1 hi2
        have hpc := pc_lt hi2 hs3 hr
        have gp := plcL_get (W := later r) (i := i) (m := s) hpc
        have hset := plcL_yes hr
        have bp := plc_le (W := later r) (p := pcB s r.cs.length) h10 hi2 s (by omega)
        have e3 : ((bef r.cs.length (later r) s : Nat) : Int) * ((cnt r.cs.length (later r) (s ||| 2 ^ i) : Nat) : Int) = ((bef r.cs.length (later r) s * cnt r.cs.length (later r) (s ||| 2 ^ i) : Nat) : Int) := (Int.natCast_mul _ _).symm
        repeat (first | refine wC_dregE ?_ | (refine wE_v (e_ia_sl rfl rfl (by omega) (by omega)) rfl ?_; simp only [e0]) | refine wE_v (o_ldf_pt rfl (hsk hgc) rfl rfl) rfl ?_ | refine wE_v (o_ldf_pt rfl hg_here gp rfl) rfl ?_ | refine wE_v (o_ldf_pt rfl (hsk gH_h) gC rfl) rfl ?_ | refine wE_v (o_shl1 rfl rfl (by omega)) rfl ?_ | refine wE_v (o_or rfl rfl (by omega) (by omega)) rfl ?_ | refine wE_p rfl (by rw [e3]; omega) rfl ?_ | refine wE_upd (o_st1 rfl hg_here gp rfl rfl hset) rfl ?_ | (first
    | refine wC_a rfl ?_
    | refine q_s rfl ?_
    | refine q_b rfl ?_
    | refine wG_nil ?_
    | refine wG_g rfl ?_
    | refine wG_pure (o_len_vwm rfl) ?_
    | refine wG_pure (o_not_d rfl) ?_
    | refine wG_p rfl (by first | exact rfl | omega) ?_
    | refine wG_pure (o_str2 rfl rfl rfl) ?_
    | refine wG_pure (e_istr rfl rfl (by omega)) ?_
    | refine wG_pure (e_istr0 rfl rfl (by omega)) ?_
    | refine wG_pure (o_not rfl) ?_
    | refine wG_pure (e_ia_vw0 rfl rfl (by omega) rfl) ?_
    | refine wG_pure (e_ia_vwp rfl rfl (by omega) rfl) ?_
    | refine wG_pure (e_ia_vwm rfl rfl (by omega) (by omega) rfl) ?_
    | refine wG_pure (e_ia_vwi rfl rfl (by omega) rfl) ?_
    | refine wG_pure (e_ia_vwn rfl rfl (by omega) (by omega) rfl) ?_
    | refine wG_n rfl rfl ?_
    | refine wG_u rfl rfl ?_
    | refine wG_new (o_mks rfl rfl (by omega) (by decide)) ?_) | (first
    | refine wE_nil (by kernel_rfl) ?_
    | refine wE_gy rfl ?_
    | refine wE_gn rfl rfl rfl ?_
    | refine wE_gu rfl rfl ?_
    | refine wE_gnn rfl rfl rfl ?_
    | refine wE_v (o_len_vwm rfl) rfl ?_
    | refine wE_v (o_not_d rfl) rfl ?_
    | refine wE_p rfl (by first | exact rfl | omega) rfl ?_
    | refine wE_v (o_str2 rfl rfl rfl) rfl ?_
    | refine wE_v (e_istr rfl rfl (by omega)) rfl ?_
    | refine wE_v (e_istr0 rfl rfl (by omega)) rfl ?_
    | refine wE_v (o_not rfl) rfl ?_
    | refine wE_v (e_ia_vw0 rfl rfl (by omega) rfl) rfl ?_
    | refine wE_v (e_ia_vwp rfl rfl (by omega) rfl) rfl ?_
    | refine wE_v (e_ia_vwm rfl rfl (by omega) (by omega) rfl) rfl ?_
    | refine wE_v (e_ia_vwi rfl rfl (by omega) rfl) rfl ?_
    | refine wE_v (e_ia_vwn rfl rfl (by omega) (by omega) rfl) rfl ?_
    | refine wE_n rfl rfl rfl ?_
    | refine wE_u rfl rfl rfl ?_
    | refine wE_new (o_mks rfl rfl (by omega) (by decide)) rfl ?_))
        refine ⟨s + 1, hs2, by omega, .inl (Le_of ⟨⟨rfl, by simp [AV.ltr]; omega⟩, ⟨rfl, rfl⟩, ⟨rfl, by simp [AV.ltr]⟩, ⟨rfl, by simp [AV.ltr]; omega⟩, ⟨rfl, rfl⟩, ⟨rfl, rfl⟩, trivial⟩ (fun q rows hq => ?_) (hwS (s + 1)))⟩
        by_cases hq2 : q = M
        · subst hq2; rw [hg_here] at hq; rw [← hq]; exact hg_here
        · exact hg_skip hq2 (by simpa [Ab.hg, upd, hq2] using hq)
    · rw [decide_eq_false hr] at cF
      have hno := plcL_no (n := r.cs.length) (W := later r) (i := i) (s := s) (.inl hr)
      repeat (first | (refine wG_pure (e_ia_sl rfl rfl (by omega) (by omega)) ?_; simp only [e0]) | refine wG_pure (o_ldf_pt rfl (hsk gH_b) gB rfl) ?_ | refine wG_pure (o_ldf_pt rfl (hsk hgc) rfl rfl) ?_ | refine wG_call cF (ag_any (hdr _) (ag_int rfl (ag_int rfl ag_nil))) rfl ?_ | (first
    | refine wC_a rfl ?_
    | refine q_s rfl ?_
    | refine q_b rfl ?_
    | refine wG_nil ?_
    | refine wG_g rfl ?_
    | refine wG_pure (o_len_vwm rfl) ?_
    | refine wG_pure (o_not_d rfl) ?_
    | refine wG_p rfl (by first | exact rfl | omega) ?_
    | refine wG_pure (o_str2 rfl rfl rfl) ?_
    | refine wG_pure (e_istr rfl rfl (by omega)) ?_
    | refine wG_pure (e_istr0 rfl rfl (by omega)) ?_
    | refine wG_pure (o_not rfl) ?_
    | refine wG_pure (e_ia_vw0 rfl rfl (by omega) rfl) ?_
    | refine wG_pure (e_ia_vwp rfl rfl (by omega) rfl) ?_
    | refine wG_pure (e_ia_vwm rfl rfl (by omega) (by omega) rfl) ?_
    | refine wG_pure (e_ia_vwi rfl rfl (by omega) rfl) ?_
    | refine wG_pure (e_ia_vwn rfl rfl (by omega) (by omega) rfl) ?_
    | refine wG_n rfl rfl ?_
    | refine wG_u rfl rfl ?_
    | refine wG_new (o_mks rfl rfl (by omega) (by decide)) ?_))
      refine ⟨s + 1, hs2, by omega, .inl (Le_of ⟨⟨rfl, by simp [AV.ltr]; omega⟩, ⟨rfl, rfl⟩, ⟨rfl, by simp [AV.ltr]⟩, ⟨rfl, by simp [AV.ltr]; omega⟩, ⟨rfl, rfl⟩, ⟨rfl, rfl⟩, trivial⟩ (fun q rows hq => ?_) (hwS (s + 1)))⟩
      rw [hno] at hq; exact hq
  · have hs3 : s = p := by omega
    subst hs3
    repeat (first
    | refine wC_a rfl ?_
    | refine q_s rfl ?_
    | refine q_b rfl ?_
    | refine wG_nil ?_
    | refine wG_g rfl ?_
    | refine wG_pure (o_len_vwm rfl) ?_
    | refine wG_pure (o_not_d rfl) ?_
    | refine wG_p rfl (by first | exact rfl | omega) ?_
    | refine wG_pure (o_str2 rfl rfl rfl) ?_
    | refine wG_pure (e_istr rfl rfl (by omega)) ?_
    | refine wG_pure (e_istr0 rfl rfl (by omega)) ?_
    | refine wG_pure (o_not rfl) ?_
    | refine wG_pure (e_ia_vw0 rfl rfl (by omega) rfl) ?_
    | refine wG_pure (e_ia_vwp rfl rfl (by omega) rfl) ?_
    | refine wG_pure (e_ia_vwm rfl rfl (by omega) (by omega) rfl) ?_
    | refine wG_pure (e_ia_vwi rfl rfl (by omega) rfl) ?_
    | refine wG_pure (e_ia_vwn rfl rfl (by omega) (by omega) rfl) ?_
    | refine wG_n rfl rfl ?_
    | refine wG_u rfl rfl ?_
    | refine wG_new (o_mks rfl rfl (by omega) (by decide)) ?_)
    exact ret_sb (.inr rfl) rfl ⟨_, retV_mv rfl, retV_mv rfl, rfl⟩ hg_here
theorem con30_no (a b : Bool) (r : Rc) (x : Int) (h1 : r.cs.length ≤ 1048576) (h2 : r.xs.length ≤ 1048576) (hC : ¬ okP r x) : Con Try.prog 30 true [.agg (rRow a b r), .int .i64 x] (.tup [.nilS, .bool false]) [] := by
  refine con_of_wp mixed fun30 (by simp) [] plain_nil ?_
  unfold ac30 ro30
  simp only [zipT]
  have cx := con50 a b r x (by omega)
  by_cases hG : GoodC r
  · have d1 : decide (idx r x < 0) = true := decide_eq_true (Int.not_le.1 fun h => hC ⟨hG, h⟩)
    repeat (first
    | refine wC_a rfl ?_
    | refine q_s rfl ?_
    | refine q_b rfl ?_
    | refine wG_nil ?_
    | refine wG_g rfl ?_
    | refine wG_pure (o_len_vwm rfl) ?_
    | refine wG_pure (o_not_d rfl) ?_
    | refine wG_p rfl (by first | exact rfl | omega) ?_
    | refine wG_pure (o_str2 rfl rfl rfl) ?_
    | refine wG_pure (e_istr rfl rfl (by omega)) ?_
    | refine wG_pure (e_istr0 rfl rfl (by omega)) ?_
    | refine wG_pure (o_not rfl) ?_
    | refine wG_pure (e_ia_vw0 rfl rfl (by omega) rfl) ?_
    | refine wG_pure (e_ia_vwp rfl rfl (by omega) rfl) ?_
    | refine wG_pure (e_ia_vwm rfl rfl (by omega) (by omega) rfl) ?_
    | refine wG_pure (e_ia_vwi rfl rfl (by omega) rfl) ?_
    | refine wG_pure (e_ia_vwn rfl rfl (by omega) (by omega) rfl) ?_
    | refine wG_n rfl rfl ?_
    | refine wG_u rfl rfl ?_
    | refine wG_new (o_mks rfl rfl (by omega) (by decide)) ?_)
    refine wG_callG (v' := .tup [.pt (1 + ((oO r).length + 2)) 0 0, .bool true]) (con45_yes a b r h1 h2 hG) rfl rfl rfl ?_
    change wpG _ _ _ ⟨_, gH a b r, _⟩ _
    repeat (first | refine wG_pure (o_ldt_pt rfl gH_0 rfl rfl rfl) ?_ | refine wG_call cx rfl rfl ?_ | (first
    | refine wC_a rfl ?_
    | refine q_s rfl ?_
    | refine q_b rfl ?_
    | refine wG_nil ?_
    | refine wG_g rfl ?_
    | refine wG_pure (o_len_vwm rfl) ?_
    | refine wG_pure (o_not_d rfl) ?_
    | refine wG_p rfl (by first | exact rfl | omega) ?_
    | refine wG_pure (o_str2 rfl rfl rfl) ?_
    | refine wG_pure (e_istr rfl rfl (by omega)) ?_
    | refine wG_pure (e_istr0 rfl rfl (by omega)) ?_
    | refine wG_pure (o_not rfl) ?_
    | refine wG_pure (e_ia_vw0 rfl rfl (by omega) rfl) ?_
    | refine wG_pure (e_ia_vwp rfl rfl (by omega) rfl) ?_
    | refine wG_pure (e_ia_vwm rfl rfl (by omega) (by omega) rfl) ?_
    | refine wG_pure (e_ia_vwi rfl rfl (by omega) rfl) ?_
    | refine wG_pure (e_ia_vwn rfl rfl (by omega) (by omega) rfl) ?_
    | refine wG_n rfl rfl ?_
    | refine wG_u rfl rfl ?_
    | refine wG_new (o_mks rfl rfl (by omega) (by decide)) ?_))
    simp only [d1]
    repeat (first
    | refine wC_a rfl ?_
    | refine q_s rfl ?_
    | refine q_b rfl ?_
    | refine wG_nil ?_
    | refine wG_g rfl ?_
    | refine wG_pure (o_len_vwm rfl) ?_
    | refine wG_pure (o_not_d rfl) ?_
    | refine wG_p rfl (by first | exact rfl | omega) ?_
    | refine wG_pure (o_str2 rfl rfl rfl) ?_
    | refine wG_pure (e_istr rfl rfl (by omega)) ?_
    | refine wG_pure (e_istr0 rfl rfl (by omega)) ?_
    | refine wG_pure (o_not rfl) ?_
    | refine wG_pure (e_ia_vw0 rfl rfl (by omega) rfl) ?_
    | refine wG_pure (e_ia_vwp rfl rfl (by omega) rfl) ?_
    | refine wG_pure (e_ia_vwm rfl rfl (by omega) (by omega) rfl) ?_
    | refine wG_pure (e_ia_vwi rfl rfl (by omega) rfl) ?_
    | refine wG_pure (e_ia_vwn rfl rfl (by omega) (by omega) rfl) ?_
    | refine wG_n rfl rfl ?_
    | refine wG_u rfl rfl ?_
    | refine wG_new (o_mks rfl rfl (by omega) (by decide)) ?_)
    exact ret_pl (.inr rfl) (retVs_2 (retV_mv rfl) (retV_mv rfl)) rfl rfl (by simp)
  · have c1 := con45_no a b r h1 h2 hG
    repeat (first | refine wG_call c1 rfl rfl ?_ | (first
    | refine wC_a rfl ?_
    | refine q_s rfl ?_
    | refine q_b rfl ?_
    | refine wG_nil ?_
    | refine wG_g rfl ?_
    | refine wG_pure (o_len_vwm rfl) ?_
    | refine wG_pure (o_not_d rfl) ?_
    | refine wG_p rfl (by first | exact rfl | omega) ?_
    | refine wG_pure (o_str2 rfl rfl rfl) ?_
    | refine wG_pure (e_istr rfl rfl (by omega)) ?_
    | refine wG_pure (e_istr0 rfl rfl (by omega)) ?_
    | refine wG_pure (o_not rfl) ?_
    | refine wG_pure (e_ia_vw0 rfl rfl (by omega) rfl) ?_
    | refine wG_pure (e_ia_vwp rfl rfl (by omega) rfl) ?_
    | refine wG_pure (e_ia_vwm rfl rfl (by omega) (by omega) rfl) ?_
    | refine wG_pure (e_ia_vwi rfl rfl (by omega) rfl) ?_
    | refine wG_pure (e_ia_vwn rfl rfl (by omega) (by omega) rfl) ?_
    | refine wG_n rfl rfl ?_
    | refine wG_u rfl rfl ?_
    | refine wG_new (o_mks rfl rfl (by omega) (by decide)) ?_))
    exact ret_pl (.inr rfl) (retVs_2 (retV_mv rfl) (retV_mv rfl)) rfl rfl (by simp)
end Go.Proofs.Ythicnjgdngfbkaa.Rec
