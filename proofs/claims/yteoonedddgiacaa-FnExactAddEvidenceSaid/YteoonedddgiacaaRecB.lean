/- Valid records, on both sides. -/
import Derived.Test.YteoonedddgiacaaRecA
namespace Go.Proofs.Yteoonedddgiacaa.Rec
open Go Go.Proofs.Yteoonedddgiacaa.Ab Go.Proofs.Yteoonedddgiacaa.Il
attribute [local irreducible] wpO wpC wpDr wpQ wpG wpE stepA seqQ blkQ Ret ev
set_option maxRecDepth 10000
set_option maxHeartbeats 8000000
set_option linter.unusedSimpArgs false
set_option linter.unusedVariables false

def ac56 : AC := (.seq (.reg [⟨(some 1), none, (.box 2 true (.t 0))⟩, ⟨(some 2), none, (.mv (.c (.bool false)))⟩]) (.seq (.seq (.reg [⟨(some 7), none, (.fa 0 (.t 1))⟩, ⟨(some 8), none, (.ld false 1 (.t 7))⟩, ⟨(some 9), none, (.len (.t 8))⟩, ⟨(some 10), none, (.bin .gtr (.t 9) (.c (.int .i64 10)))⟩, ⟨(some 11), none, (.mv (.t 10))⟩, ⟨(some 12), (some (11, false)), (.fa 1 (.t 1))⟩, ⟨(some 13), (some (11, false)), (.ld false 1 (.t 12))⟩, ⟨(some 14), (some (11, false)), (.len (.t 13))⟩, ⟨(some 15), (some (11, false)), (.bin .gtr (.t 14) (.c (.int .i64 24)))⟩, ⟨(some 16), none, (.pick (.t 11) (.c (.bool true)) (.t 15))⟩]) (.cond (.t 16) (.seq (.reg [⟨(some 2), none, (.mv (.c (.bool false)))⟩]) .ret) .skip)) (.seq (.seq (.reg [⟨(some 3), none, (.mv (.c (.int .i64 0)))⟩]) (.blk 0 (.loop (.seq (.seq (.reg [⟨(some 17), none, (.mv (.t 3))⟩, ⟨(some 18), none, (.fa 0 (.t 1))⟩, ⟨(some 19), none, (.ld false 1 (.t 18))⟩, ⟨(some 20), none, (.len (.t 19))⟩, ⟨(some 21), none, (.bin .lss (.t 17) (.t 20))⟩]) (.cond (.t 21) .skip (.exit 0))) (.seq (.blk 1 (.seq (.reg [⟨(some 24), none, (.fa 0 (.t 1))⟩, ⟨(some 25), none, (.ld false 1 (.t 24))⟩, ⟨(some 26), none, (.mv (.t 3))⟩, ⟨(some 27), none, (.ia 2 (.t 25) (.t 26))⟩, ⟨(some 28), none, (.ld true 2 (.t 27))⟩, ⟨(some 4), none, (.alloc [(.int .i64 0), (.int .i64 0)])⟩, ⟨none, none, (.st 2 (.t 4) (.t 28))⟩]) (.seq (.dreg [⟨(some 29), none, (.fa 0 (.t 4))⟩, ⟨(some 30), none, (.ld false 1 (.t 29))⟩, ⟨(some 31), none, (.call 65 [(.t 30), (.c (.int .i64 1)), (.c (.int .i64 999))])⟩, ⟨(some 32), none, (.un .not (.t 31))⟩, ⟨(some 33), none, (.mv (.t 32))⟩, ⟨(some 34), (some (33, false)), (.fa 1 (.t 4))⟩, ⟨(some 35), (some (33, false)), (.ld false 1 (.t 34))⟩, ⟨(some 36), (some (33, false)), (.call 65 [(.t 35), (.c (.int .i64 1)), (.c (.int .i64 4))])⟩, ⟨(some 37), (some (33, false)), (.un .not (.t 36))⟩, ⟨(some 38), none, (.pick (.t 33) (.c (.bool true)) (.t 37))⟩, ⟨(some 39), none, (.mv (.t 38))⟩, ⟨(some 40), (some (39, false)), (.mv (.t 3))⟩, ⟨(some 41), (some (39, false)), (.bin .gtr (.t 40) (.c (.int .i64 0)))⟩, ⟨(some 42), (some (39, false)), (.mv (.t 41))⟩, ⟨(some 43), (some (42, true)), (.fa 0 (.t 1))⟩, ⟨(some 44), (some (42, true)), (.ld false 1 (.t 43))⟩, ⟨(some 45), (some (42, true)), (.mv (.t 3))⟩, ⟨(some 46), (some (42, true)), (.bin .sub (.t 45) (.c (.int .i64 1)))⟩, ⟨(some 47), (some (42, true)), (.ia 2 (.t 44) (.t 46))⟩, ⟨(some 48), (some (42, true)), (.fa 0 (.t 47))⟩, ⟨(some 49), (some (42, true)), (.ld false 1 (.t 48))⟩, ⟨(some 50), (some (42, true)), (.fa 0 (.t 4))⟩, ⟨(some 51), (some (42, true)), (.ld false 1 (.t 50))⟩, ⟨(some 52), (some (42, true)), (.bin .geq (.t 49) (.t 51))⟩, ⟨(some 53), (some (39, false)), (.pick (.t 42) (.t 52) (.c (.bool false)))⟩, ⟨(some 54), none, (.pick (.t 39) (.c (.bool true)) (.t 53))⟩] [[], [0], [0, 1], [0, 1, 2], [0, 1, 2, 3], [0, 1, 2, 3, 4], [0, 1, 2, 3, 4, 5], [0, 1, 2, 3, 4, 5, 6], [0, 1, 2, 3, 4, 5, 6, 7], [0, 1, 2, 3, 4, 5, 6, 7, 8], [0, 1, 2, 3, 4, 5, 6, 7, 8, 9], [0, 1, 2, 3, 4, 5, 6, 7, 8, 9, 10], [0, 1, 2, 3, 4, 5, 6, 7, 8, 9, 10, 11], [0, 1, 2, 3, 4, 5, 6, 7, 8, 9, 10, 11, 12], [0, 1, 2, 3, 4, 5, 6, 7, 8, 9, 10, 11, 12, 13], [0, 1, 2, 3, 4, 5, 6, 7, 8, 9, 10, 11, 12, 13, 14], [0, 1, 2, 3, 4, 5, 6, 7, 8, 9, 10, 11, 12, 13], [0, 1, 2, 3, 4, 5, 6, 7, 8, 9, 10, 11, 12, 13, 16], [0, 1, 2, 3, 4, 5, 6, 7, 8, 9, 10, 11, 12, 13, 14, 15, 16, 17], [0, 1, 2, 3, 4, 5, 6, 7, 8, 9, 10, 11, 12, 13, 14, 15, 16, 17, 18], [0, 1, 2, 3, 4, 5, 6, 7, 8, 9, 10, 11, 12, 13, 14, 15, 16, 17, 18, 19], [0, 1, 2, 3, 4, 5, 6, 7, 8, 9, 10, 11, 12, 13], [0, 1, 2, 3, 4, 5, 6, 7, 8, 9, 10, 11, 12, 13, 21], [0, 1, 2, 3, 4, 5, 6, 7, 8, 9, 10, 11, 12, 13, 14, 15, 16, 17, 18, 19, 20, 21, 22], [0, 1, 2, 3, 4, 5, 6, 7, 8, 9, 10, 11, 12, 13, 14, 15, 16, 17, 18, 19, 20, 21, 22, 23], [0, 1, 2, 3, 4, 5, 6, 7, 8, 9, 10, 11, 12, 13, 14, 15, 16, 17, 18, 19, 20, 21, 22, 23, 24]]) (.cond (.t 54) (.seq (.reg [⟨(some 2), none, (.mv (.c (.bool false)))⟩]) .ret) .skip)))) (.reg [⟨(some 22), none, (.mv (.t 3))⟩, ⟨(some 23), none, (.bin .add (.t 22) (.c (.int .i64 1)))⟩, ⟨(some 3), none, (.mv (.t 23))⟩])))))) (.seq (.seq (.reg [⟨(some 5), none, (.mv (.c (.int .i64 0)))⟩]) (.blk 2 (.loop (.seq (.seq (.reg [⟨(some 55), none, (.mv (.t 5))⟩, ⟨(some 56), none, (.fa 1 (.t 1))⟩, ⟨(some 57), none, (.ld false 1 (.t 56))⟩, ⟨(some 58), none, (.len (.t 57))⟩, ⟨(some 59), none, (.bin .lss (.t 55) (.t 58))⟩]) (.cond (.t 59) .skip (.exit 2))) (.seq (.blk 3 (.seq (.reg [⟨(some 62), none, (.fa 1 (.t 1))⟩, ⟨(some 63), none, (.ld false 1 (.t 62))⟩, ⟨(some 64), none, (.mv (.t 5))⟩, ⟨(some 65), none, (.ia 2 (.t 63) (.t 64))⟩, ⟨(some 66), none, (.ld true 2 (.t 65))⟩, ⟨(some 6), none, (.alloc [(.int .i64 0), (.int .i64 0)])⟩, ⟨none, none, (.st 2 (.t 6) (.t 66))⟩]) (.seq (.dreg [⟨(some 67), none, (.fa 0 (.t 6))⟩, ⟨(some 68), none, (.ld false 1 (.t 67))⟩, ⟨(some 69), none, (.fa 1 (.t 6))⟩, ⟨(some 70), none, (.ld false 1 (.t 69))⟩, ⟨(some 71), none, (.bin .eql (.t 68) (.t 70))⟩, ⟨(some 72), none, (.mv (.t 71))⟩, ⟨(some 73), (some (72, false)), (.ld true 2 (.t 1))⟩, ⟨(some 74), (some (72, false)), (.fa 0 (.t 6))⟩, ⟨(some 75), (some (72, false)), (.ld false 1 (.t 74))⟩, ⟨(some 76), (some (72, false)), (.call 41 [(.t 73), (.t 75)])⟩, ⟨(some 77), (some (72, false)), (.bin .lss (.t 76) (.c (.int .i64 0)))⟩, ⟨(some 78), none, (.pick (.t 72) (.c (.bool true)) (.t 77))⟩, ⟨(some 79), none, (.mv (.t 78))⟩, ⟨(some 80), (some (79, false)), (.ld true 2 (.t 1))⟩, ⟨(some 81), (some (79, false)), (.fa 1 (.t 6))⟩, ⟨(some 82), (some (79, false)), (.ld false 1 (.t 81))⟩, ⟨(some 83), (some (79, false)), (.call 41 [(.t 80), (.t 82)])⟩, ⟨(some 84), (some (79, false)), (.bin .lss (.t 83) (.c (.int .i64 0)))⟩, ⟨(some 85), none, (.pick (.t 79) (.c (.bool true)) (.t 84))⟩, ⟨(some 86), none, (.mv (.t 85))⟩, ⟨(some 87), (some (86, false)), (.mv (.t 5))⟩, ⟨(some 88), (some (86, false)), (.bin .gtr (.t 87) (.c (.int .i64 0)))⟩, ⟨(some 89), (some (86, false)), (.mv (.t 88))⟩, ⟨(some 90), (some (89, true)), (.fa 1 (.t 1))⟩, ⟨(some 91), (some (89, true)), (.ld false 1 (.t 90))⟩, ⟨(some 92), (some (89, true)), (.mv (.t 5))⟩, ⟨(some 93), (some (89, true)), (.bin .sub (.t 92) (.c (.int .i64 1)))⟩, ⟨(some 94), (some (89, true)), (.ia 2 (.t 91) (.t 93))⟩, ⟨(some 95), (some (89, true)), (.ld true 2 (.t 94))⟩, ⟨(some 96), (some (89, true)), (.ld true 2 (.t 6))⟩, ⟨(some 97), (some (89, true)), (.call 66 [(.t 95), (.t 96)])⟩, ⟨(some 98), (some (89, true)), (.un .not (.t 97))⟩, ⟨(some 99), (some (86, false)), (.pick (.t 89) (.t 98) (.c (.bool false)))⟩, ⟨(some 100), none, (.pick (.t 86) (.c (.bool true)) (.t 99))⟩] [[], [0], [], [2], [0, 1, 2, 3], [0, 1, 2, 3, 4], [0, 1, 2, 3, 4, 5], [0, 1, 2, 3, 4, 5], [0, 1, 2, 3, 4, 5, 7], [0, 1, 2, 3, 4, 5, 6, 7, 8], [0, 1, 2, 3, 4, 5, 6, 7, 8, 9], [0, 1, 2, 3, 4, 5, 6, 7, 8, 9, 10], [0, 1, 2, 3, 4, 5, 6, 7, 8, 9, 10, 11], [0, 1, 2, 3, 4, 5, 6, 7, 8, 9, 10, 11, 12], [0, 1, 2, 3, 4, 5, 6, 7, 8, 9, 10, 11, 12], [0, 1, 2, 3, 4, 5, 6, 7, 8, 9, 10, 11, 12, 14], [0, 1, 2, 3, 4, 5, 6, 7, 8, 9, 10, 11, 12, 13, 14, 15], [0, 1, 2, 3, 4, 5, 6, 7, 8, 9, 10, 11, 12, 13, 14, 15, 16], [0, 1, 2, 3, 4, 5, 6, 7, 8, 9, 10, 11, 12, 13, 14, 15, 16, 17], [0, 1, 2, 3, 4, 5, 6, 7, 8, 9, 10, 11, 12, 13, 14, 15, 16, 17, 18], [0, 1, 2, 3, 4, 5, 6, 7, 8, 9, 10, 11, 12, 13, 14, 15, 16, 17, 18, 19], [0, 1, 2, 3, 4, 5, 6, 7, 8, 9, 10, 11, 12, 13, 14, 15, 16, 17, 18, 19, 20], [0, 1, 2, 3, 4, 5, 6, 7, 8, 9, 10, 11, 12, 13, 14, 15, 16, 17, 18, 19, 20, 21], [0, 1, 2, 3, 4, 5, 6, 7, 8, 9, 10, 11, 12, 13, 14, 15, 16, 17, 18, 19, 20, 21, 22], [0, 1, 2, 3, 4, 5, 6, 7, 8, 9, 10, 11, 12, 13, 14, 15, 16, 17, 18, 19, 20, 21, 22, 23], [0, 1, 2, 3, 4, 5, 6, 7, 8, 9, 10, 11, 12, 13, 14, 15, 16, 17, 18, 19, 20, 21, 22], [0, 1, 2, 3, 4, 5, 6, 7, 8, 9, 10, 11, 12, 13, 14, 15, 16, 17, 18, 19, 20, 21, 22, 25], [0, 1, 2, 3, 4, 5, 6, 7, 8, 9, 10, 11, 12, 13, 14, 15, 16, 17, 18, 19, 20, 21, 22, 23, 24, 25, 26], [0, 1, 2, 3, 4, 5, 6, 7, 8, 9, 10, 11, 12, 13, 14, 15, 16, 17, 18, 19, 20, 21, 22, 23, 24, 25, 26, 27], [0, 1, 2, 3, 4, 5, 6, 7, 8, 9, 10, 11, 12, 13, 14, 15, 16, 17, 18, 19, 20, 21, 22], [0, 1, 2, 3, 4, 5, 6, 7, 8, 9, 10, 11, 12, 13, 14, 15, 16, 17, 18, 19, 20, 21, 22, 23, 24, 25, 26, 27, 28, 29], [0, 1, 2, 3, 4, 5, 6, 7, 8, 9, 10, 11, 12, 13, 14, 15, 16, 17, 18, 19, 20, 21, 22, 23, 24, 25, 26, 27, 28, 29, 30], [0, 1, 2, 3, 4, 5, 6, 7, 8, 9, 10, 11, 12, 13, 14, 15, 16, 17, 18, 19, 20, 21, 22, 23, 24, 25, 26, 27, 28, 29, 30, 31], [0, 1, 2, 3, 4, 5, 6, 7, 8, 9, 10, 11, 12, 13, 14, 15, 16, 17, 18, 19, 20, 21, 22, 23, 24, 25, 26, 27, 28, 29, 30, 31, 32]]) (.cond (.t 100) (.seq (.reg [⟨(some 2), none, (.mv (.c (.bool false)))⟩]) .ret) .skip)))) (.reg [⟨(some 60), none, (.mv (.t 5))⟩, ⟨(some 61), none, (.bin .add (.t 60) (.c (.int .i64 1)))⟩, ⟨(some 5), none, (.mv (.t 61))⟩])))))) (.seq (.reg [⟨(some 2), none, (.mv (.c (.bool true)))⟩]) .ret)))))
def ro56 : List AOp := [(.mv (.t 2))]
theorem fun56 : Fun Try.prog 56 101 ac56 ro56 := ⟨Try.f56, _, Try.func56, by kernel_rfl, rfl, rfl, by kernel_rfl, by kernel_rfl, by decide⟩
def ac61 : AC := (.seq (.reg [⟨(some 1), none, (.box 2 true (.t 0))⟩, ⟨(some 2), none, (.mv (.c (.bool false)))⟩]) (.seq (.seq (.reg [⟨(some 7), none, (.fa 0 (.t 1))⟩, ⟨(some 8), none, (.ld false 1 (.t 7))⟩, ⟨(some 9), none, (.len (.t 8))⟩, ⟨(some 10), none, (.bin .gtr (.t 9) (.c (.int .i64 10)))⟩, ⟨(some 11), none, (.mv (.t 10))⟩, ⟨(some 12), (some (11, false)), (.fa 1 (.t 1))⟩, ⟨(some 13), (some (11, false)), (.ld false 1 (.t 12))⟩, ⟨(some 14), (some (11, false)), (.len (.t 13))⟩, ⟨(some 15), (some (11, false)), (.bin .gtr (.t 14) (.c (.int .i64 24)))⟩, ⟨(some 16), none, (.pick (.t 11) (.c (.bool true)) (.t 15))⟩]) (.cond (.t 16) (.seq (.reg [⟨(some 2), none, (.mv (.c (.bool false)))⟩]) .ret) .skip)) (.seq (.seq (.reg [⟨(some 17), none, (.fa 0 (.t 1))⟩, ⟨(some 18), none, (.ld false 1 (.t 17))⟩, ⟨(some 19), none, (.len (.t 18))⟩, ⟨(some 20), none, (.mv (.c (.int .i64 0)))⟩]) (.blk 0 (.loop (.seq (.reg [⟨(some 21), none, (.bin .lss (.t 20) (.t 19))⟩]) (.seq (.cond (.t 21) .skip (.exit 0)) (.seq (.blk 1 (.seq (.reg [⟨(some 22), none, (.mv (.t 20))⟩, ⟨(some 23), none, (.ia 2 (.t 18) (.t 20))⟩, ⟨(some 24), none, (.ld true 2 (.t 23))⟩, ⟨(some 4), none, (.alloc [(.int .i64 0), (.int .i64 0)])⟩, ⟨(some 3), none, (.mv (.t 22))⟩, ⟨none, none, (.st 2 (.t 4) (.t 24))⟩]) (.seq (.dreg [⟨(some 25), none, (.fa 0 (.t 4))⟩, ⟨(some 26), none, (.ld false 1 (.t 25))⟩, ⟨(some 27), none, (.call 70 [(.t 26)])⟩, ⟨(some 28), none, (.un .not (.t 27))⟩, ⟨(some 29), none, (.mv (.t 28))⟩, ⟨(some 30), (some (29, false)), (.fa 1 (.t 4))⟩, ⟨(some 31), (some (29, false)), (.ld false 1 (.t 30))⟩, ⟨(some 32), (some (29, false)), (.call 71 [(.t 31)])⟩, ⟨(some 33), (some (29, false)), (.un .not (.t 32))⟩, ⟨(some 34), none, (.pick (.t 29) (.c (.bool true)) (.t 33))⟩, ⟨(some 35), none, (.mv (.t 34))⟩, ⟨(some 36), (some (35, false)), (.mv (.t 3))⟩, ⟨(some 37), (some (35, false)), (.bin .gtr (.t 36) (.c (.int .i64 0)))⟩, ⟨(some 38), (some (35, false)), (.mv (.t 37))⟩, ⟨(some 39), (some (38, true)), (.fa 0 (.t 4))⟩, ⟨(some 40), (some (38, true)), (.ld false 1 (.t 39))⟩, ⟨(some 41), (some (38, true)), (.fa 0 (.t 1))⟩, ⟨(some 42), (some (38, true)), (.ld false 1 (.t 41))⟩, ⟨(some 43), (some (38, true)), (.mv (.t 3))⟩, ⟨(some 44), (some (38, true)), (.bin .sub (.t 43) (.c (.int .i64 1)))⟩, ⟨(some 45), (some (38, true)), (.ia 2 (.t 42) (.t 44))⟩, ⟨(some 46), (some (38, true)), (.fa 0 (.t 45))⟩, ⟨(some 47), (some (38, true)), (.ld false 1 (.t 46))⟩, ⟨(some 48), (some (38, true)), (.bin .leq (.t 40) (.t 47))⟩, ⟨(some 49), (some (35, false)), (.pick (.t 38) (.t 48) (.c (.bool false)))⟩, ⟨(some 50), none, (.pick (.t 35) (.c (.bool true)) (.t 49))⟩] [[], [0], [0, 1], [0, 1, 2], [0, 1, 2, 3], [0, 1, 2, 3, 4], [0, 1, 2, 3, 4, 5], [0, 1, 2, 3, 4, 5, 6], [0, 1, 2, 3, 4, 5, 6, 7], [0, 1, 2, 3, 4, 5, 6, 7, 8], [0, 1, 2, 3, 4, 5, 6, 7, 8, 9], [0, 1, 2, 3, 4, 5, 6, 7, 8, 9, 10], [0, 1, 2, 3, 4, 5, 6, 7, 8, 9, 10, 11], [0, 1, 2, 3, 4, 5, 6, 7, 8, 9, 10, 11, 12], [0, 1, 2, 3, 4, 5, 6, 7, 8, 9, 10, 11, 12, 13], [0, 1, 2, 3, 4, 5, 6, 7, 8, 9, 10, 11, 12, 13, 14], [0, 1, 2, 3, 4, 5, 6, 7, 8, 9, 10, 11, 12, 13], [0, 1, 2, 3, 4, 5, 6, 7, 8, 9, 10, 11, 12, 13, 16], [0, 1, 2, 3, 4, 5, 6, 7, 8, 9, 10, 11, 12, 13], [0, 1, 2, 3, 4, 5, 6, 7, 8, 9, 10, 11, 12, 13, 18], [0, 1, 2, 3, 4, 5, 6, 7, 8, 9, 10, 11, 12, 13, 16, 17, 18, 19], [0, 1, 2, 3, 4, 5, 6, 7, 8, 9, 10, 11, 12, 13, 16, 17, 18, 19, 20], [0, 1, 2, 3, 4, 5, 6, 7, 8, 9, 10, 11, 12, 13, 16, 17, 18, 19, 20, 21], [0, 1, 2, 3, 4, 5, 6, 7, 8, 9, 10, 11, 12, 13, 14, 15, 16, 17, 18, 19, 20, 21, 22], [0, 1, 2, 3, 4, 5, 6, 7, 8, 9, 10, 11, 12, 13, 14, 15, 16, 17, 18, 19, 20, 21, 22, 23], [0, 1, 2, 3, 4, 5, 6, 7, 8, 9, 10, 11, 12, 13, 14, 15, 16, 17, 18, 19, 20, 21, 22, 23, 24]]) (.cond (.t 50) (.seq (.reg [⟨(some 2), none, (.mv (.c (.bool false)))⟩]) .ret) .skip)))) (.reg [⟨(some 51), none, (.bin .add (.t 20) (.c (.int .i64 1)))⟩, ⟨(some 20), none, (.mv (.t 51))⟩]))))))) (.seq (.seq (.reg [⟨(some 52), none, (.fa 1 (.t 1))⟩, ⟨(some 53), none, (.ld false 1 (.t 52))⟩, ⟨(some 54), none, (.len (.t 53))⟩, ⟨(some 55), none, (.mv (.c (.int .i64 0)))⟩]) (.blk 2 (.loop (.seq (.reg [⟨(some 56), none, (.bin .lss (.t 55) (.t 54))⟩]) (.seq (.cond (.t 56) .skip (.exit 2)) (.seq (.blk 3 (.seq (.reg [⟨(some 57), none, (.mv (.t 55))⟩, ⟨(some 58), none, (.ia 2 (.t 53) (.t 55))⟩, ⟨(some 59), none, (.ld true 2 (.t 58))⟩, ⟨(some 6), none, (.alloc [(.int .i64 0), (.int .i64 0)])⟩, ⟨(some 5), none, (.mv (.t 57))⟩, ⟨none, none, (.st 2 (.t 6) (.t 59))⟩]) (.seq (.seq (.reg [⟨(some 60), none, (.fa 0 (.t 6))⟩, ⟨(some 61), none, (.ld false 1 (.t 60))⟩, ⟨(some 62), none, (.fa 1 (.t 6))⟩, ⟨(some 63), none, (.ld false 1 (.t 62))⟩, ⟨(some 64), none, (.bin .eql (.t 61) (.t 63))⟩, ⟨(some 65), none, (.mv (.t 64))⟩, ⟨(some 66), (some (65, false)), (.ld true 2 (.t 1))⟩, ⟨(some 67), (some (65, false)), (.fa 0 (.t 6))⟩, ⟨(some 68), (some (65, false)), (.ld false 1 (.t 67))⟩, ⟨(some 69), (some (65, false)), (.call 27 [(.t 66), (.t 68)])⟩, ⟨(some 70), (some (65, false)), (.bin .lss (.t 69) (.c (.int .i64 0)))⟩, ⟨(some 71), none, (.pick (.t 65) (.c (.bool true)) (.t 70))⟩, ⟨(some 72), none, (.mv (.t 71))⟩, ⟨(some 73), (some (72, false)), (.ld true 2 (.t 1))⟩, ⟨(some 74), (some (72, false)), (.fa 1 (.t 6))⟩, ⟨(some 75), (some (72, false)), (.ld false 1 (.t 74))⟩, ⟨(some 76), (some (72, false)), (.call 27 [(.t 73), (.t 75)])⟩, ⟨(some 77), (some (72, false)), (.bin .lss (.t 76) (.c (.int .i64 0)))⟩, ⟨(some 78), none, (.pick (.t 72) (.c (.bool true)) (.t 77))⟩]) (.cond (.t 78) (.seq (.reg [⟨(some 2), none, (.mv (.c (.bool false)))⟩]) .ret) .skip)) (.seq (.dreg [⟨(some 79), none, (.mv (.t 5))⟩, ⟨(some 80), none, (.bin .gtr (.t 79) (.c (.int .i64 0)))⟩, ⟨(some 81), none, (.mv (.t 80))⟩, ⟨(some 82), (some (81, true)), (.fa 1 (.t 1))⟩, ⟨(some 83), (some (81, true)), (.ld false 1 (.t 82))⟩, ⟨(some 84), (some (81, true)), (.mv (.t 5))⟩, ⟨(some 85), (some (81, true)), (.bin .sub (.t 84) (.c (.int .i64 1)))⟩, ⟨(some 86), (some (81, true)), (.ia 2 (.t 83) (.t 85))⟩, ⟨(some 87), (some (81, true)), (.ld true 2 (.t 86))⟩, ⟨(some 88), (some (81, true)), (.ld true 2 (.t 6))⟩, ⟨(some 89), (some (81, true)), (.call 72 [(.t 87), (.t 88)])⟩, ⟨(some 90), (some (81, true)), (.bin .geq (.t 89) (.c (.int .i64 0)))⟩, ⟨(some 91), none, (.pick (.t 81) (.t 90) (.c (.bool false)))⟩] [[], [0], [0, 1], [0, 1, 2], [0, 1, 2, 3], [0, 1, 2], [0, 1, 2, 5], [0, 1, 2, 3, 4, 5, 6], [0, 1, 2, 3, 4, 5, 6, 7], [0, 1, 2], [0, 1, 2, 3, 4, 5, 6, 7, 8, 9], [0, 1, 2, 3, 4, 5, 6, 7, 8, 9, 10], [0, 1, 2, 3, 4, 5, 6, 7, 8, 9, 10, 11]]) (.cond (.t 91) (.seq (.reg [⟨(some 2), none, (.mv (.c (.bool false)))⟩]) .ret) .skip))))) (.reg [⟨(some 92), none, (.bin .add (.t 55) (.c (.int .i64 1)))⟩, ⟨(some 55), none, (.mv (.t 92))⟩]))))))) (.seq (.reg [⟨(some 2), none, (.mv (.c (.bool true)))⟩]) .ret)))))
def ro61 : List AOp := [(.mv (.t 2))]
theorem fun61 : Fun Try.prog 61 93 ac61 ro61 := ⟨Try.f61, _, Try.func61, by kernel_rfl, rfl, rfl, by kernel_rfl, by kernel_rfl, by decide⟩

def okC (r : Rc) (i : Nat) : Prop := (1 ≤ (r.cs.getD i default).n ∧ (r.cs.getD i default).n ≤ 999) ∧ (1 ≤ (r.cs.getD i default).k ∧ (r.cs.getD i default).k ≤ 4) ∧ (0 < i → (r.cs.getD (i - 1) default).n < (r.cs.getD i default).n)
def okX (r : Rc) (i : Nat) : Prop := (r.xs.getD i default).u ≠ (r.xs.getD i default).l ∧ 0 ≤ idx r (r.xs.getD i default).u ∧ 0 ≤ idx r (r.xs.getD i default).l ∧ (0 < i → befX (r.xs.getD (i - 1) default) (r.xs.getD i default))
def GoodR (r : Rc) : Prop := r.cs.length ≤ 10 ∧ r.xs.length ≤ 24 ∧ (∀ i, i < r.cs.length → okC r i) ∧ ∀ i, i < r.xs.length → okX r i
open Classical in
theorem con56 (a b : Bool) (r : Rc) (h1 : r.cs.length ≤ 1048576) (h2 : r.xs.length ≤ 1048576) : Con Try.prog 56 true [.agg (rRow a b r)] (.bool (decide (GoodR r))) [] := by
  refine con_of_wp mixed fun56 (by simp) [] plain_nil ?_
  unfold ac56 ro56
  simp only [zipT]
  have cf := fun m => con41 a b r m h1
  by_cases hl : r.cs.length ≤ 10 ∧ r.xs.length ≤ 24
  · repeat' (first | (first
    | refine wC_a rfl ?_
    | refine q_s rfl ?_
    | refine q_b rfl ?_
    | refine wG_nil ?_
    | refine wG_g rfl ?_
    | refine wG_pure (o_len_vwm rfl) ?_
    | refine wG_pure (o_not_d rfl) ?_
    | refine wG_p rfl (by first | exact rfl | omega) ?_
    | refine wG_pure (o_str2 rfl rfl rfl) ?_
    | refine wG_pure (e_istr rfl rfl (by omega)) ?_
    | refine wG_pure (e_istr0 rfl rfl (by omega)) ?_
    | refine wG_pure (o_not rfl) ?_
    | refine wG_pure (e_ia_vw0 rfl rfl (by omega) rfl) ?_
    | refine wG_pure (e_ia_vwp rfl rfl (by omega) rfl) ?_
    | refine wG_pure (e_ia_vwm rfl rfl (by omega) (by omega) rfl) ?_
    | refine wG_pure (e_ia_vwi rfl rfl (by omega) rfl) ?_
    | refine wG_pure (e_ia_vwn rfl rfl (by omega) (by omega) rfl) ?_
    | refine wG_n rfl rfl ?_
    | refine wG_u rfl rfl ?_
    | refine wG_new (o_mks rfl rfl (by omega) (by decide)) ?_) | (refine wG_gd rfl (fun hgt => ?_) (fun hgf => ?_) <;> (first | simp only [eq_true hgt, decide_true] | simp only [eq_false hgf, decide_false])) | refine wC_cond_d rfl (fun hg => ?_) (fun hg => ?_))
    any_goals (exfalso; omega)
    refine wC_loop Nat (fun i => ⟨[(1, .pt 0 0 0), (3, .int .i64 (i : Int))], [(0, some [[.vw a (r.cs.map cRow), .vw b (r.xs.map xRow)]])], 1⟩) (fun i => i ≤ r.cs.length ∧ ∀ j, j < i → okC r j) (fun i => r.cs.length - i) 0 ⟨Nat.zero_le _, fun j hj => absurd hj (Nat.not_lt_zero _)⟩ ?_ (fun _ _ => Nat.zero_le _) ?_
    · simp [LeP, leT, leH, lk, AV.ltr, ltrL, Ab.hg, upd, -List.getD_eq_getElem?_getD, -Int.default_eq_zero]
    rintro i ⟨hi, hok⟩
    by_cases hi2 : i < r.cs.length
    · repeat' (first | refine wG_call (con65 _ _ _) rfl rfl ?_ | (first
    | refine wC_a rfl ?_
    | refine q_s rfl ?_
    | refine q_b rfl ?_
    | refine wG_nil ?_
    | refine wG_g rfl ?_
    | refine wG_pure (o_len_vwm rfl) ?_
    | refine wG_pure (o_not_d rfl) ?_
    | refine wG_p rfl (by first | exact rfl | omega) ?_
    | refine wG_pure (o_str2 rfl rfl rfl) ?_
    | refine wG_pure (e_istr rfl rfl (by omega)) ?_
    | refine wG_pure (e_istr0 rfl rfl (by omega)) ?_
    | refine wG_pure (o_not rfl) ?_
    | refine wG_pure (e_ia_vw0 rfl rfl (by omega) rfl) ?_
    | refine wG_pure (e_ia_vwp rfl rfl (by omega) rfl) ?_
    | refine wG_pure (e_ia_vwm rfl rfl (by omega) (by omega) rfl) ?_
    | refine wG_pure (e_ia_vwi rfl rfl (by omega) rfl) ?_
    | refine wG_pure (e_ia_vwn rfl rfl (by omega) (by omega) rfl) ?_
    | refine wG_n rfl rfl ?_
    | refine wG_u rfl rfl ?_
    | refine wG_new (o_mks rfl rfl (by omega) (by decide)) ?_) | (refine wG_gd rfl (fun hgt => ?_) (fun hgf => ?_) <;> (first | simp only [eq_true hgt, decide_true] | simp only [eq_false hgf, decide_false])) | refine wC_cond_d rfl (fun hg => ?_) (fun hg => ?_))
      any_goals (exfalso; omega)
      all_goals (first
        | (refine ret_boolE (.inr rfl) ⟨_, retV_mv rfl, Eq.symm (decide_eq_false fun hG => ?_)⟩
           obtain ⟨g1, g2, g3⟩ := hG.2.2.1 i hi2
           omega)
        | (refine ⟨i + 1, ⟨by omega, fun j hj => ?_⟩, by omega, by simp [LeP, leT, leH, lk, AV.ltr, ltrL, Ab.hg, upd, -List.getD_eq_getElem?_getD, -Int.default_eq_zero]⟩
           rcases Nat.lt_or_ge j i with hji | hji
           · exact hok j hji
           · obtain rfl : j = i := by omega
             unfold okC; omega))
    · have hi3 : i = r.cs.length := by omega
      subst hi3
      repeat' (first | (first
    | refine wC_a rfl ?_
    | refine q_s rfl ?_
    | refine q_b rfl ?_
    | refine wG_nil ?_
    | refine wG_g rfl ?_
    | refine wG_pure (o_len_vwm rfl) ?_
    | refine wG_pure (o_not_d rfl) ?_
    | refine wG_p rfl (by first | exact rfl | omega) ?_
    | refine wG_pure (o_str2 rfl rfl rfl) ?_
    | refine wG_pure (e_istr rfl rfl (by omega)) ?_
    | refine wG_pure (e_istr0 rfl rfl (by omega)) ?_
    | refine wG_pure (o_not rfl) ?_
    | refine wG_pure (e_ia_vw0 rfl rfl (by omega) rfl) ?_
    | refine wG_pure (e_ia_vwp rfl rfl (by omega) rfl) ?_
    | refine wG_pure (e_ia_vwm rfl rfl (by omega) (by omega) rfl) ?_
    | refine wG_pure (e_ia_vwi rfl rfl (by omega) rfl) ?_
    | refine wG_pure (e_ia_vwn rfl rfl (by omega) (by omega) rfl) ?_
    | refine wG_n rfl rfl ?_
    | refine wG_u rfl rfl ?_
    | refine wG_new (o_mks rfl rfl (by omega) (by decide)) ?_) | (refine wG_gd rfl (fun hgt => ?_) (fun hgf => ?_) <;> (first | simp only [eq_true hgt, decide_true] | simp only [eq_false hgf, decide_false])) | refine wC_cond_d rfl (fun hg => ?_) (fun hg => ?_))
      any_goals (exfalso; omega)
      refine wC_loop Nat (fun i => ⟨[(1, .pt 0 0 0), (5, .int .i64 (i : Int))], [(0, some [[.vw a (r.cs.map cRow), .vw b (r.xs.map xRow)]])], 1⟩) (fun i => i ≤ r.xs.length ∧ ∀ j, j < i → okX r j) (fun i => r.xs.length - i) 0 ⟨Nat.zero_le _, fun j hj => absurd hj (Nat.not_lt_zero _)⟩ ?_ (fun _ _ => Nat.zero_le _) ?_
      · simp [LeP, leT, leH, lk, AV.ltr, ltrL, Ab.hg, upd, -List.getD_eq_getElem?_getD, -Int.default_eq_zero]
      rintro i ⟨hi, hokx⟩
      by_cases hi2 : i < r.xs.length
      · repeat' (first | refine wG_call (cf _) rfl rfl ?_ | refine wG_call (con66 (r.xs.getD (i - 1) default) (r.xs.getD i default)) rfl rfl ?_ | (first
    | refine wC_a rfl ?_
    | refine q_s rfl ?_
    | refine q_b rfl ?_
    | refine wG_nil ?_
    | refine wG_g rfl ?_
    | refine wG_pure (o_len_vwm rfl) ?_
    | refine wG_pure (o_not_d rfl) ?_
    | refine wG_p rfl (by first | exact rfl | omega) ?_
    | refine wG_pure (o_str2 rfl rfl rfl) ?_
    | refine wG_pure (e_istr rfl rfl (by omega)) ?_
    | refine wG_pure (e_istr0 rfl rfl (by omega)) ?_
    | refine wG_pure (o_not rfl) ?_
    | refine wG_pure (e_ia_vw0 rfl rfl (by omega) rfl) ?_
    | refine wG_pure (e_ia_vwp rfl rfl (by omega) rfl) ?_
    | refine wG_pure (e_ia_vwm rfl rfl (by omega) (by omega) rfl) ?_
    | refine wG_pure (e_ia_vwi rfl rfl (by omega) rfl) ?_
    | refine wG_pure (e_ia_vwn rfl rfl (by omega) (by omega) rfl) ?_
    | refine wG_n rfl rfl ?_
    | refine wG_u rfl rfl ?_
    | refine wG_new (o_mks rfl rfl (by omega) (by decide)) ?_) | (refine wG_gd rfl (fun hgt => ?_) (fun hgf => ?_) <;> (first | simp only [eq_true hgt, decide_true] | simp only [eq_false hgf, decide_false])) | refine wC_cond_d rfl (fun hg => ?_) (fun hg => ?_))
        any_goals (exfalso; omega)
        all_goals (try simp only [Classical.not_not] at *)
        all_goals (first
          | (refine ret_boolE (.inr rfl) ⟨_, retV_mv rfl, Eq.symm (decide_eq_false fun hG => ?_)⟩
             obtain ⟨g1, g2, g3, g4⟩ := hG.2.2.2 i hi2
             first | omega | contradiction | (have := g4 (by omega); contradiction))
          | (refine ⟨i + 1, ⟨by omega, fun j hj => ?_⟩, by omega, by simp [LeP, leT, leH, lk, AV.ltr, ltrL, Ab.hg, upd, -List.getD_eq_getElem?_getD, -Int.default_eq_zero]⟩
             rcases Nat.lt_or_ge j i with hji | hji
             · exact hokx j hji
             · obtain rfl : j = i := by omega
               refine ⟨by assumption, by omega, by omega, fun h0 => ?_⟩
               first | assumption | (exfalso; omega)))
      · have hi3 : i = r.xs.length := by omega
        subst hi3
        repeat' (first | (first
    | refine wC_a rfl ?_
    | refine q_s rfl ?_
    | refine q_b rfl ?_
    | refine wG_nil ?_
    | refine wG_g rfl ?_
    | refine wG_pure (o_len_vwm rfl) ?_
    | refine wG_pure (o_not_d rfl) ?_
    | refine wG_p rfl (by first | exact rfl | omega) ?_
    | refine wG_pure (o_str2 rfl rfl rfl) ?_
    | refine wG_pure (e_istr rfl rfl (by omega)) ?_
    | refine wG_pure (e_istr0 rfl rfl (by omega)) ?_
    | refine wG_pure (o_not rfl) ?_
    | refine wG_pure (e_ia_vw0 rfl rfl (by omega) rfl) ?_
    | refine wG_pure (e_ia_vwp rfl rfl (by omega) rfl) ?_
    | refine wG_pure (e_ia_vwm rfl rfl (by omega) (by omega) rfl) ?_
    | refine wG_pure (e_ia_vwi rfl rfl (by omega) rfl) ?_
    | refine wG_pure (e_ia_vwn rfl rfl (by omega) (by omega) rfl) ?_
    | refine wG_n rfl rfl ?_
    | refine wG_u rfl rfl ?_
    | refine wG_new (o_mks rfl rfl (by omega) (by decide)) ?_) | (refine wG_gd rfl (fun hgt => ?_) (fun hgf => ?_) <;> (first | simp only [eq_true hgt, decide_true] | simp only [eq_false hgf, decide_false])) | refine wC_cond_d rfl (fun hg => ?_) (fun hg => ?_))
        any_goals (exfalso; omega)
        exact ret_boolE (.inr rfl) ⟨_, retV_mv rfl, Eq.symm (decide_eq_true ⟨hl.1, hl.2, hok, hokx⟩)⟩
  · repeat' (first | (first
    | refine wC_a rfl ?_
    | refine q_s rfl ?_
    | refine q_b rfl ?_
    | refine wG_nil ?_
    | refine wG_g rfl ?_
    | refine wG_pure (o_len_vwm rfl) ?_
    | refine wG_pure (o_not_d rfl) ?_
    | refine wG_p rfl (by first | exact rfl | omega) ?_
    | refine wG_pure (o_str2 rfl rfl rfl) ?_
    | refine wG_pure (e_istr rfl rfl (by omega)) ?_
    | refine wG_pure (e_istr0 rfl rfl (by omega)) ?_
    | refine wG_pure (o_not rfl) ?_
    | refine wG_pure (e_ia_vw0 rfl rfl (by omega) rfl) ?_
    | refine wG_pure (e_ia_vwp rfl rfl (by omega) rfl) ?_
    | refine wG_pure (e_ia_vwm rfl rfl (by omega) (by omega) rfl) ?_
    | refine wG_pure (e_ia_vwi rfl rfl (by omega) rfl) ?_
    | refine wG_pure (e_ia_vwn rfl rfl (by omega) (by omega) rfl) ?_
    | refine wG_n rfl rfl ?_
    | refine wG_u rfl rfl ?_
    | refine wG_new (o_mks rfl rfl (by omega) (by decide)) ?_) | (refine wG_gd rfl (fun hgt => ?_) (fun hgf => ?_) <;> (first | simp only [eq_true hgt, decide_true] | simp only [eq_false hgf, decide_false])) | refine wC_cond_d rfl (fun hg => ?_) (fun hg => ?_))
    any_goals (exfalso; omega)
    all_goals (refine ret_boolE (.inr rfl) ⟨_, retV_mv rfl, Eq.symm (decide_eq_false fun hG => ?_)⟩; have := hG.1; have := hG.2.1; omega)
open Classical in
theorem con61 (a b : Bool) (r : Rc) (h1 : r.cs.length ≤ 1048576) (h2 : r.xs.length ≤ 1048576) : Con Try.prog 61 true [.agg (rRow a b r)] (.bool (decide (GoodR r))) [] := by
  refine con_of_wp mixed fun61 (by simp) [] plain_nil ?_
  unfold ac61 ro61
  simp only [zipT]
  have cf := fun m => con27 a b r m h1
  by_cases hl : r.cs.length ≤ 10 ∧ r.xs.length ≤ 24
  · repeat' (first | (first
    | refine wC_a rfl ?_
    | refine q_s rfl ?_
    | refine q_b rfl ?_
    | refine wG_nil ?_
    | refine wG_g rfl ?_
    | refine wG_pure (o_len_vwm rfl) ?_
    | refine wG_pure (o_not_d rfl) ?_
    | refine wG_p rfl (by first | exact rfl | omega) ?_
    | refine wG_pure (o_str2 rfl rfl rfl) ?_
    | refine wG_pure (e_istr rfl rfl (by omega)) ?_
    | refine wG_pure (e_istr0 rfl rfl (by omega)) ?_
    | refine wG_pure (o_not rfl) ?_
    | refine wG_pure (e_ia_vw0 rfl rfl (by omega) rfl) ?_
    | refine wG_pure (e_ia_vwp rfl rfl (by omega) rfl) ?_
    | refine wG_pure (e_ia_vwm rfl rfl (by omega) (by omega) rfl) ?_
    | refine wG_pure (e_ia_vwi rfl rfl (by omega) rfl) ?_
    | refine wG_pure (e_ia_vwn rfl rfl (by omega) (by omega) rfl) ?_
    | refine wG_n rfl rfl ?_
    | refine wG_u rfl rfl ?_
    | refine wG_new (o_mks rfl rfl (by omega) (by decide)) ?_) | (refine wG_gd rfl (fun hgt => ?_) (fun hgf => ?_) <;> (first | simp only [eq_true hgt, decide_true] | simp only [eq_false hgf, decide_false])) | refine wC_cond_d rfl (fun hg => ?_) (fun hg => ?_))
    any_goals (exfalso; omega)
    refine wC_loop Nat (fun i => ⟨[(1, .pt 0 0 0), (18, .vw a (r.cs.map cRow)), (19, .int .i64 (r.cs.length : Int)), (20, .int .i64 (i : Int))], [(0, some [[.vw a (r.cs.map cRow), .vw b (r.xs.map xRow)]])], 1⟩) (fun i => i ≤ r.cs.length ∧ ∀ j, j < i → okC r j) (fun i => r.cs.length - i) 0 ⟨Nat.zero_le _, fun j hj => absurd hj (Nat.not_lt_zero _)⟩ ?_ (fun _ _ => Nat.zero_le _) ?_
    · simp [LeP, leT, leH, lk, AV.ltr, ltrL, Ab.hg, upd, -List.getD_eq_getElem?_getD, -Int.default_eq_zero]
    rintro i ⟨hi, hok⟩
    by_cases hi2 : i < r.cs.length
    · repeat' (first | refine wG_call (con70 _) rfl rfl ?_ | refine wG_call (con71 _) rfl rfl ?_ | (first
    | refine wC_a rfl ?_
    | refine q_s rfl ?_
    | refine q_b rfl ?_
    | refine wG_nil ?_
    | refine wG_g rfl ?_
    | refine wG_pure (o_len_vwm rfl) ?_
    | refine wG_pure (o_not_d rfl) ?_
    | refine wG_p rfl (by first | exact rfl | omega) ?_
    | refine wG_pure (o_str2 rfl rfl rfl) ?_
    | refine wG_pure (e_istr rfl rfl (by omega)) ?_
    | refine wG_pure (e_istr0 rfl rfl (by omega)) ?_
    | refine wG_pure (o_not rfl) ?_
    | refine wG_pure (e_ia_vw0 rfl rfl (by omega) rfl) ?_
    | refine wG_pure (e_ia_vwp rfl rfl (by omega) rfl) ?_
    | refine wG_pure (e_ia_vwm rfl rfl (by omega) (by omega) rfl) ?_
    | refine wG_pure (e_ia_vwi rfl rfl (by omega) rfl) ?_
    | refine wG_pure (e_ia_vwn rfl rfl (by omega) (by omega) rfl) ?_
    | refine wG_n rfl rfl ?_
    | refine wG_u rfl rfl ?_
    | refine wG_new (o_mks rfl rfl (by omega) (by decide)) ?_) | (refine wG_gd rfl (fun hgt => ?_) (fun hgf => ?_) <;> (first | simp only [eq_true hgt, decide_true] | simp only [eq_false hgf, decide_false])) | refine wC_cond_d rfl (fun hg => ?_) (fun hg => ?_))
      any_goals (exfalso; omega)
      all_goals (first
        | (refine ret_boolE (.inr rfl) ⟨_, retV_mv rfl, Eq.symm (decide_eq_false fun hG => ?_)⟩
           obtain ⟨g1, g2, g3⟩ := hG.2.2.1 i hi2
           omega)
        | (refine ⟨i + 1, ⟨by omega, fun j hj => ?_⟩, by omega, by simp [LeP, leT, leH, lk, AV.ltr, ltrL, Ab.hg, upd, -List.getD_eq_getElem?_getD, -Int.default_eq_zero]⟩
           rcases Nat.lt_or_ge j i with hji | hji
           · exact hok j hji
           · obtain rfl : j = i := by omega
             unfold okC; omega))
    · have hi3 : i = r.cs.length := by omega
      subst hi3
      repeat' (first | (first
    | refine wC_a rfl ?_
    | refine q_s rfl ?_
    | refine q_b rfl ?_
    | refine wG_nil ?_
    | refine wG_g rfl ?_
    | refine wG_pure (o_len_vwm rfl) ?_
    | refine wG_pure (o_not_d rfl) ?_
    | refine wG_p rfl (by first | exact rfl | omega) ?_
    | refine wG_pure (o_str2 rfl rfl rfl) ?_
    | refine wG_pure (e_istr rfl rfl (by omega)) ?_
    | refine wG_pure (e_istr0 rfl rfl (by omega)) ?_
    | refine wG_pure (o_not rfl) ?_
    | refine wG_pure (e_ia_vw0 rfl rfl (by omega) rfl) ?_
    | refine wG_pure (e_ia_vwp rfl rfl (by omega) rfl) ?_
    | refine wG_pure (e_ia_vwm rfl rfl (by omega) (by omega) rfl) ?_
    | refine wG_pure (e_ia_vwi rfl rfl (by omega) rfl) ?_
    | refine wG_pure (e_ia_vwn rfl rfl (by omega) (by omega) rfl) ?_
    | refine wG_n rfl rfl ?_
    | refine wG_u rfl rfl ?_
    | refine wG_new (o_mks rfl rfl (by omega) (by decide)) ?_) | (refine wG_gd rfl (fun hgt => ?_) (fun hgf => ?_) <;> (first | simp only [eq_true hgt, decide_true] | simp only [eq_false hgf, decide_false])) | refine wC_cond_d rfl (fun hg => ?_) (fun hg => ?_))
      any_goals (exfalso; omega)
      refine wC_loop Nat (fun i => ⟨[(1, .pt 0 0 0), (53, .vw b (r.xs.map xRow)), (54, .int .i64 (r.xs.length : Int)), (55, .int .i64 (i : Int))], [(0, some [[.vw a (r.cs.map cRow), .vw b (r.xs.map xRow)]])], 1⟩) (fun i => i ≤ r.xs.length ∧ ∀ j, j < i → okX r j) (fun i => r.xs.length - i) 0 ⟨Nat.zero_le _, fun j hj => absurd hj (Nat.not_lt_zero _)⟩ ?_ (fun _ _ => Nat.zero_le _) ?_
      · simp [LeP, leT, leH, lk, AV.ltr, ltrL, Ab.hg, upd, -List.getD_eq_getElem?_getD, -Int.default_eq_zero]
      rintro i ⟨hi, hokx⟩
      by_cases hi2 : i < r.xs.length
      · have hcm := cmX_neg (r.xs.getD (i - 1) default) (r.xs.getD i default)
        repeat' (first | refine wG_call (cf _) rfl rfl ?_ | refine wG_call (con72 (r.xs.getD (i - 1) default) (r.xs.getD i default)) rfl rfl ?_ | (first
    | refine wC_a rfl ?_
    | refine q_s rfl ?_
    | refine q_b rfl ?_
    | refine wG_nil ?_
    | refine wG_g rfl ?_
    | refine wG_pure (o_len_vwm rfl) ?_
    | refine wG_pure (o_not_d rfl) ?_
    | refine wG_p rfl (by first | exact rfl | omega) ?_
    | refine wG_pure (o_str2 rfl rfl rfl) ?_
    | refine wG_pure (e_istr rfl rfl (by omega)) ?_
    | refine wG_pure (e_istr0 rfl rfl (by omega)) ?_
    | refine wG_pure (o_not rfl) ?_
    | refine wG_pure (e_ia_vw0 rfl rfl (by omega) rfl) ?_
    | refine wG_pure (e_ia_vwp rfl rfl (by omega) rfl) ?_
    | refine wG_pure (e_ia_vwm rfl rfl (by omega) (by omega) rfl) ?_
    | refine wG_pure (e_ia_vwi rfl rfl (by omega) rfl) ?_
    | refine wG_pure (e_ia_vwn rfl rfl (by omega) (by omega) rfl) ?_
    | refine wG_n rfl rfl ?_
    | refine wG_u rfl rfl ?_
    | refine wG_new (o_mks rfl rfl (by omega) (by decide)) ?_) | (refine wG_gd rfl (fun hgt => ?_) (fun hgf => ?_) <;> (first | simp only [eq_true hgt, decide_true] | simp only [eq_false hgf, decide_false])) | refine wC_cond_d rfl (fun hg => ?_) (fun hg => ?_))
        any_goals (exfalso; omega)
        all_goals (first
          | (refine ret_boolE (.inr rfl) ⟨_, retV_mv rfl, Eq.symm (decide_eq_false fun hG => ?_)⟩
             obtain ⟨g1, g2, g3, g4⟩ := hG.2.2.2 i hi2
             first | omega | contradiction | exact (hcm.1 (by assumption)) (g4 (by omega)))
          | (refine ⟨i + 1, ⟨by omega, fun j hj => ?_⟩, by omega, by simp [LeP, leT, leH, lk, AV.ltr, ltrL, Ab.hg, upd, -List.getD_eq_getElem?_getD, -Int.default_eq_zero]⟩
             rcases Nat.lt_or_ge j i with hji | hji
             · exact hokx j hji
             · obtain rfl : j = i := by omega
               refine ⟨by assumption, by omega, by omega, fun h0 => ?_⟩
               first | exact Decidable.not_not.1 (fun hx => absurd (hcm.2 hx) (by assumption)) | (exfalso; omega)))
      · have hi3 : i = r.xs.length := by omega
        subst hi3
        repeat' (first | (first
    | refine wC_a rfl ?_
    | refine q_s rfl ?_
    | refine q_b rfl ?_
    | refine wG_nil ?_
    | refine wG_g rfl ?_
    | refine wG_pure (o_len_vwm rfl) ?_
    | refine wG_pure (o_not_d rfl) ?_
    | refine wG_p rfl (by first | exact rfl | omega) ?_
    | refine wG_pure (o_str2 rfl rfl rfl) ?_
    | refine wG_pure (e_istr rfl rfl (by omega)) ?_
    | refine wG_pure (e_istr0 rfl rfl (by omega)) ?_
    | refine wG_pure (o_not rfl) ?_
    | refine wG_pure (e_ia_vw0 rfl rfl (by omega) rfl) ?_
    | refine wG_pure (e_ia_vwp rfl rfl (by omega) rfl) ?_
    | refine wG_pure (e_ia_vwm rfl rfl (by omega) (by omega) rfl) ?_
    | refine wG_pure (e_ia_vwi rfl rfl (by omega) rfl) ?_
    | refine wG_pure (e_ia_vwn rfl rfl (by omega) (by omega) rfl) ?_
    | refine wG_n rfl rfl ?_
    | refine wG_u rfl rfl ?_
    | refine wG_new (o_mks rfl rfl (by omega) (by decide)) ?_) | (refine wG_gd rfl (fun hgt => ?_) (fun hgf => ?_) <;> (first | simp only [eq_true hgt, decide_true] | simp only [eq_false hgf, decide_false])) | refine wC_cond_d rfl (fun hg => ?_) (fun hg => ?_))
        any_goals (exfalso; omega)
        exact ret_boolE (.inr rfl) ⟨_, retV_mv rfl, Eq.symm (decide_eq_true ⟨hl.1, hl.2, hok, hokx⟩)⟩
  · repeat' (first | (first
    | refine wC_a rfl ?_
    | refine q_s rfl ?_
    | refine q_b rfl ?_
    | refine wG_nil ?_
    | refine wG_g rfl ?_
    | refine wG_pure (o_len_vwm rfl) ?_
    | refine wG_pure (o_not_d rfl) ?_
    | refine wG_p rfl (by first | exact rfl | omega) ?_
    | refine wG_pure (o_str2 rfl rfl rfl) ?_
    | refine wG_pure (e_istr rfl rfl (by omega)) ?_
    | refine wG_pure (e_istr0 rfl rfl (by omega)) ?_
    | refine wG_pure (o_not rfl) ?_
    | refine wG_pure (e_ia_vw0 rfl rfl (by omega) rfl) ?_
    | refine wG_pure (e_ia_vwp rfl rfl (by omega) rfl) ?_
    | refine wG_pure (e_ia_vwm rfl rfl (by omega) (by omega) rfl) ?_
    | refine wG_pure (e_ia_vwi rfl rfl (by omega) rfl) ?_
    | refine wG_pure (e_ia_vwn rfl rfl (by omega) (by omega) rfl) ?_
    | refine wG_n rfl rfl ?_
    | refine wG_u rfl rfl ?_
    | refine wG_new (o_mks rfl rfl (by omega) (by decide)) ?_) | (refine wG_gd rfl (fun hgt => ?_) (fun hgf => ?_) <;> (first | simp only [eq_true hgt, decide_true] | simp only [eq_false hgf, decide_false])) | refine wC_cond_d rfl (fun hg => ?_) (fun hg => ?_))
    any_goals (exfalso; omega)
    all_goals (refine ret_boolE (.inr rfl) ⟨_, retV_mv rfl, Eq.symm (decide_eq_false fun hG => ?_)⟩; have := hG.1; have := hG.2.1; omega)
end Go.Proofs.Yteoonedddgiacaa.Rec
