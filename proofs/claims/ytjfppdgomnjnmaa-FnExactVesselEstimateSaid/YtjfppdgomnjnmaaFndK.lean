/- Residual fragments: both sides and the law. -/
import Derived.Test.YtjfppdgomnjnmaaFndI
import Derived.Test.YtjfppdgomnjnmaaStrA
namespace Go.Proofs.Ytjfppdgomnjnmaa.Fnd
open Go Go.Proofs.Ytjfppdgomnjnmaa.Ab Go.Proofs.Ytjfppdgomnjnmaa.Il
attribute [local irreducible] wpO wpC wpDr wpQ wpG wpE stepA seqQ blkQ Ret ev
set_option maxRecDepth 10000
set_option maxHeartbeats 8000000
set_option linter.unusedSimpArgs false
set_option linter.unusedVariables false

def ac8 : AC := (.seq (.reg [⟨(some 10), none, (.mv (.c (.bool false)))⟩]) (.seq (.seq (.reg [⟨(some 21), none, (.mv (.t 3))⟩, ⟨(some 22), none, (.len (.t 21))⟩, ⟨(some 23), none, (.bin .gtr (.t 22) (.c (.int .i64 1048576)))⟩]) (.cond (.t 23) (.seq (.reg [⟨(some 10), none, (.mv (.c (.bool true)))⟩]) .ret) .skip)) (.seq (.reg [⟨(some 11), none, (.mv (.c (.int .i64 1048576)))⟩]) (.seq (.reg [⟨(some 24), none, (.mv (.t 0))⟩, ⟨(some 25), none, (.mv (.t 11))⟩, ⟨(some 26), none, (.call 9 [(.t 24), (.t 25)])⟩, ⟨(some 11), none, (.mv (.t 26))⟩]) (.seq (.seq (.reg [⟨(some 27), none, (.mv (.t 11))⟩, ⟨(some 28), none, (.bin .lss (.t 27) (.c (.int .i64 0)))⟩]) (.cond (.t 28) (.seq (.reg [⟨(some 10), none, (.mv (.c (.bool true)))⟩]) .ret) .skip)) (.seq (.reg [⟨(some 29), none, (.mv (.t 2))⟩, ⟨(some 30), none, (.mv (.t 11))⟩, ⟨(some 31), none, (.call 22 [(.t 29), (.t 30)])⟩, ⟨(some 11), none, (.mv (.t 31))⟩]) (.seq (.seq (.reg [⟨(some 32), none, (.mv (.t 11))⟩, ⟨(some 33), none, (.bin .lss (.t 32) (.c (.int .i64 0)))⟩]) (.cond (.t 33) (.seq (.reg [⟨(some 10), none, (.mv (.c (.bool true)))⟩]) .ret) .skip)) (.seq (.reg [⟨(some 35), none, (.mv (.t 0))⟩, ⟨(some 36), none, (.call 11 [(.t 35)])⟩, ⟨(some 37), none, (.mv (.t 1))⟩, ⟨(some 38), none, (.mv (.t 2))⟩, ⟨(some 39), none, (.call 24 [(.t 38)])⟩, ⟨(some 40), none, (.mv (.t 3))⟩, ⟨(some 41), none, (.call 25 [(.t 40)])⟩, ⟨(some 42), none, (.mv (.t 4))⟩, ⟨(some 43), none, (.call 23 [(.t 36), (.t 37), (.t 39), (.t 41), (.t 42)])⟩, ⟨(some 34), none, (.mv (.t 43))⟩, ⟨(some 44), none, (.ext (.t 34) 0)⟩, ⟨(some 45), none, (.ext (.t 34) 1)⟩, ⟨(some 46), none, (.ext (.t 34) 2)⟩, ⟨(some 12), none, (.mv (.t 44))⟩, ⟨(some 13), none, (.mv (.t 45))⟩, ⟨(some 14), none, (.mv (.t 46))⟩]) (.seq (.reg [⟨(some 47), none, (.mv (.t 0))⟩, ⟨(some 48), none, (.call 11 [(.t 47)])⟩, ⟨(some 15), none, (.mv (.t 48))⟩]) (.seq (.reg [⟨(some 49), none, (.mv (.t 2))⟩, ⟨(some 50), none, (.call 24 [(.t 49)])⟩, ⟨(some 16), none, (.mv (.t 50))⟩]) (.seq (.reg [⟨(some 51), none, (.mv (.t 3))⟩, ⟨(some 52), none, (.call 25 [(.t 51)])⟩, ⟨(some 17), none, (.mv (.t 52))⟩]) (.seq (.reg [⟨(some 54), none, (.mv (.t 15))⟩, ⟨(some 55), none, (.mv (.t 1))⟩, ⟨(some 56), none, (.mv (.t 16))⟩, ⟨(some 57), none, (.mv (.t 17))⟩, ⟨(some 58), none, (.mv (.t 4))⟩, ⟨(some 59), none, (.call 26 [(.t 54), (.t 55), (.t 56), (.t 57), (.t 58)])⟩, ⟨(some 53), none, (.mv (.t 59))⟩, ⟨(some 60), none, (.ext (.t 53) 0)⟩, ⟨(some 61), none, (.ext (.t 53) 1)⟩, ⟨(some 62), none, (.ext (.t 53) 2)⟩, ⟨(some 18), none, (.mv (.t 60))⟩, ⟨(some 19), none, (.mv (.t 61))⟩, ⟨(some 20), none, (.mv (.t 62))⟩]) (.seq (.seq (.reg [⟨(some 63), none, (.mv (.t 18))⟩, ⟨(some 64), none, (.mv (.t 12))⟩, ⟨(some 65), none, (.bin .neq (.t 63) (.t 64))⟩, ⟨(some 66), none, (.mv (.t 65))⟩, ⟨(some 67), (some (66, false)), (.mv (.t 19))⟩, ⟨(some 68), (some (66, false)), (.mv (.t 13))⟩, ⟨(some 69), (some (66, false)), (.bin .neq (.t 67) (.t 68))⟩, ⟨(some 70), none, (.pick (.t 66) (.c (.bool true)) (.t 69))⟩, ⟨(some 71), none, (.mv (.t 70))⟩, ⟨(some 72), (some (71, false)), (.mv (.t 20))⟩, ⟨(some 73), (some (71, false)), (.mv (.t 14))⟩, ⟨(some 74), (some (71, false)), (.bool2 true (.t 72) (.t 73))⟩, ⟨(some 75), none, (.pick (.t 71) (.c (.bool true)) (.t 74))⟩]) (.cond (.t 75) (.seq (.reg [⟨(some 10), none, (.mv (.c (.bool false)))⟩]) .ret) .skip)) (.seq (.seq (.reg [⟨(some 76), none, (.mv (.t 15))⟩, ⟨(some 77), none, (.mv (.t 0))⟩, ⟨(some 78), none, (.call 11 [(.t 77)])⟩, ⟨(some 79), none, (.call 13 [(.t 76), (.t 78)])⟩, ⟨(some 80), none, (.un .not (.t 79))⟩]) (.cond (.t 80) (.seq (.reg [⟨(some 10), none, (.mv (.c (.bool false)))⟩]) .ret) .skip)) (.seq (.seq (.reg [⟨(some 81), none, (.mv (.t 16))⟩, ⟨(some 82), none, (.mv (.t 2))⟩, ⟨(some 83), none, (.call 24 [(.t 82)])⟩, ⟨(some 84), none, (.call 27 [(.t 81), (.t 83)])⟩, ⟨(some 85), none, (.un .not (.t 84))⟩]) (.cond (.t 85) (.seq (.reg [⟨(some 10), none, (.mv (.c (.bool false)))⟩]) .ret) .skip)) (.seq (.seq (.reg [⟨(some 86), none, (.mv (.t 17))⟩, ⟨(some 87), none, (.mv (.t 3))⟩, ⟨(some 88), none, (.call 25 [(.t 87)])⟩, ⟨(some 89), none, (.call 28 [(.t 86), (.t 88)])⟩, ⟨(some 90), none, (.un .not (.t 89))⟩]) (.cond (.t 90) (.seq (.reg [⟨(some 10), none, (.mv (.c (.bool false)))⟩]) .ret) .skip)) (.seq (.reg [⟨(some 10), none, (.mv (.c (.bool true)))⟩]) .ret)))))))))))))))))
def ro8 : List AOp := [(.mv (.t 10))]
theorem fun8 : Fun Try.prog 8 91 ac8 ro8 := ⟨Try.f8, _, Try.func8, by kernel_rfl, rfl, rfl, by kernel_rfl, by kernel_rfl, by decide⟩
def ac23 : AC := (.seq (.reg [⟨(some 10), none, (.mv (.c (.int .i64 0)))⟩, ⟨(some 11), none, (.mv (.c (.int .i64 0)))⟩, ⟨(some 12), none, (.mv (.c (.bool false)))⟩]) (.seq (.seq (.reg [⟨(some 18), none, (.mv (.t 0))⟩, ⟨(some 19), none, (.mv (.t 1))⟩, ⟨(some 20), none, (.call 39 [(.t 18), (.t 19)])⟩, ⟨(some 21), none, (.un .not (.t 20))⟩, ⟨(some 22), none, (.mv (.t 21))⟩, ⟨(some 23), (some (22, false)), (.mv (.t 2))⟩, ⟨(some 24), (some (22, false)), (.len (.t 23))⟩, ⟨(some 25), (some (22, false)), (.bin .gtr (.t 24) (.c (.int .i64 20)))⟩, ⟨(some 26), none, (.pick (.t 22) (.c (.bool true)) (.t 25))⟩, ⟨(some 27), none, (.mv (.t 26))⟩, ⟨(some 28), (some (27, false)), (.mv (.t 3))⟩, ⟨(some 29), (some (27, false)), (.len (.t 28))⟩, ⟨(some 30), (some (27, false)), (.mv (.t 2))⟩, ⟨(some 31), (some (27, false)), (.len (.t 30))⟩, ⟨(some 32), (some (27, false)), (.bin .neq (.t 29) (.t 31))⟩, ⟨(some 33), none, (.pick (.t 27) (.c (.bool true)) (.t 32))⟩, ⟨(some 34), none, (.mv (.t 33))⟩, ⟨(some 35), (some (34, false)), (.mv (.t 4))⟩, ⟨(some 36), (some (34, false)), (.call 44 [(.t 35), (.c (.int .i64 (-20000))), (.c (.int .i64 2100))])⟩, ⟨(some 37), (some (34, false)), (.un .not (.t 36))⟩, ⟨(some 38), none, (.pick (.t 34) (.c (.bool true)) (.t 37))⟩]) (.cond (.t 38) (.seq (.reg [⟨(some 10), none, (.mv (.c (.int .i64 0)))⟩, ⟨(some 11), none, (.mv (.c (.int .i64 0)))⟩, ⟨(some 12), none, (.mv (.c (.bool false)))⟩]) .ret) .skip)) (.seq (.seq (.reg [⟨(some 13), none, (.mv (.c (.int .i64 0)))⟩]) (.blk 0 (.loop (.seq (.seq (.reg [⟨(some 39), none, (.mv (.t 13))⟩, ⟨(some 40), none, (.mv (.t 2))⟩, ⟨(some 41), none, (.len (.t 40))⟩, ⟨(some 42), none, (.bin .lss (.t 39) (.t 41))⟩]) (.cond (.t 42) .skip (.exit 0))) (.seq (.blk 1 (.seq (.dreg [⟨(some 45), none, (.mv (.t 2))⟩, ⟨(some 46), none, (.mv (.t 13))⟩, ⟨(some 47), none, (.ia 1 (.t 45) (.t 46))⟩, ⟨(some 48), none, (.ld false 1 (.t 47))⟩, ⟨(some 49), none, (.call 35 [(.t 48)])⟩, ⟨(some 50), none, (.un .not (.t 49))⟩, ⟨(some 51), none, (.mv (.t 50))⟩, ⟨(some 52), (some (51, false)), (.mv (.t 3))⟩, ⟨(some 53), (some (51, false)), (.mv (.t 13))⟩, ⟨(some 54), (some (51, false)), (.ia 1 (.t 52) (.t 53))⟩, ⟨(some 55), (some (51, false)), (.ld false 1 (.t 54))⟩, ⟨(some 56), (some (51, false)), (.call 44 [(.t 55), (.c (.int .i64 (-20000))), (.c (.int .i64 2100))])⟩, ⟨(some 57), (some (51, false)), (.un .not (.t 56))⟩, ⟨(some 58), none, (.pick (.t 51) (.c (.bool true)) (.t 57))⟩, ⟨(some 59), none, (.mv (.t 58))⟩, ⟨(some 60), (some (59, false)), (.mv (.t 13))⟩, ⟨(some 61), (some (59, false)), (.bin .gtr (.t 60) (.c (.int .i64 0)))⟩, ⟨(some 62), (some (59, false)), (.mv (.t 61))⟩, ⟨(some 63), (some (62, true)), (.mv (.t 2))⟩, ⟨(some 64), (some (62, true)), (.mv (.t 13))⟩, ⟨(some 65), (some (62, true)), (.bin .sub (.t 64) (.c (.int .i64 1)))⟩, ⟨(some 66), (some (62, true)), (.ia 1 (.t 63) (.t 65))⟩, ⟨(some 67), (some (62, true)), (.ld false 1 (.t 66))⟩, ⟨(some 68), (some (62, true)), (.mv (.t 2))⟩, ⟨(some 69), (some (62, true)), (.mv (.t 13))⟩, ⟨(some 70), (some (62, true)), (.ia 1 (.t 68) (.t 69))⟩, ⟨(some 71), (some (62, true)), (.ld false 1 (.t 70))⟩, ⟨(some 72), (some (62, true)), (.str2 .geq (.t 67) (.t 71))⟩, ⟨(some 73), (some (59, false)), (.pick (.t 62) (.t 72) (.c (.bool false)))⟩, ⟨(some 74), none, (.pick (.t 59) (.c (.bool true)) (.t 73))⟩] [[], [], [0, 1], [0, 1, 2], [0, 1, 2, 3], [0, 1, 2, 3, 4], [0, 1, 2, 3, 4, 5], [0, 1, 2, 3, 4, 5, 6], [0, 1, 2, 3, 4, 5, 6], [0, 1, 2, 3, 4, 5, 6, 7, 8], [0, 1, 2, 3, 4, 5, 6, 7, 8, 9], [0, 1, 2, 3, 4, 5, 6, 7, 8, 9, 10], [0, 1, 2, 3, 4, 5, 6, 7, 8, 9, 10, 11], [0, 1, 2, 3, 4, 5, 6, 7, 8, 9, 10, 11, 12], [0, 1, 2, 3, 4, 5, 6, 7, 8, 9, 10, 11, 12, 13], [0, 1, 2, 3, 4, 5, 6, 7, 8, 9, 10, 11, 12, 13, 14], [0, 1, 2, 3, 4, 5, 6, 7, 8, 9, 10, 11, 12, 13, 14, 15], [0, 1, 2, 3, 4, 5, 6, 7, 8, 9, 10, 11, 12, 13, 14, 15, 16], [0, 1, 2, 3, 4, 5, 6, 7, 8, 9, 10, 11, 12, 13, 14, 15, 16, 17], [0, 1, 2, 3, 4, 5, 6, 7, 8, 9, 10, 11, 12, 13, 14, 15, 16, 17], [0, 1, 2, 3, 4, 5, 6, 7, 8, 9, 10, 11, 12, 13, 14, 15, 16, 17, 19], [0, 1, 2, 3, 4, 5, 6, 7, 8, 9, 10, 11, 12, 13, 14, 15, 16, 17, 18, 19, 20], [0, 1, 2, 3, 4, 5, 6, 7, 8, 9, 10, 11, 12, 13, 14, 15, 16, 17, 18, 19, 20, 21], [0, 1, 2, 3, 4, 5, 6, 7, 8, 9, 10, 11, 12, 13, 14, 15, 16, 17], [0, 1, 2, 3, 4, 5, 6, 7, 8, 9, 10, 11, 12, 13, 14, 15, 16, 17], [0, 1, 2, 3, 4, 5, 6, 7, 8, 9, 10, 11, 12, 13, 14, 15, 16, 17, 23, 24], [0, 1, 2, 3, 4, 5, 6, 7, 8, 9, 10, 11, 12, 13, 14, 15, 16, 17, 23, 24, 25], [0, 1, 2, 3, 4, 5, 6, 7, 8, 9, 10, 11, 12, 13, 14, 15, 16, 17, 18, 19, 20, 21, 22, 23, 24, 25, 26], [0, 1, 2, 3, 4, 5, 6, 7, 8, 9, 10, 11, 12, 13, 14, 15, 16, 17, 18, 19, 20, 21, 22, 23, 24, 25, 26, 27], [0, 1, 2, 3, 4, 5, 6, 7, 8, 9, 10, 11, 12, 13, 14, 15, 16, 17, 18, 19, 20, 21, 22, 23, 24, 25, 26, 27, 28]]) (.cond (.t 74) (.seq (.reg [⟨(some 10), none, (.mv (.c (.int .i64 0)))⟩, ⟨(some 11), none, (.mv (.c (.int .i64 0)))⟩, ⟨(some 12), none, (.mv (.c (.bool false)))⟩]) .ret) .skip))) (.reg [⟨(some 43), none, (.mv (.t 13))⟩, ⟨(some 44), none, (.bin .add (.t 43) (.c (.int .i64 1)))⟩, ⟨(some 13), none, (.mv (.t 44))⟩])))))) (.seq (.reg [⟨(some 14), none, (.mv (.c (.int .i64 0)))⟩, ⟨(some 15), none, (.mv (.c (.int .i64 0)))⟩]) (.seq (.seq (.reg [⟨(some 16), none, (.mv (.c (.int .i64 0)))⟩]) (.blk 2 (.loop (.seq (.seq (.reg [⟨(some 75), none, (.mv (.t 16))⟩, ⟨(some 76), none, (.mv (.t 0))⟩, ⟨(some 77), none, (.len (.t 76))⟩, ⟨(some 78), none, (.bin .lss (.t 75) (.t 77))⟩]) (.cond (.t 78) .skip (.exit 2))) (.seq (.blk 3 (.seq (.reg [⟨(some 17), none, (.mv (.c (.int .i64 0)))⟩]) (.blk 4 (.loop (.seq (.seq (.reg [⟨(some 81), none, (.mv (.t 17))⟩, ⟨(some 82), none, (.mv (.t 2))⟩, ⟨(some 83), none, (.len (.t 82))⟩, ⟨(some 84), none, (.bin .lss (.t 81) (.t 83))⟩, ⟨(some 85), none, (.mv (.t 84))⟩, ⟨(some 86), (some (85, true)), (.mv (.t 0))⟩, ⟨(some 87), (some (85, true)), (.mv (.t 16))⟩, ⟨(some 88), (some (85, true)), (.ia 5 (.t 86) (.t 87))⟩, ⟨(some 89), (some (85, true)), (.fa 0 (.t 88))⟩, ⟨(some 90), (some (85, true)), (.ld false 1 (.t 89))⟩, ⟨(some 91), (some (85, true)), (.mv (.t 1))⟩, ⟨(some 92), (some (85, true)), (.bin .eql (.t 90) (.t 91))⟩, ⟨(some 93), none, (.pick (.t 85) (.t 92) (.c (.bool false)))⟩]) (.cond (.t 93) .skip (.exit 4))) (.seq (.blk 5 (.seq (.seq (.dreg [⟨(some 96), none, (.mv (.t 2))⟩, ⟨(some 97), none, (.mv (.t 17))⟩, ⟨(some 98), none, (.ia 1 (.t 96) (.t 97))⟩, ⟨(some 99), none, (.ld false 1 (.t 98))⟩, ⟨(some 100), none, (.mv (.t 0))⟩, ⟨(some 101), none, (.mv (.t 16))⟩, ⟨(some 102), none, (.ia 5 (.t 100) (.t 101))⟩, ⟨(some 103), none, (.fa 1 (.t 102))⟩, ⟨(some 104), none, (.ld false 1 (.t 103))⟩, ⟨(some 105), none, (.str2 .neq (.t 99) (.t 104))⟩] [[], [], [0, 1], [0, 1, 2], [], [], [4, 5], [4, 5, 6], [4, 5, 6, 7], [0, 1, 2, 3, 4, 5, 6, 7, 8]]) (.cond (.t 105) (.exit 5) .skip)) (.seq (.reg [⟨(some 106), none, (.mv (.t 15))⟩, ⟨(some 107), none, (.mv (.t 0))⟩, ⟨(some 108), none, (.mv (.t 16))⟩, ⟨(some 109), none, (.ia 5 (.t 107) (.t 108))⟩, ⟨(some 110), none, (.fa 2 (.t 109))⟩, ⟨(some 111), none, (.ld false 1 (.t 110))⟩, ⟨(some 112), none, (.bin .add (.t 106) (.t 111))⟩, ⟨(some 15), none, (.mv (.t 112))⟩]) (.seq (.reg [⟨(some 113), none, (.mv (.t 3))⟩, ⟨(some 114), none, (.mv (.t 17))⟩, ⟨(some 115), none, (.ia 1 (.t 113) (.t 114))⟩, ⟨(some 116), none, (.ld false 1 (.t 115))⟩, ⟨(some 117), none, (.mv (.t 4))⟩, ⟨(some 118), none, (.bin .lss (.t 116) (.t 117))⟩]) (.cond (.t 118) (.reg [⟨(some 119), none, (.mv (.t 14))⟩, ⟨(some 120), none, (.mv (.t 0))⟩, ⟨(some 121), none, (.mv (.t 16))⟩, ⟨(some 122), none, (.ia 5 (.t 120) (.t 121))⟩, ⟨(some 123), none, (.fa 2 (.t 122))⟩, ⟨(some 124), none, (.ld false 1 (.t 123))⟩, ⟨(some 125), none, (.bin .add (.t 119) (.t 124))⟩, ⟨(some 14), none, (.mv (.t 125))⟩]) .skip))))) (.reg [⟨(some 94), none, (.mv (.t 17))⟩, ⟨(some 95), none, (.bin .add (.t 94) (.c (.int .i64 1)))⟩, ⟨(some 17), none, (.mv (.t 95))⟩]))))))) (.reg [⟨(some 79), none, (.mv (.t 16))⟩, ⟨(some 80), none, (.bin .add (.t 79) (.c (.int .i64 1)))⟩, ⟨(some 16), none, (.mv (.t 80))⟩])))))) (.seq (.reg [⟨(some 126), none, (.mv (.t 14))⟩, ⟨(some 127), none, (.mv (.t 15))⟩, ⟨(some 10), none, (.mv (.t 126))⟩, ⟨(some 11), none, (.mv (.t 127))⟩, ⟨(some 12), none, (.mv (.c (.bool true)))⟩]) .ret))))))
def ro23 : List AOp := [(.mv (.t 10)), (.mv (.t 11)), (.mv (.t 12))]
theorem fun23 : Fun Try.prog 23 128 ac23 ro23 := ⟨Try.f23, _, Try.func23, by kernel_rfl, rfl, rfl, by kernel_rfl, by kernel_rfl, by decide⟩
def ac26 : AC := (.seq (.reg [⟨(some 10), none, (.mv (.c (.int .i64 0)))⟩, ⟨(some 11), none, (.mv (.c (.int .i64 0)))⟩, ⟨(some 12), none, (.mv (.c (.bool false)))⟩]) (.seq (.reg [⟨(some 23), none, (.mv (.t 0))⟩, ⟨(some 24), none, (.mv (.t 1))⟩, ⟨(some 25), none, (.call 41 [(.t 23), (.t 24)])⟩, ⟨(some 22), none, (.mv (.t 25))⟩, ⟨(some 26), none, (.ext (.t 22) 0)⟩, ⟨(some 27), none, (.ext (.t 22) 1)⟩, ⟨(some 13), none, (.mv (.t 26))⟩, ⟨(some 14), none, (.mv (.t 27))⟩]) (.seq (.seq (.reg [⟨(some 28), none, (.mv (.t 14))⟩, ⟨(some 29), none, (.un .not (.t 28))⟩, ⟨(some 30), none, (.mv (.t 29))⟩, ⟨(some 31), (some (30, false)), (.mv (.t 2))⟩, ⟨(some 32), (some (30, false)), (.len (.t 31))⟩, ⟨(some 33), (some (30, false)), (.bin .gtr (.t 32) (.c (.int .i64 20)))⟩, ⟨(some 34), none, (.pick (.t 30) (.c (.bool true)) (.t 33))⟩, ⟨(some 35), none, (.mv (.t 34))⟩, ⟨(some 36), (some (35, false)), (.mv (.t 3))⟩, ⟨(some 37), (some (35, false)), (.len (.t 36))⟩, ⟨(some 38), (some (35, false)), (.mv (.t 2))⟩, ⟨(some 39), (some (35, false)), (.len (.t 38))⟩, ⟨(some 40), (some (35, false)), (.bin .neq (.t 37) (.t 39))⟩, ⟨(some 41), none, (.pick (.t 35) (.c (.bool true)) (.t 40))⟩, ⟨(some 42), none, (.mv (.t 41))⟩, ⟨(some 43), (some (42, false)), (.mv (.t 4))⟩, ⟨(some 44), (some (42, false)), (.call 45 [(.t 43)])⟩, ⟨(some 45), (some (42, false)), (.un .not (.t 44))⟩, ⟨(some 46), none, (.pick (.t 42) (.c (.bool true)) (.t 45))⟩]) (.cond (.t 46) (.seq (.reg [⟨(some 10), none, (.mv (.c (.int .i64 0)))⟩, ⟨(some 11), none, (.mv (.c (.int .i64 0)))⟩, ⟨(some 12), none, (.mv (.c (.bool false)))⟩]) .ret) .skip)) (.seq (.seq (.reg [⟨(some 47), none, (.mv (.t 2))⟩, ⟨(some 48), none, (.len (.t 47))⟩, ⟨(some 49), none, (.mv (.c (.int .i64 0)))⟩]) (.blk 0 (.loop (.seq (.reg [⟨(some 50), none, (.bin .lss (.t 49) (.t 48))⟩]) (.seq (.cond (.t 50) .skip (.exit 0)) (.seq (.blk 1 (.seq (.reg [⟨(some 51), none, (.mv (.t 49))⟩, ⟨(some 52), none, (.ia 1 (.t 47) (.t 49))⟩, ⟨(some 53), none, (.ld false 1 (.t 52))⟩, ⟨(some 15), none, (.mv (.t 51))⟩, ⟨(some 16), none, (.mv (.t 53))⟩]) (.seq (.reg [⟨(some 54), none, (.mv (.t 16))⟩, ⟨(some 55), none, (.call 36 [(.t 54)])⟩, ⟨(some 56), none, (.un .not (.t 55))⟩, ⟨(some 57), none, (.mv (.t 56))⟩, ⟨(some 58), (some (57, false)), (.mv (.t 15))⟩, ⟨(some 59), (some (57, false)), (.bin .gtr (.t 58) (.c (.int .i64 0)))⟩, ⟨(some 60), (some (57, false)), (.mv (.t 59))⟩, ⟨(some 61), (some (60, true)), (.mv (.t 16))⟩, ⟨(some 62), (some (60, true)), (.mv (.t 2))⟩, ⟨(some 63), (some (60, true)), (.mv (.t 15))⟩, ⟨(some 64), (some (60, true)), (.bin .sub (.t 63) (.c (.int .i64 1)))⟩, ⟨(some 65), (some (60, true)), (.ia 1 (.t 62) (.t 64))⟩, ⟨(some 66), (some (60, true)), (.ld false 1 (.t 65))⟩, ⟨(some 67), (some (60, true)), (.str2 .leq (.t 61) (.t 66))⟩, ⟨(some 68), (some (57, false)), (.pick (.t 60) (.t 67) (.c (.bool false)))⟩, ⟨(some 69), none, (.pick (.t 57) (.c (.bool true)) (.t 68))⟩, ⟨(some 70), none, (.mv (.t 69))⟩, ⟨(some 71), (some (70, false)), (.mv (.t 3))⟩, ⟨(some 72), (some (70, false)), (.mv (.t 15))⟩, ⟨(some 73), (some (70, false)), (.ia 1 (.t 71) (.t 72))⟩, ⟨(some 74), (some (70, false)), (.ld false 1 (.t 73))⟩, ⟨(some 75), (some (70, false)), (.call 45 [(.t 74)])⟩, ⟨(some 76), (some (70, false)), (.un .not (.t 75))⟩, ⟨(some 77), none, (.pick (.t 70) (.c (.bool true)) (.t 76))⟩]) (.cond (.t 77) (.seq (.reg [⟨(some 10), none, (.mv (.c (.int .i64 0)))⟩, ⟨(some 11), none, (.mv (.c (.int .i64 0)))⟩, ⟨(some 12), none, (.mv (.c (.bool false)))⟩]) .ret) .skip)))) (.reg [⟨(some 78), none, (.bin .add (.t 49) (.c (.int .i64 1)))⟩, ⟨(some 49), none, (.mv (.t 78))⟩]))))))) (.seq (.reg [⟨(some 17), none, (.mv (.c (.int .i64 0)))⟩, ⟨(some 18), none, (.mv (.c (.int .i64 0)))⟩]) (.seq (.seq (.reg [⟨(some 79), none, (.mv (.t 13))⟩, ⟨(some 80), none, (.len (.t 79))⟩, ⟨(some 81), none, (.mv (.c (.int .i64 0)))⟩]) (.blk 2 (.loop (.seq (.reg [⟨(some 82), none, (.bin .lss (.t 81) (.t 80))⟩]) (.seq (.cond (.t 82) .skip (.exit 2)) (.seq (.blk 3 (.seq (.reg [⟨(some 83), none, (.ia 5 (.t 79) (.t 81))⟩, ⟨(some 84), none, (.ld true 5 (.t 83))⟩, ⟨(some 20), none, (.alloc [(.int .i64 0), (.str ⟨#[]⟩), (.int .i64 0), (.int .i64 0), (.int .i64 0)])⟩, ⟨none, none, (.st 5 (.t 20) (.t 84))⟩]) (.seq (.reg [⟨(some 85), none, (.mv (.t 2))⟩, ⟨(some 86), none, (.fa 1 (.t 20))⟩, ⟨(some 87), none, (.ld false 1 (.t 86))⟩, ⟨(some 88), none, (.call 46 [(.t 85), (.t 87)])⟩, ⟨(some 21), none, (.mv (.t 88))⟩]) (.seq (.seq (.reg [⟨(some 89), none, (.mv (.t 21))⟩, ⟨(some 90), none, (.bin .lss (.t 89) (.c (.int .i64 0)))⟩]) (.cond (.t 90) (.exit 3) .skip)) (.seq (.reg [⟨(some 91), none, (.mv (.t 18))⟩, ⟨(some 92), none, (.fa 2 (.t 20))⟩, ⟨(some 93), none, (.ld false 1 (.t 92))⟩, ⟨(some 94), none, (.bin .add (.t 91) (.t 93))⟩, ⟨(some 18), none, (.mv (.t 94))⟩]) (.seq (.reg [⟨(some 95), none, (.mv (.t 3))⟩, ⟨(some 96), none, (.mv (.t 21))⟩, ⟨(some 97), none, (.ia 1 (.t 95) (.t 96))⟩, ⟨(some 98), none, (.ld false 1 (.t 97))⟩, ⟨(some 99), none, (.mv (.t 4))⟩, ⟨(some 100), none, (.bin .lss (.t 98) (.t 99))⟩]) (.cond (.t 100) (.reg [⟨(some 101), none, (.mv (.t 17))⟩, ⟨(some 102), none, (.fa 2 (.t 20))⟩, ⟨(some 103), none, (.ld false 1 (.t 102))⟩, ⟨(some 104), none, (.bin .add (.t 101) (.t 103))⟩, ⟨(some 17), none, (.mv (.t 104))⟩]) .skip))))))) (.reg [⟨(some 105), none, (.bin .add (.t 81) (.c (.int .i64 1)))⟩, ⟨(some 81), none, (.mv (.t 105))⟩]))))))) (.seq (.reg [⟨(some 106), none, (.mv (.t 17))⟩, ⟨(some 107), none, (.mv (.t 18))⟩, ⟨(some 10), none, (.mv (.t 106))⟩, ⟨(some 11), none, (.mv (.t 107))⟩, ⟨(some 12), none, (.mv (.c (.bool true)))⟩]) .ret)))))))
def ro26 : List AOp := [(.mv (.t 10)), (.mv (.t 11)), (.mv (.t 12))]
theorem fun26 : Fun Try.prog 26 108 ac26 ro26 := ⟨Try.f26, _, Try.func26, by kernel_rfl, rfl, rfl, by kernel_rfl, by kernel_rfl, by decide⟩

/-! ### Counting over indices -/
open Classical in
noncomputable def cnt (q : Nat → Prop) (n : Int) : Nat → Int
  | 0 => 0
  | k + 1 => cnt q n k + (if q k then n else 0)
theorem cnt_y {q : Nat → Prop} {n : Int} {k : Nat} (h : q k) : cnt q n (k + 1) = cnt q n k + n := by simp only [cnt, if_pos h]
theorem cnt_n {q : Nat → Prop} {n : Int} {k : Nat} (h : ¬ q k) : cnt q n (k + 1) = cnt q n k := by simp only [cnt, if_neg h, Int.add_zero]
theorem cnt_b {q : Nat → Prop} {n : Int} (hn : 0 ≤ n ∧ n ≤ 10000) : ∀ k, 0 ≤ cnt q n k ∧ cnt q n k ≤ 10000 * k
  | 0 => by simp [cnt]
  | k + 1 => by
    have := cnt_b (q := q) hn k
    by_cases h : q k
    · rw [cnt_y h]; omega
    · rw [cnt_n h]; omega
theorem cnt_0 {q : Nat → Prop} {n : Int} : ∀ k, (∀ j, j < k → ¬ q j) → cnt q n k = 0
  | 0, _ => rfl
  | k + 1, h => by rw [cnt_n (h k (by omega)), cnt_0 k (fun j hj => h j (by omega))]
theorem cnt_1 {q : Nat → Prop} {n : Int} {m : Nat} (hm : q m) (hu : ∀ j, q j → j = m) : ∀ k, m < k → cnt q n k = n
  | 0, h => by omega
  | k + 1, h => by
    by_cases hk : k = m
    · subst hk
      rw [cnt_y hm, cnt_0 k (fun j hj hq => by have := hu j hq; omega)]; omega
    · rw [cnt_n (fun hq => hk (hu k hq)), cnt_1 hm hu k (by omega)]

/-! ### Strings in order -/
theorem bl_trans : ∀ (x y z : List UInt8), Op.bytesLess x y = true → Op.bytesLess y z = true → Op.bytesLess x z = true
  | _, [], _, h, _ => by cases ‹List UInt8› <;> simp [Op.bytesLess] at h
  | [], b :: y, [], _, h => by simp [Op.bytesLess] at h
  | [], b :: y, c :: z, _, _ => by simp [Op.bytesLess]
  | a :: x, b :: y, [], _, h => by simp [Op.bytesLess] at h
  | a :: x, b :: y, c :: z, h1, h2 => by
    have ih := bl_trans x y z
    simp only [Op.bytesLess, Bool.or_eq_true, Bool.and_eq_true, decide_eq_true_eq, beq_iff_eq, UInt8.lt_iff_toNat_lt, ← UInt8.toNat_inj] at h1 h2 ⊢
    rcases h1 with h1 | ⟨h1, h1'⟩ <;> rcases h2 with h2 | ⟨h2, h2'⟩
    · left; omega
    · left; omega
    · left; omega
    · right; exact ⟨by omega, ih h1' h2'⟩
theorem sL_trans {a b c : ByteArray} (h1 : sL a b) (h2 : sL b c) : sL a c := bl_trans _ _ _ h1 h2
theorem sL_irr (a : ByteArray) : ¬ sL a a := by rcases sL_tri a a with ⟨_, h, _⟩ | ⟨h, _, _⟩ | ⟨h, _, _⟩ <;> exact h
theorem asc_lt {ts : List ByteArray} (h : ∀ i, i < ts.length → 0 < i → sL (ts.getD (i - 1) default) (ts.getD i default)) : ∀ (d i : Nat), i + d + 1 < ts.length → sL (ts.getD i default) (ts.getD (i + d + 1) default)
  | 0, i, hi => h (i + 1) hi (by omega)
  | d + 1, i, hi => sL_trans (asc_lt h d i (by omega)) (h (i + (d + 1) + 1) hi (by omega))
theorem asc_ne {ts : List ByteArray} (h : ∀ i, i < ts.length → 0 < i → sL (ts.getD (i - 1) default) (ts.getD i default)) {i j : Nat} (hi : i < ts.length) (hj : j < ts.length) (he : ts.getD i default = ts.getD j default) : i = j := by
  rcases Nat.lt_trichotomy i j with hij | hij | hij
  · have := asc_lt h (j - i - 1) i (by omega)
    rw [show i + (j - i - 1) + 1 = j by omega, he] at this
    exact absurd this (sL_irr _)
  · exact hij
  · have := asc_lt h (i - j - 1) j (by omega)
    rw [show j + (i - j - 1) + 1 = i by omega, he] at this
    exact absurd this (sL_irr _)

/-! ### What is counted -/
def okT (ts : List ByteArray) (es : List Int) (i : Nat) : Prop := NameOK (ts.getD i default) ∧ (-20000 ≤ es.getD i default ∧ es.getD i default ≤ 2100) ∧ (0 < i → sL (ts.getD (i - 1) default) (ts.getD i default))
def Hd (xs : List Fd) (c : Int) (ts : List ByteArray) (es : List Int) (y : Int) : Prop := Asked xs c ∧ ts.length ≤ 20 ∧ es.length = ts.length ∧ -20000 ≤ y ∧ y ≤ 2100
def OKr (xs : List Fd) (c : Int) (ts : List ByteArray) (es : List Int) (y : Int) : Prop := Hd xs c ts es y ∧ ∀ i, i < ts.length → okT ts es i
def pOld (ts : List ByteArray) (es : List Int) (y : Int) (f : Fd) : Prop := 0 ≤ ixS ts f.t ∧ es.getD (ixS ts f.t).toNat default < y
def pAll (ts : List ByteArray) (f : Fd) : Prop := 0 ≤ ixS ts f.t
open Classical in
noncomputable def res (xs : List Fd) (c : Int) (ts : List ByteArray) (es : List Int) (y : Int) : Int × Int × Bool :=
  if OKr xs c ts es y then (sI (fun f => f.c = c ∧ pOld ts es y f) Fd.n xs xs.length, sI (fun f => f.c = c ∧ pAll ts f) Fd.n xs xs.length, true) else (0, 0, false)
noncomputable def cO (ts : List ByteArray) (es : List Int) (y : Int) (f : Fd) (k : Nat) : Int := cnt (fun j => ts.getD j default = f.t ∧ es.getD j default < y) f.n k
noncomputable def cA (ts : List ByteArray) (f : Fd) (k : Nat) : Int := cnt (fun j => ts.getD j default = f.t) f.n k
theorem cO_n1 {ts : List ByteArray} {es : List Int} {y : Int} {f : Fd} {k : Nat} (h : ¬ ts.getD k default = f.t) : cO ts es y f (k + 1) = cO ts es y f k := cnt_n (fun hh => h hh.1)
theorem cO_n2 {ts : List ByteArray} {es : List Int} {y : Int} {f : Fd} {k : Nat} (h : ¬ es.getD k default < y) : cO ts es y f (k + 1) = cO ts es y f k := cnt_n (fun hh => h hh.2)
theorem cO_y {ts : List ByteArray} {es : List Int} {y : Int} {f : Fd} {k : Nat} (h : ts.getD k default = f.t) (h2 : es.getD k default < y) : cO ts es y f (k + 1) = cO ts es y f k + f.n := cnt_y ⟨h, h2⟩
theorem cA_n {ts : List ByteArray} {f : Fd} {k : Nat} (h : ¬ ts.getD k default = f.t) : cA ts f (k + 1) = cA ts f k := cnt_n h
theorem cA_y {ts : List ByteArray} {f : Fd} {k : Nat} (h : ts.getD k default = f.t) : cA ts f (k + 1) = cA ts f k + f.n := cnt_y h
theorem cA_ix {ts : List ByteArray} (h : ∀ i, i < ts.length → 0 < i → sL (ts.getD (i - 1) default) (ts.getD i default)) (f : Fd) : (pAll ts f → cA ts f ts.length = f.n) ∧ (¬ pAll ts f → cA ts f ts.length = 0) := by
  unfold pAll cA
  have hd : ∀ j, ts.length ≤ j → ts.getD j default = default := fun j hj => by simp [List.getD_eq_getElem?_getD, List.getElem?_eq_none hj]
  rcases ixS_p ts f.t with ⟨h1, h2⟩ | ⟨m, h1, h2, h3, h4⟩
  · exact ⟨fun hp => by omega, fun _ => cnt_0 _ (fun j hj => h2 j hj)⟩
  · refine ⟨fun _ => ?_, fun hn => by omega⟩
    have key : ∀ k, m < k → k ≤ ts.length → cnt (fun j => ts.getD j default = f.t) f.n k = f.n := by
      intro k
      induction k with
      | zero => intro hk; omega
      | succ k ih =>
        intro hk hl
        by_cases e : k = m
        · subst e
          rw [cnt_y h3, cnt_0 _ (fun j hj => h4 j hj)]; omega
        · rw [cnt_n (fun hq => e (asc_ne h (by omega) h2 (hq.trans h3.symm))), ih (by omega) (by omega)]
    exact key _ h2 (Nat.le_refl _)
theorem cO_ix {ts : List ByteArray} (h : ∀ i, i < ts.length → 0 < i → sL (ts.getD (i - 1) default) (ts.getD i default)) (es : List Int) (y : Int) (f : Fd) : (pOld ts es y f → cO ts es y f ts.length = f.n) ∧ (¬ pOld ts es y f → cO ts es y f ts.length = 0) := by
  unfold pOld cO
  rcases ixS_p ts f.t with ⟨h1, h2⟩ | ⟨m, h1, h2, h3, h4⟩
  · exact ⟨fun hp => by omega, fun _ => cnt_0 _ (fun j hj hq => h2 j hj hq.1)⟩
  · rw [h1]
    simp only [Int.toNat_natCast]
    refine ⟨fun hp => ?_, fun hn => ?_⟩
    · have key : ∀ k, m < k → k ≤ ts.length → cnt (fun j => ts.getD j default = f.t ∧ es.getD j default < y) f.n k = f.n := by
        intro k
        induction k with
        | zero => intro hk; omega
        | succ k ih =>
          intro hk hl
          by_cases e : k = m
          · subst e
            rw [cnt_y ⟨h3, hp.2⟩, cnt_0 _ (fun j hj hq => h4 j hj hq.1)]; omega
          · rw [cnt_n (fun hq => e (asc_ne h (by omega) h2 (hq.1.trans h3.symm))), ih (by omega) (by omega)]
      exact key _ h2 (Nat.le_refl _)
    · refine cnt_0 _ (fun j hj hq => hn ⟨by omega, ?_⟩)
      have := asc_ne h hj h2 (hq.1.trans h3.symm)
      rw [← this]; exact hq.2
theorem sI_conv {c : Int} {q : Fd → Prop} {g : Fd → Int} (h : ∀ f, (q f → g f = f.n) ∧ (¬ q f → g f = 0)) (xs : List Fd) : ∀ i, sI (fun f => f.c = c) g xs i = sI (fun f => f.c = c ∧ q f) Fd.n xs i
  | 0 => rfl
  | i + 1 => by
    have ih := sI_conv (c := c) h xs i
    by_cases hc : (xs.getD i default).c = c
    · by_cases hq : q (xs.getD i default)
      · rw [sI_y (p := fun f => f.c = c) hc, sI_y (p := fun f => f.c = c ∧ q f) ⟨hc, hq⟩, ih, (h _).1 hq]
      · rw [sI_y (p := fun f => f.c = c) hc, sI_n (p := fun f => f.c = c ∧ q f) (fun hh => hq hh.2), ih, (h _).2 hq, Int.add_zero]
    · rw [sI_n (p := fun f => f.c = c) hc, sI_n (p := fun f => f.c = c ∧ q f) (fun hh => hc hh.1), ih]
def strB (ts : List ByteArray) : Prop := ∀ i, i < ts.length → (ts.getD i default).size ≤ 1048576
theorem sI_bC {c : Int} {ts : List ByteArray} {q : Fd → Nat → Prop} {xs : List Fd} (h : GoodF xs) (h20 : ts.length ≤ 20) {i : Nat} (hi : i ≤ xs.length) : 0 ≤ sI (fun f => f.c = c) (fun f => cnt (q f) f.n ts.length) xs i ∧ sI (fun f => f.c = c) (fun f => cnt (q f) f.n ts.length) xs i ≤ 30000000 :=
  sI_bG h (fun f hf => by have := cnt_b (q := q f) (n := f.n) (by have := hf.2.2.1; omega) ts.length; omega) hi
theorem con23 (nn n2 n3 : Bool) (xs : List Fd) (c : Int) (ts : List ByteArray) (es : List Int) (y : Int) (hlen : xs.length ≤ 1048576) (hsz : szB xs) (ht : ts.length ≤ 1048576) (hts : strB ts) (he : es.length ≤ 1048576) :
    Con Try.prog 23 true [.vw nn (xs.map fRow), .int .i64 c, .vw n2 (ts.map sRow), .vw n3 (es.map iRow), .int .i64 y] (.tup [.int .i64 (res xs c ts es y).1, .int .i64 (res xs c ts es y).2.1, .bool (res xs c ts es y).2.2]) [] := by
  classical
  refine con_of_wp mixed fun23 (by simp) [] plain_nil ?_
  unfold ac23 ro23
  simp only [zipT]
  have c1 := con39 nn xs c hlen hsz
  have hno : ¬ OKr xs c ts es y → res xs c ts es y = (0, 0, false) := fun h => by unfold res; rw [if_neg h]
  by_cases hV : Hd xs c ts es y
  · rw [decide_eq_true hV.1] at c1
    have hV2 := hV.2
    have hG := hV.1.1
    have h30 := hG.1
    repeat' (first | refine wG_call c1 rfl rfl ?_ | refine wG_call (con44 _ _ _) rfl rfl ?_ | (first
    | refine wC_a rfl ?_
    | refine q_s rfl ?_
    | refine q_b rfl ?_
    | refine wG_nil ?_
    | refine wG_g rfl ?_
    | refine wG_pure (o_len_vwm rfl) ?_
    | refine wG_pure (o_not_d rfl) ?_
    | refine wG_p rfl (by first | exact rfl | omega) ?_
    | refine wG_pure (o_str2 rfl rfl rfl) ?_
    | refine wG_pure (e_istr rfl rfl (by omega)) ?_
    | refine wG_pure (e_istr0 rfl rfl (by omega)) ?_
    | refine wG_pure (o_not rfl) ?_
    | refine wG_pure (e_ia_vw0 rfl rfl (by omega) rfl) ?_
    | refine wG_pure (e_ia_vwp rfl rfl (by omega) rfl) ?_
    | refine wG_pure (e_ia_vwm rfl rfl (by omega) (by omega) rfl) ?_
    | refine wG_pure (e_ia_vwi rfl rfl (by omega) rfl) ?_
    | refine wG_pure (e_ia_vwn rfl rfl (by omega) (by omega) rfl) ?_
    | refine wG_n rfl rfl ?_
    | refine wG_u rfl rfl ?_
    | refine wG_new (o_mks rfl rfl (by omega) (by decide)) ?_) | (refine wG_gd rfl (fun hgt => ?_) (fun hgf => ?_) <;> (first | simp only [eq_true hgt, decide_true] | simp only [eq_false hgf, decide_false])) | refine wC_cond_d rfl (fun hg => ?_) (fun hg => ?_))
    any_goals (exfalso; omega)
    refine wC_loop Nat (fun i => ⟨[(0, .vw nn (xs.map fRow)), (1, .int .i64 c), (2, .vw n2 (ts.map sRow)), (3, .vw n3 (es.map iRow)), (4, .int .i64 y), (13, .int .i64 (i : Int))], [], 0⟩) (fun i => i ≤ ts.length ∧ ∀ j, j < i → okT ts es j) (fun i => ts.length - i) 0 ⟨Nat.zero_le _, fun j hj => absurd hj (Nat.not_lt_zero _)⟩ ?_ (fun _ _ => Nat.le_refl _) ?_
    · simp [LeP, leT, leH, lk, AV.ltr, ltrL, Ab.hg, upd, -List.getD_eq_getElem?_getD, -Int.default_eq_zero]
    rintro i ⟨hi, hok⟩
    by_cases hi2 : i < ts.length
    · have c2 := con35 (ts.getD i default) (hts i hi2)
      repeat' (first | refine wG_call c2 rfl rfl ?_ | refine wG_call (con44 _ _ _) rfl rfl ?_ | (first
    | refine wC_a rfl ?_
    | refine q_s rfl ?_
    | refine q_b rfl ?_
    | refine wG_nil ?_
    | refine wG_g rfl ?_
    | refine wG_pure (o_len_vwm rfl) ?_
    | refine wG_pure (o_not_d rfl) ?_
    | refine wG_p rfl (by first | exact rfl | omega) ?_
    | refine wG_pure (o_str2 rfl rfl rfl) ?_
    | refine wG_pure (e_istr rfl rfl (by omega)) ?_
    | refine wG_pure (e_istr0 rfl rfl (by omega)) ?_
    | refine wG_pure (o_not rfl) ?_
    | refine wG_pure (e_ia_vw0 rfl rfl (by omega) rfl) ?_
    | refine wG_pure (e_ia_vwp rfl rfl (by omega) rfl) ?_
    | refine wG_pure (e_ia_vwm rfl rfl (by omega) (by omega) rfl) ?_
    | refine wG_pure (e_ia_vwi rfl rfl (by omega) rfl) ?_
    | refine wG_pure (e_ia_vwn rfl rfl (by omega) (by omega) rfl) ?_
    | refine wG_n rfl rfl ?_
    | refine wG_u rfl rfl ?_
    | refine wG_new (o_mks rfl rfl (by omega) (by decide)) ?_) | (refine wG_gd rfl (fun hgt => ?_) (fun hgf => ?_) <;> (first | simp only [eq_true hgt, decide_true] | simp only [eq_false hgf, decide_false])) | refine wC_cond_d rfl (fun hg => ?_) (fun hg => ?_))
      any_goals (exfalso; omega)
      all_goals (try simp only [Classical.not_not] at *)
      all_goals (first
        | (have e := hno (fun hG => by
             obtain ⟨g1, g2, g3⟩ := hG.2 i hi2
             first | contradiction | omega | (have := g3 (by omega); contradiction))
           rw [e]
           exact ret_pl (.inr rfl) (retVs_3 (retV_mv rfl) (retV_mv rfl) (retV_mv rfl)) rfl rfl (by simp))
        | (refine ⟨i + 1, ⟨by omega, fun j hj => ?_⟩, by omega, by simp [LeP, leT, leH, lk, AV.ltr, ltrL, Ab.hg, upd, -List.getD_eq_getElem?_getD, -Int.default_eq_zero]⟩
           rcases Nat.lt_or_ge j i with hji | hji
           · exact hok j hji
           · obtain rfl : j = i := by omega
             refine ⟨by assumption, by omega, fun h0 => ?_⟩
             first | assumption | (exfalso; omega)))
    · have hi3 : i = ts.length := by omega
      subst hi3
      have hasc : ∀ i, i < ts.length → 0 < i → sL (ts.getD (i - 1) default) (ts.getD i default) := fun i hi => (hok i hi).2.2
      have e : res xs c ts es y = (sI (fun f => f.c = c) (fun f => cO ts es y f ts.length) xs xs.length, sI (fun f => f.c = c) (fun f => cA ts f ts.length) xs xs.length, true) := by
        unfold res; rw [if_pos ⟨hV, hok⟩, sI_conv (cO_ix hasc es y), sI_conv (cA_ix hasc)]
      rw [e]
      repeat' (first | (first
    | refine wC_a rfl ?_
    | refine q_s rfl ?_
    | refine q_b rfl ?_
    | refine wG_nil ?_
    | refine wG_g rfl ?_
    | refine wG_pure (o_len_vwm rfl) ?_
    | refine wG_pure (o_not_d rfl) ?_
    | refine wG_p rfl (by first | exact rfl | omega) ?_
    | refine wG_pure (o_str2 rfl rfl rfl) ?_
    | refine wG_pure (e_istr rfl rfl (by omega)) ?_
    | refine wG_pure (e_istr0 rfl rfl (by omega)) ?_
    | refine wG_pure (o_not rfl) ?_
    | refine wG_pure (e_ia_vw0 rfl rfl (by omega) rfl) ?_
    | refine wG_pure (e_ia_vwp rfl rfl (by omega) rfl) ?_
    | refine wG_pure (e_ia_vwm rfl rfl (by omega) (by omega) rfl) ?_
    | refine wG_pure (e_ia_vwi rfl rfl (by omega) rfl) ?_
    | refine wG_pure (e_ia_vwn rfl rfl (by omega) (by omega) rfl) ?_
    | refine wG_n rfl rfl ?_
    | refine wG_u rfl rfl ?_
    | refine wG_new (o_mks rfl rfl (by omega) (by decide)) ?_) | (refine wG_gd rfl (fun hgt => ?_) (fun hgf => ?_) <;> (first | simp only [eq_true hgt, decide_true] | simp only [eq_false hgf, decide_false])) | refine wC_cond_d rfl (fun hg => ?_) (fun hg => ?_))
      any_goals (exfalso; omega)
      refine wC_loop (Nat × Int × Int) (fun x => ⟨[(0, .vw nn (xs.map fRow)), (1, .int .i64 c), (2, .vw n2 (ts.map sRow)), (3, .vw n3 (es.map iRow)), (4, .int .i64 y), (14, .int .i64 x.2.1), (15, .int .i64 x.2.2), (16, .int .i64 (x.1 : Int))], [], 0⟩) (fun x => x.1 ≤ xs.length ∧ x.2.1 = sI (fun f => f.c = c) (fun f => cO ts es y f ts.length) xs x.1 ∧ x.2.2 = sI (fun f => f.c = c) (fun f => cA ts f ts.length) xs x.1) (fun x => xs.length - x.1) (0, 0, 0) ⟨Nat.zero_le _, rfl, rfl⟩ ?_ (fun _ _ => Nat.le_refl _) ?_
      · simp [LeP, leT, leH, lk, AV.ltr, ltrL, Ab.hg, upd, -List.getD_eq_getElem?_getD, -Int.default_eq_zero]
      rintro ⟨i, o, a⟩ ⟨hi, ho, ha⟩
      simp only at hi ho ha ⊢
      by_cases hi2 : i < xs.length
      · have bo := sI_bC (c := c) (ts := ts) (q := fun f j => ts.getD j default = f.t ∧ es.getD j default < y) hG (by omega) hi
        have ba := sI_bC (c := c) (ts := ts) (q := fun f j => ts.getD j default = f.t) hG (by omega) hi
        change 0 ≤ sI (fun f => f.c = c) (fun f => cO ts es y f ts.length) xs i ∧ sI (fun f => f.c = c) (fun f => cO ts es y f ts.length) xs i ≤ 30000000 at bo
        change 0 ≤ sI (fun f => f.c = c) (fun f => cA ts f ts.length) xs i ∧ sI (fun f => f.c = c) (fun f => cA ts f ts.length) xs i ≤ 30000000 at ba
        rw [← ho] at bo
        rw [← ha] at ba
        have gi := hG.b hi2
        have gin := gi.2.2.1
        repeat' (first | (first
    | refine wC_a rfl ?_
    | refine q_s rfl ?_
    | refine q_b rfl ?_
    | refine wG_nil ?_
    | refine wG_g rfl ?_
    | refine wG_pure (o_len_vwm rfl) ?_
    | refine wG_pure (o_not_d rfl) ?_
    | refine wG_p rfl (by first | exact rfl | omega) ?_
    | refine wG_pure (o_str2 rfl rfl rfl) ?_
    | refine wG_pure (e_istr rfl rfl (by omega)) ?_
    | refine wG_pure (e_istr0 rfl rfl (by omega)) ?_
    | refine wG_pure (o_not rfl) ?_
    | refine wG_pure (e_ia_vw0 rfl rfl (by omega) rfl) ?_
    | refine wG_pure (e_ia_vwp rfl rfl (by omega) rfl) ?_
    | refine wG_pure (e_ia_vwm rfl rfl (by omega) (by omega) rfl) ?_
    | refine wG_pure (e_ia_vwi rfl rfl (by omega) rfl) ?_
    | refine wG_pure (e_ia_vwn rfl rfl (by omega) (by omega) rfl) ?_
    | refine wG_n rfl rfl ?_
    | refine wG_u rfl rfl ?_
    | refine wG_new (o_mks rfl rfl (by omega) (by decide)) ?_) | (refine wG_gd rfl (fun hgt => ?_) (fun hgf => ?_) <;> (first | simp only [eq_true hgt, decide_true] | simp only [eq_false hgf, decide_false])) | refine wC_cond_d rfl (fun hg => ?_) (fun hg => ?_))
        any_goals (exfalso; omega)
        by_cases hc : (xs.getD i default).c = c
        · refine wC_loop (Nat × Int × Int) (fun x => ⟨[(0, .vw nn (xs.map fRow)), (1, .int .i64 c), (2, .vw n2 (ts.map sRow)), (3, .vw n3 (es.map iRow)), (4, .int .i64 y), (14, .int .i64 x.2.1), (15, .int .i64 x.2.2), (16, .int .i64 (i : Int)), (17, .int .i64 (x.1 : Int))], [], 0⟩) (fun x => x.1 ≤ ts.length ∧ x.2.1 = o + cO ts es y (xs.getD i default) x.1 ∧ x.2.2 = a + cA ts (xs.getD i default) x.1) (fun x => ts.length - x.1) (0, o, a) ⟨Nat.zero_le _, by simp [cO, cnt], by simp [cA, cnt]⟩ ?_ (fun _ _ => Nat.le_refl _) ?_
          · simp [LeP, leT, leH, lk, AV.ltr, ltrL, Ab.hg, upd, -List.getD_eq_getElem?_getD, -Int.default_eq_zero]
          rintro ⟨k, o', a'⟩ ⟨hk, ho', ha'⟩
          simp only at hk ho' ha' ⊢
          have b1 := cnt_b (q := fun j => ts.getD j default = (xs.getD i default).t ∧ es.getD j default < y) (n := (xs.getD i default).n) (by omega) k
          have b2 := cnt_b (q := fun j => ts.getD j default = (xs.getD i default).t) (n := (xs.getD i default).n) (by omega) k
          change 0 ≤ cO ts es y (xs.getD i default) k ∧ cO ts es y (xs.getD i default) k ≤ _ at b1
          change 0 ≤ cA ts (xs.getD i default) k ∧ cA ts (xs.getD i default) k ≤ _ at b2
          by_cases hk2 : k < ts.length
          · repeat' (first | (first
    | refine wC_a rfl ?_
    | refine q_s rfl ?_
    | refine q_b rfl ?_
    | refine wG_nil ?_
    | refine wG_g rfl ?_
    | refine wG_pure (o_len_vwm rfl) ?_
    | refine wG_pure (o_not_d rfl) ?_
    | refine wG_p rfl (by first | exact rfl | omega) ?_
    | refine wG_pure (o_str2 rfl rfl rfl) ?_
    | refine wG_pure (e_istr rfl rfl (by omega)) ?_
    | refine wG_pure (e_istr0 rfl rfl (by omega)) ?_
    | refine wG_pure (o_not rfl) ?_
    | refine wG_pure (e_ia_vw0 rfl rfl (by omega) rfl) ?_
    | refine wG_pure (e_ia_vwp rfl rfl (by omega) rfl) ?_
    | refine wG_pure (e_ia_vwm rfl rfl (by omega) (by omega) rfl) ?_
    | refine wG_pure (e_ia_vwi rfl rfl (by omega) rfl) ?_
    | refine wG_pure (e_ia_vwn rfl rfl (by omega) (by omega) rfl) ?_
    | refine wG_n rfl rfl ?_
    | refine wG_u rfl rfl ?_
    | refine wG_new (o_mks rfl rfl (by omega) (by decide)) ?_) | (refine wG_gd rfl (fun hgt => ?_) (fun hgf => ?_) <;> (first | simp only [eq_true hgt, decide_true] | simp only [eq_false hgf, decide_false])) | refine wC_cond_d rfl (fun hg => ?_) (fun hg => ?_))
            any_goals (exfalso; omega)
            all_goals (try simp only [Classical.not_not, ne_eq] at *)
            all_goals (first
              | (refine ⟨(k + 1, o', a'), ⟨by omega, ?_, ?_⟩, by simp only; omega, by simp [LeP, leT, leH, lk, AV.ltr, ltrL, Ab.hg, upd, -List.getD_eq_getElem?_getD, -Int.default_eq_zero]⟩
                 · show o' = o + cO ts es y (xs.getD i default) (k + 1); rw [cO_n1 (ts := ts) (f := xs.getD i default) (k := k) (es := es) (y := y) (by assumption), ho']
                 · show a' = a + cA ts (xs.getD i default) (k + 1); rw [cA_n (ts := ts) (f := xs.getD i default) (k := k) (by assumption), ha'])
              | (refine ⟨(k + 1, o' + (xs.getD i default).n, a' + (xs.getD i default).n), ⟨by omega, ?_, ?_⟩, by simp only; omega, by simp [LeP, leT, leH, lk, AV.ltr, ltrL, Ab.hg, upd, -List.getD_eq_getElem?_getD, -Int.default_eq_zero]⟩
                 · show o' + (xs.getD i default).n = o + cO ts es y (xs.getD i default) (k + 1); rw [cO_y (ts := ts) (f := xs.getD i default) (k := k) (es := es) (y := y) (by assumption) (by assumption), ho', Int.add_assoc]
                 · show a' + (xs.getD i default).n = a + cA ts (xs.getD i default) (k + 1); rw [cA_y (ts := ts) (f := xs.getD i default) (k := k) (by assumption), ha', Int.add_assoc])
              | (refine ⟨(k + 1, o', a' + (xs.getD i default).n), ⟨by omega, ?_, ?_⟩, by simp only; omega, by simp [LeP, leT, leH, lk, AV.ltr, ltrL, Ab.hg, upd, -List.getD_eq_getElem?_getD, -Int.default_eq_zero]⟩
                 · show o' = o + cO ts es y (xs.getD i default) (k + 1); rw [cO_n2 (ts := ts) (f := xs.getD i default) (k := k) (es := es) (y := y) (by assumption), ho']
                 · show a' + (xs.getD i default).n = a + cA ts (xs.getD i default) (k + 1); rw [cA_y (ts := ts) (f := xs.getD i default) (k := k) (by assumption), ha', Int.add_assoc]))
          · have hk3 : k = ts.length := by omega
            subst hk3
            repeat' (first | (first
    | refine wC_a rfl ?_
    | refine q_s rfl ?_
    | refine q_b rfl ?_
    | refine wG_nil ?_
    | refine wG_g rfl ?_
    | refine wG_pure (o_len_vwm rfl) ?_
    | refine wG_pure (o_not_d rfl) ?_
    | refine wG_p rfl (by first | exact rfl | omega) ?_
    | refine wG_pure (o_str2 rfl rfl rfl) ?_
    | refine wG_pure (e_istr rfl rfl (by omega)) ?_
    | refine wG_pure (e_istr0 rfl rfl (by omega)) ?_
    | refine wG_pure (o_not rfl) ?_
    | refine wG_pure (e_ia_vw0 rfl rfl (by omega) rfl) ?_
    | refine wG_pure (e_ia_vwp rfl rfl (by omega) rfl) ?_
    | refine wG_pure (e_ia_vwm rfl rfl (by omega) (by omega) rfl) ?_
    | refine wG_pure (e_ia_vwi rfl rfl (by omega) rfl) ?_
    | refine wG_pure (e_ia_vwn rfl rfl (by omega) (by omega) rfl) ?_
    | refine wG_n rfl rfl ?_
    | refine wG_u rfl rfl ?_
    | refine wG_new (o_mks rfl rfl (by omega) (by decide)) ?_) | (refine wG_gd rfl (fun hgt => ?_) (fun hgf => ?_) <;> (first | simp only [eq_true hgt, decide_true] | simp only [eq_false hgf, decide_false])) | refine wC_cond_d rfl (fun hg => ?_) (fun hg => ?_))
            any_goals (exfalso; omega)
            refine ⟨(i + 1, o', a'), ⟨by omega, ?_, ?_⟩, by simp only; omega, by simp [LeP, leT, leH, lk, AV.ltr, ltrL, Ab.hg, upd, -List.getD_eq_getElem?_getD, -Int.default_eq_zero]⟩
            · rw [ho', ho]; exact (sI_y (p := fun f => f.c = c) (g := fun f => cO ts es y f ts.length) hc).symm
            · rw [ha', ha]; exact (sI_y (p := fun f => f.c = c) (g := fun f => cA ts f ts.length) hc).symm
        · refine wC_loop Unit (fun _ => ⟨[(0, .vw nn (xs.map fRow)), (1, .int .i64 c), (2, .vw n2 (ts.map sRow)), (3, .vw n3 (es.map iRow)), (4, .int .i64 y), (14, .int .i64 o), (15, .int .i64 a), (16, .int .i64 (i : Int)), (17, .int .i64 0)], [], 0⟩) (fun _ => True) (fun _ => 0) () trivial ?_ (fun _ _ => Nat.le_refl _) ?_
          · simp [LeP, leT, leH, lk, AV.ltr, ltrL, Ab.hg, upd, -List.getD_eq_getElem?_getD, -Int.default_eq_zero]
          rintro ⟨⟩ -
          repeat' (first | (first
    | refine wC_a rfl ?_
    | refine q_s rfl ?_
    | refine q_b rfl ?_
    | refine wG_nil ?_
    | refine wG_g rfl ?_
    | refine wG_pure (o_len_vwm rfl) ?_
    | refine wG_pure (o_not_d rfl) ?_
    | refine wG_p rfl (by first | exact rfl | omega) ?_
    | refine wG_pure (o_str2 rfl rfl rfl) ?_
    | refine wG_pure (e_istr rfl rfl (by omega)) ?_
    | refine wG_pure (e_istr0 rfl rfl (by omega)) ?_
    | refine wG_pure (o_not rfl) ?_
    | refine wG_pure (e_ia_vw0 rfl rfl (by omega) rfl) ?_
    | refine wG_pure (e_ia_vwp rfl rfl (by omega) rfl) ?_
    | refine wG_pure (e_ia_vwm rfl rfl (by omega) (by omega) rfl) ?_
    | refine wG_pure (e_ia_vwi rfl rfl (by omega) rfl) ?_
    | refine wG_pure (e_ia_vwn rfl rfl (by omega) (by omega) rfl) ?_
    | refine wG_n rfl rfl ?_
    | refine wG_u rfl rfl ?_
    | refine wG_new (o_mks rfl rfl (by omega) (by decide)) ?_) | (refine wG_gd rfl (fun hgt => ?_) (fun hgf => ?_) <;> (first | simp only [eq_true hgt, decide_true] | simp only [eq_false hgf, decide_false])) | refine wC_cond_d rfl (fun hg => ?_) (fun hg => ?_))
          any_goals (exfalso; omega)
          all_goals (first | contradiction | skip)
          all_goals (refine ⟨(i + 1, o, a), ⟨by omega, ?_, ?_⟩, by simp only; omega, by simp [LeP, leT, leH, lk, AV.ltr, ltrL, Ab.hg, upd, -List.getD_eq_getElem?_getD, -Int.default_eq_zero]⟩)
          all_goals (first | (rw [ho]; exact (sI_n (p := fun f => f.c = c) (g := fun f => cO ts es y f ts.length) hc).symm) | (rw [ha]; exact (sI_n (p := fun f => f.c = c) (g := fun f => cA ts f ts.length) hc).symm))
      · have hi3 : i = xs.length := by omega
        subst hi3
        repeat' (first | (first
    | refine wC_a rfl ?_
    | refine q_s rfl ?_
    | refine q_b rfl ?_
    | refine wG_nil ?_
    | refine wG_g rfl ?_
    | refine wG_pure (o_len_vwm rfl) ?_
    | refine wG_pure (o_not_d rfl) ?_
    | refine wG_p rfl (by first | exact rfl | omega) ?_
    | refine wG_pure (o_str2 rfl rfl rfl) ?_
    | refine wG_pure (e_istr rfl rfl (by omega)) ?_
    | refine wG_pure (e_istr0 rfl rfl (by omega)) ?_
    | refine wG_pure (o_not rfl) ?_
    | refine wG_pure (e_ia_vw0 rfl rfl (by omega) rfl) ?_
    | refine wG_pure (e_ia_vwp rfl rfl (by omega) rfl) ?_
    | refine wG_pure (e_ia_vwm rfl rfl (by omega) (by omega) rfl) ?_
    | refine wG_pure (e_ia_vwi rfl rfl (by omega) rfl) ?_
    | refine wG_pure (e_ia_vwn rfl rfl (by omega) (by omega) rfl) ?_
    | refine wG_n rfl rfl ?_
    | refine wG_u rfl rfl ?_
    | refine wG_new (o_mks rfl rfl (by omega) (by decide)) ?_) | (refine wG_gd rfl (fun hgt => ?_) (fun hgf => ?_) <;> (first | simp only [eq_true hgt, decide_true] | simp only [eq_false hgf, decide_false])) | refine wC_cond_d rfl (fun hg => ?_) (fun hg => ?_))
        any_goals (exfalso; omega)
        refine ret_pl (.inr rfl) (retVs_3 (retV_mv rfl) (retV_mv rfl) (retV_mv rfl)) ?_ rfl (by simp)
        rw [ho, ha]; rfl
  · rw [hno (fun h => hV h.1)]
    repeat' (first | refine wG_call c1 rfl rfl ?_ | refine wG_call (con44 _ _ _) rfl rfl ?_ | (first
    | refine wC_a rfl ?_
    | refine q_s rfl ?_
    | refine q_b rfl ?_
    | refine wG_nil ?_
    | refine wG_g rfl ?_
    | refine wG_pure (o_len_vwm rfl) ?_
    | refine wG_pure (o_not_d rfl) ?_
    | refine wG_p rfl (by first | exact rfl | omega) ?_
    | refine wG_pure (o_str2 rfl rfl rfl) ?_
    | refine wG_pure (e_istr rfl rfl (by omega)) ?_
    | refine wG_pure (e_istr0 rfl rfl (by omega)) ?_
    | refine wG_pure (o_not rfl) ?_
    | refine wG_pure (e_ia_vw0 rfl rfl (by omega) rfl) ?_
    | refine wG_pure (e_ia_vwp rfl rfl (by omega) rfl) ?_
    | refine wG_pure (e_ia_vwm rfl rfl (by omega) (by omega) rfl) ?_
    | refine wG_pure (e_ia_vwi rfl rfl (by omega) rfl) ?_
    | refine wG_pure (e_ia_vwn rfl rfl (by omega) (by omega) rfl) ?_
    | refine wG_n rfl rfl ?_
    | refine wG_u rfl rfl ?_
    | refine wG_new (o_mks rfl rfl (by omega) (by decide)) ?_) | (refine wG_gd rfl (fun hgt => ?_) (fun hgf => ?_) <;> (first | simp only [eq_true hgt, decide_true] | simp only [eq_false hgf, decide_false])) | refine wC_cond_d rfl (fun hg => ?_) (fun hg => ?_))
    all_goals (try simp only [Classical.not_not] at *)
    all_goals (first
      | exact ret_pl (.inr rfl) (retVs_3 (retV_mv rfl) (retV_mv rfl) (retV_mv rfl)) rfl rfl (by simp)
      | (exfalso; exact hV ⟨by assumption, by omega, by omega, by omega, by omega⟩))
end Go.Proofs.Ytjfppdgomnjnmaa.Fnd
