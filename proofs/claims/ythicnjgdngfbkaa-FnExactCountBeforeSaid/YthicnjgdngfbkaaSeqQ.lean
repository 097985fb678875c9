/- The smallest and the greatest place of a context: both sides; the laws on places and on what comes before. -/
import Derived.Test.YthicnjgdngfbkaaSeqO
import Derived.Test.YthicnjgdngfbkaaMrkR
namespace Go.Proofs.Ythicnjgdngfbkaa.Rec
open Go Go.Proofs.Ythicnjgdngfbkaa.Ab Go.Proofs.Ythicnjgdngfbkaa.Il
attribute [local irreducible] wpO wpC wpDr wpQ wpG wpE stepA seqQ blkQ Ret RetG ev
set_option maxRecDepth 10000
set_option maxHeartbeats 8000000
set_option linter.unusedSimpArgs false
set_option linter.unusedVariables false

def ac4 : AC := (.seq (.reg [⟨(some 2), none, (.box 2 true (.t 0))⟩, ⟨(some 4), none, (.mv (.c (.bool false)))⟩]) (.seq (.reg [⟨(some 5), none, (.mv (.c (.int .i64 1048576)))⟩]) (.seq (.reg [⟨(some 13), none, (.ld true 2 (.t 2))⟩, ⟨(some 14), none, (.mv (.t 5))⟩, ⟨(some 15), none, (.call 12 [(.t 13), (.t 14)])⟩, ⟨(some 5), none, (.mv (.t 15))⟩]) (.seq (.seq (.reg [⟨(some 16), none, (.mv (.t 5))⟩, ⟨(some 17), none, (.bin .lss (.t 16) (.c (.int .i64 0)))⟩]) (.cond (.t 17) (.seq (.reg [⟨(some 4), none, (.mv (.c (.bool true)))⟩]) .ret) .skip)) (.seq (.reg [⟨(some 19), none, (.ld true 2 (.t 2))⟩, ⟨(some 20), none, (.call 14 [(.t 19)])⟩, ⟨(some 21), none, (.mv (.t 1))⟩, ⟨(some 22), none, (.call 17 [(.t 20), (.t 21)])⟩, ⟨(some 18), none, (.mv (.t 22))⟩, ⟨(some 23), none, (.ext (.t 18) 0)⟩, ⟨(some 24), none, (.ext (.t 18) 1)⟩, ⟨(some 25), none, (.ext (.t 18) 2)⟩, ⟨(some 6), none, (.mv (.t 23))⟩, ⟨(some 7), none, (.mv (.t 24))⟩, ⟨(some 8), none, (.mv (.t 25))⟩]) (.seq (.reg [⟨(some 26), none, (.ld true 2 (.t 2))⟩, ⟨(some 27), none, (.call 14 [(.t 26)])⟩, ⟨(some 9), none, (.alloc [.nilS, .nilS])⟩, ⟨none, none, (.st 2 (.t 9) (.t 27))⟩]) (.seq (.reg [⟨(some 29), none, (.ld true 2 (.t 9))⟩, ⟨(some 30), none, (.mv (.t 1))⟩, ⟨(some 31), none, (.call 18 [(.t 29), (.t 30)])⟩, ⟨(some 28), none, (.mv (.t 31))⟩, ⟨(some 32), none, (.ext (.t 28) 0)⟩, ⟨(some 33), none, (.ext (.t 28) 1)⟩, ⟨(some 34), none, (.ext (.t 28) 2)⟩, ⟨(some 10), none, (.mv (.t 32))⟩, ⟨(some 11), none, (.mv (.t 33))⟩, ⟨(some 12), none, (.mv (.t 34))⟩]) (.seq (.seq (.reg [⟨(some 35), none, (.mv (.t 10))⟩, ⟨(some 36), none, (.mv (.t 6))⟩, ⟨(some 37), none, (.bin .neq (.t 35) (.t 36))⟩, ⟨(some 38), none, (.mv (.t 37))⟩, ⟨(some 39), (some (38, false)), (.mv (.t 11))⟩, ⟨(some 40), (some (38, false)), (.mv (.t 7))⟩, ⟨(some 41), (some (38, false)), (.bin .neq (.t 39) (.t 40))⟩, ⟨(some 42), none, (.pick (.t 38) (.c (.bool true)) (.t 41))⟩, ⟨(some 43), none, (.mv (.t 42))⟩, ⟨(some 44), (some (43, false)), (.mv (.t 12))⟩, ⟨(some 45), (some (43, false)), (.mv (.t 8))⟩, ⟨(some 46), (some (43, false)), (.bool2 true (.t 44) (.t 45))⟩, ⟨(some 47), none, (.pick (.t 43) (.c (.bool true)) (.t 46))⟩]) (.cond (.t 47) (.seq (.reg [⟨(some 4), none, (.mv (.c (.bool false)))⟩]) .ret) .skip)) (.seq (.seq (.dreg [⟨(some 48), none, (.ld true 2 (.t 9))⟩, ⟨(some 49), none, (.ld true 2 (.t 2))⟩, ⟨(some 50), none, (.call 14 [(.t 49)])⟩, ⟨(some 51), none, (.call 16 [(.t 48), (.t 50)])⟩, ⟨(some 52), none, (.un .not (.t 51))⟩] [[], [], [1], [0, 1, 2], [0, 1, 2, 3]]) (.cond (.t 52) (.seq (.reg [⟨(some 4), none, (.mv (.c (.bool false)))⟩]) .ret) .skip)) (.seq (.reg [⟨(some 4), none, (.mv (.c (.bool true)))⟩]) .ret))))))))))
def ro4 : List AOp := [(.mv (.t 4))]
theorem fun4 : Fun Try.prog 4 53 ac4 ro4 := ⟨Try.f4, _, Try.func4, by kernel_rfl, rfl, rfl, by kernel_rfl, by kernel_rfl, by decide⟩
def ac5 : AC := (.seq (.reg [⟨(some 3), none, (.box 2 true (.t 0))⟩, ⟨(some 6), none, (.mv (.c (.bool false)))⟩]) (.seq (.reg [⟨(some 7), none, (.mv (.c (.int .i64 1048576)))⟩]) (.seq (.reg [⟨(some 13), none, (.ld true 2 (.t 3))⟩, ⟨(some 14), none, (.mv (.t 7))⟩, ⟨(some 15), none, (.call 12 [(.t 13), (.t 14)])⟩, ⟨(some 7), none, (.mv (.t 15))⟩]) (.seq (.seq (.reg [⟨(some 16), none, (.mv (.t 7))⟩, ⟨(some 17), none, (.bin .lss (.t 16) (.c (.int .i64 0)))⟩]) (.cond (.t 17) (.seq (.reg [⟨(some 6), none, (.mv (.c (.bool true)))⟩]) .ret) .skip)) (.seq (.reg [⟨(some 19), none, (.ld true 2 (.t 3))⟩, ⟨(some 20), none, (.call 14 [(.t 19)])⟩, ⟨(some 21), none, (.mv (.t 1))⟩, ⟨(some 22), none, (.mv (.t 2))⟩, ⟨(some 23), none, (.call 19 [(.t 20), (.t 21), (.t 22)])⟩, ⟨(some 18), none, (.mv (.t 23))⟩, ⟨(some 24), none, (.ext (.t 18) 0)⟩, ⟨(some 25), none, (.ext (.t 18) 1)⟩, ⟨(some 8), none, (.mv (.t 24))⟩, ⟨(some 9), none, (.mv (.t 25))⟩]) (.seq (.reg [⟨(some 26), none, (.ld true 2 (.t 3))⟩, ⟨(some 27), none, (.call 14 [(.t 26)])⟩, ⟨(some 10), none, (.alloc [.nilS, .nilS])⟩, ⟨none, none, (.st 2 (.t 10) (.t 27))⟩]) (.seq (.reg [⟨(some 29), none, (.ld true 2 (.t 10))⟩, ⟨(some 30), none, (.mv (.t 1))⟩, ⟨(some 31), none, (.mv (.t 2))⟩, ⟨(some 32), none, (.call 20 [(.t 29), (.t 30), (.t 31)])⟩, ⟨(some 28), none, (.mv (.t 32))⟩, ⟨(some 33), none, (.ext (.t 28) 0)⟩, ⟨(some 34), none, (.ext (.t 28) 1)⟩, ⟨(some 11), none, (.mv (.t 33))⟩, ⟨(some 12), none, (.mv (.t 34))⟩]) (.seq (.seq (.reg [⟨(some 35), none, (.mv (.t 11))⟩, ⟨(some 36), none, (.mv (.t 8))⟩, ⟨(some 37), none, (.bin .neq (.t 35) (.t 36))⟩, ⟨(some 38), none, (.mv (.t 37))⟩, ⟨(some 39), (some (38, false)), (.mv (.t 12))⟩, ⟨(some 40), (some (38, false)), (.mv (.t 9))⟩, ⟨(some 41), (some (38, false)), (.bool2 true (.t 39) (.t 40))⟩, ⟨(some 42), none, (.pick (.t 38) (.c (.bool true)) (.t 41))⟩]) (.cond (.t 42) (.seq (.reg [⟨(some 6), none, (.mv (.c (.bool false)))⟩]) .ret) .skip)) (.seq (.seq (.dreg [⟨(some 43), none, (.ld true 2 (.t 10))⟩, ⟨(some 44), none, (.ld true 2 (.t 3))⟩, ⟨(some 45), none, (.call 14 [(.t 44)])⟩, ⟨(some 46), none, (.call 16 [(.t 43), (.t 45)])⟩, ⟨(some 47), none, (.un .not (.t 46))⟩] [[], [], [1], [0, 1, 2], [0, 1, 2, 3]]) (.cond (.t 47) (.seq (.reg [⟨(some 6), none, (.mv (.c (.bool false)))⟩]) .ret) .skip)) (.seq (.reg [⟨(some 6), none, (.mv (.c (.bool true)))⟩]) .ret))))))))))
def ro5 : List AOp := [(.mv (.t 6))]
theorem fun5 : Fun Try.prog 5 48 ac5 ro5 := ⟨Try.f5, _, Try.func5, by kernel_rfl, rfl, rfl, by kernel_rfl, by kernel_rfl, by decide⟩
def ac9 : AC := (.seq (.reg [⟨(some 2), none, (.box 2 true (.t 0))⟩, ⟨(some 4), none, (.mv (.c (.bool false)))⟩]) (.seq (.reg [⟨(some 5), none, (.mv (.c (.int .i64 1048576)))⟩]) (.seq (.reg [⟨(some 16), none, (.ld true 2 (.t 2))⟩, ⟨(some 17), none, (.mv (.t 5))⟩, ⟨(some 18), none, (.call 12 [(.t 16), (.t 17)])⟩, ⟨(some 5), none, (.mv (.t 18))⟩]) (.seq (.seq (.reg [⟨(some 19), none, (.mv (.t 5))⟩, ⟨(some 20), none, (.bin .lss (.t 19) (.c (.int .i64 0)))⟩]) (.cond (.t 20) (.seq (.reg [⟨(some 4), none, (.mv (.c (.bool true)))⟩]) .ret) .skip)) (.seq (.reg [⟨(some 22), none, (.ld true 2 (.t 2))⟩, ⟨(some 23), none, (.call 14 [(.t 22)])⟩, ⟨(some 24), none, (.mv (.t 1))⟩, ⟨(some 25), none, (.call 29 [(.t 23), (.t 24)])⟩, ⟨(some 21), none, (.mv (.t 25))⟩, ⟨(some 26), none, (.ext (.t 21) 0)⟩, ⟨(some 27), none, (.ext (.t 21) 1)⟩, ⟨(some 6), none, (.mv (.t 26))⟩, ⟨(some 7), none, (.mv (.t 27))⟩]) (.seq (.reg [⟨(some 28), none, (.ld true 2 (.t 2))⟩, ⟨(some 29), none, (.call 14 [(.t 28)])⟩, ⟨(some 8), none, (.alloc [.nilS, .nilS])⟩, ⟨none, none, (.st 2 (.t 8) (.t 29))⟩]) (.seq (.reg [⟨(some 31), none, (.ld true 2 (.t 8))⟩, ⟨(some 32), none, (.mv (.t 1))⟩, ⟨(some 33), none, (.call 30 [(.t 31), (.t 32)])⟩, ⟨(some 30), none, (.mv (.t 33))⟩, ⟨(some 34), none, (.ext (.t 30) 0)⟩, ⟨(some 35), none, (.ext (.t 30) 1)⟩, ⟨(some 9), none, (.mv (.t 34))⟩, ⟨(some 10), none, (.mv (.t 35))⟩]) (.seq (.seq (.reg [⟨(some 36), none, (.mv (.t 9))⟩, ⟨(some 37), none, (.mv (.t 6))⟩, ⟨(some 38), none, (.call 24 [(.t 36), (.t 37)])⟩, ⟨(some 39), none, (.un .not (.t 38))⟩, ⟨(some 40), none, (.mv (.t 39))⟩, ⟨(some 41), (some (40, false)), (.mv (.t 10))⟩, ⟨(some 42), (some (40, false)), (.mv (.t 7))⟩, ⟨(some 43), (some (40, false)), (.bool2 true (.t 41) (.t 42))⟩, ⟨(some 44), none, (.pick (.t 40) (.c (.bool true)) (.t 43))⟩]) (.cond (.t 44) (.seq (.reg [⟨(some 4), none, (.mv (.c (.bool false)))⟩]) .ret) .skip)) (.seq (.seq (.dreg [⟨(some 45), none, (.ld true 2 (.t 8))⟩, ⟨(some 46), none, (.ld true 2 (.t 2))⟩, ⟨(some 47), none, (.call 14 [(.t 46)])⟩, ⟨(some 48), none, (.call 16 [(.t 45), (.t 47)])⟩, ⟨(some 49), none, (.un .not (.t 48))⟩] [[], [], [1], [0, 1, 2], [0, 1, 2, 3]]) (.cond (.t 49) (.seq (.reg [⟨(some 4), none, (.mv (.c (.bool false)))⟩]) .ret) .skip)) (.seq (.reg [⟨(some 11), none, (.mv (.c (.int .i64 1)))⟩]) (.seq (.reg [⟨(some 50), none, (.ld true 2 (.t 8))⟩, ⟨(some 51), none, (.mv (.t 11))⟩, ⟨(some 52), none, (.call 31 [(.t 50), (.t 51)])⟩, ⟨(some 11), none, (.mv (.t 52))⟩]) (.seq (.seq (.reg [⟨(some 53), none, (.mv (.t 11))⟩, ⟨(some 54), none, (.bin .lss (.t 53) (.c (.int .i64 0)))⟩, ⟨(some 55), none, (.mv (.t 54))⟩, ⟨(some 56), (some (55, false)), (.mv (.t 9))⟩, ⟨(some 57), (some (55, false)), (.mv (.t 6))⟩, ⟨(some 58), (some (55, false)), (.call 24 [(.t 56), (.t 57)])⟩, ⟨(some 59), (some (55, false)), (.un .not (.t 58))⟩, ⟨(some 60), none, (.pick (.t 55) (.c (.bool true)) (.t 59))⟩, ⟨(some 61), none, (.mv (.t 60))⟩, ⟨(some 62), (some (61, false)), (.mv (.t 10))⟩, ⟨(some 63), (some (61, false)), (.mv (.t 7))⟩, ⟨(some 64), (some (61, false)), (.bool2 true (.t 62) (.t 63))⟩, ⟨(some 65), none, (.pick (.t 61) (.c (.bool true)) (.t 64))⟩]) (.cond (.t 65) (.seq (.reg [⟨(some 4), none, (.mv (.c (.bool false)))⟩]) .ret) .skip)) (.seq (.reg [⟨(some 12), none, (.mv (.c (.int .i64 1)))⟩]) (.seq (.reg [⟨(some 66), none, (.mv (.t 9))⟩, ⟨(some 67), none, (.mv (.t 12))⟩, ⟨(some 68), none, (.call 32 [(.t 66), (.t 67)])⟩, ⟨(some 12), none, (.mv (.t 68))⟩]) (.seq (.reg [⟨(some 13), none, (.mv (.c (.int .i64 1)))⟩]) (.seq (.reg [⟨(some 69), none, (.mv (.t 9))⟩, ⟨(some 70), none, (.mv (.t 13))⟩, ⟨(some 71), none, (.call 33 [(.t 69), (.t 70)])⟩, ⟨(some 13), none, (.mv (.t 71))⟩]) (.seq (.seq (.reg [⟨(some 72), none, (.mv (.t 13))⟩, ⟨(some 73), none, (.bin .lss (.t 72) (.c (.int .i64 0)))⟩]) (.cond (.t 73) (.seq (.reg [⟨(some 4), none, (.mv (.c (.bool false)))⟩]) .ret) .skip)) (.seq (.seq (.reg [⟨(some 74), none, (.mv (.t 13))⟩, ⟨(some 75), none, (.mv (.t 12))⟩, ⟨(some 76), none, (.bin .neq (.t 74) (.t 75))⟩]) (.cond (.t 76) (.seq (.reg [⟨(some 4), none, (.mv (.c (.bool false)))⟩]) .ret) .skip)) (.seq (.reg [⟨(some 78), none, (.ld true 2 (.t 2))⟩, ⟨(some 79), none, (.call 14 [(.t 78)])⟩, ⟨(some 80), none, (.mv (.t 1))⟩, ⟨(some 81), none, (.call 30 [(.t 79), (.t 80)])⟩, ⟨(some 77), none, (.mv (.t 81))⟩, ⟨(some 82), none, (.ext (.t 77) 0)⟩, ⟨(some 83), none, (.ext (.t 77) 1)⟩, ⟨(some 14), none, (.mv (.t 82))⟩, ⟨(some 15), none, (.mv (.t 83))⟩]) (.seq (.seq (.reg [⟨(some 84), none, (.mv (.t 14))⟩, ⟨(some 85), none, (.mv (.t 6))⟩, ⟨(some 86), none, (.call 24 [(.t 84), (.t 85)])⟩, ⟨(some 87), none, (.un .not (.t 86))⟩, ⟨(some 88), none, (.mv (.t 87))⟩, ⟨(some 89), (some (88, false)), (.mv (.t 15))⟩, ⟨(some 90), (some (88, false)), (.mv (.t 7))⟩, ⟨(some 91), (some (88, false)), (.bool2 true (.t 89) (.t 90))⟩, ⟨(some 92), none, (.pick (.t 88) (.c (.bool true)) (.t 91))⟩]) (.cond (.t 92) (.seq (.reg [⟨(some 4), none, (.mv (.c (.bool false)))⟩]) .ret) .skip)) (.seq (.reg [⟨(some 13), none, (.mv (.c (.int .i64 1)))⟩]) (.seq (.reg [⟨(some 93), none, (.mv (.t 9))⟩, ⟨(some 94), none, (.mv (.t 13))⟩, ⟨(some 95), none, (.call 33 [(.t 93), (.t 94)])⟩, ⟨(some 13), none, (.mv (.t 95))⟩]) (.seq (.seq (.reg [⟨(some 96), none, (.mv (.t 13))⟩, ⟨(some 97), none, (.bin .lss (.t 96) (.c (.int .i64 0)))⟩]) (.cond (.t 97) (.seq (.reg [⟨(some 4), none, (.mv (.c (.bool false)))⟩]) .ret) .skip)) (.seq (.seq (.reg [⟨(some 98), none, (.mv (.t 13))⟩, ⟨(some 99), none, (.mv (.t 12))⟩, ⟨(some 100), none, (.bin .neq (.t 98) (.t 99))⟩]) (.cond (.t 100) (.seq (.reg [⟨(some 4), none, (.mv (.c (.bool false)))⟩]) .ret) .skip)) (.seq (.reg [⟨(some 4), none, (.mv (.c (.bool true)))⟩]) .ret)))))))))))))))))))))))))
def ro9 : List AOp := [(.mv (.t 4))]
theorem fun9 : Fun Try.prog 9 101 ac9 ro9 := ⟨Try.f9, _, Try.func9, by kernel_rfl, rfl, rfl, by kernel_rfl, by kernel_rfl, by decide⟩
def ac17 : AC := (.seq (.reg [⟨(some 2), none, (.box 2 true (.t 0))⟩, ⟨(some 4), none, (.mv (.c (.int .i64 0)))⟩, ⟨(some 5), none, (.mv (.c (.int .i64 0)))⟩, ⟨(some 6), none, (.mv (.c (.bool false)))⟩]) (.seq (.reg [⟨(some 12), none, (.ld true 2 (.t 2))⟩, ⟨(some 13), none, (.mv (.t 1))⟩, ⟨(some 14), none, (.call 48 [(.t 12), (.t 13)])⟩, ⟨(some 7), none, (.mv (.t 14))⟩]) (.seq (.seq (.reg [⟨(some 15), none, (.ld true 2 (.t 2))⟩, ⟨(some 16), none, (.call 40 [(.t 15)])⟩, ⟨(some 17), none, (.un .not (.t 16))⟩, ⟨(some 18), none, (.mv (.t 17))⟩, ⟨(some 19), (some (18, false)), (.mv (.t 7))⟩, ⟨(some 20), (some (18, false)), (.bin .lss (.t 19) (.c (.int .i64 0)))⟩, ⟨(some 21), none, (.pick (.t 18) (.c (.bool true)) (.t 20))⟩]) (.cond (.t 21) (.seq (.reg [⟨(some 4), none, (.mv (.c (.int .i64 0)))⟩, ⟨(some 5), none, (.mv (.c (.int .i64 0)))⟩, ⟨(some 6), none, (.mv (.c (.bool false)))⟩]) .ret) .skip)) (.seq (.reg [⟨(some 22), none, (.ld true 2 (.t 2))⟩, ⟨(some 23), none, (.call 42 [(.t 22)])⟩, ⟨(some 8), none, (.mv (.t 23))⟩]) (.seq (.reg [⟨(some 9), none, (.mv (.c (.int .i64 0)))⟩, ⟨(some 10), none, (.mv (.c (.int .i64 0)))⟩]) (.seq (.seq (.reg [⟨(some 11), none, (.mv (.c (.int .i64 0)))⟩]) (.blk 0 (.loop (.seq (.seq (.reg [⟨(some 24), none, (.mv (.t 11))⟩, ⟨(some 25), none, (.mv (.t 8))⟩, ⟨(some 26), none, (.len (.t 25))⟩, ⟨(some 27), none, (.bin .lss (.t 24) (.t 26))⟩]) (.cond (.t 27) .skip (.exit 0))) (.seq (.blk 1 (.seq (.seq (.reg [⟨(some 30), none, (.mv (.t 8))⟩, ⟨(some 31), none, (.mv (.t 11))⟩, ⟨(some 32), none, (.ia 1 (.t 30) (.t 31))⟩, ⟨(some 33), none, (.ld false 1 (.t 32))⟩, ⟨(some 34), none, (.mv (.t 7))⟩, ⟨(some 35), none, (.call 49 [(.t 33), (.t 34)])⟩]) (.cond (.t 35) (.reg [⟨(some 36), none, (.mv (.t 9))⟩, ⟨(some 37), none, (.bin .add (.t 36) (.c (.int .i64 1)))⟩, ⟨(some 9), none, (.mv (.t 37))⟩]) .skip)) (.seq (.reg [⟨(some 38), none, (.mv (.t 8))⟩, ⟨(some 39), none, (.mv (.t 7))⟩, ⟨(some 40), none, (.ia 1 (.t 38) (.t 39))⟩, ⟨(some 41), none, (.ld false 1 (.t 40))⟩, ⟨(some 42), none, (.mv (.t 11))⟩, ⟨(some 43), none, (.call 49 [(.t 41), (.t 42)])⟩]) (.cond (.t 43) (.reg [⟨(some 44), none, (.mv (.t 10))⟩, ⟨(some 45), none, (.bin .add (.t 44) (.c (.int .i64 1)))⟩, ⟨(some 10), none, (.mv (.t 45))⟩]) .skip)))) (.reg [⟨(some 28), none, (.mv (.t 11))⟩, ⟨(some 29), none, (.bin .add (.t 28) (.c (.int .i64 1)))⟩, ⟨(some 11), none, (.mv (.t 29))⟩])))))) (.seq (.reg [⟨(some 46), none, (.mv (.t 9))⟩, ⟨(some 47), none, (.mv (.t 8))⟩, ⟨(some 48), none, (.len (.t 47))⟩, ⟨(some 49), none, (.bin .sub (.t 48) (.c (.int .i64 1)))⟩, ⟨(some 50), none, (.mv (.t 10))⟩, ⟨(some 51), none, (.bin .sub (.t 49) (.t 50))⟩, ⟨(some 4), none, (.mv (.t 46))⟩, ⟨(some 5), none, (.mv (.t 51))⟩, ⟨(some 6), none, (.mv (.c (.bool true)))⟩]) .ret)))))))
def ro17 : List AOp := [(.mv (.t 4)), (.mv (.t 5)), (.mv (.t 6))]
theorem fun17 : Fun Try.prog 17 52 ac17 ro17 := ⟨Try.f17, _, Try.func17, by kernel_rfl, rfl, rfl, by kernel_rfl, by kernel_rfl, by decide⟩
def ac18 : AC := (.seq (.reg [⟨(some 2), none, (.box 2 true (.t 0))⟩, ⟨(some 4), none, (.mv (.c (.int .i64 0)))⟩, ⟨(some 5), none, (.mv (.c (.int .i64 0)))⟩, ⟨(some 6), none, (.mv (.c (.bool false)))⟩]) (.seq (.reg [⟨(some 14), none, (.ld true 2 (.t 2))⟩, ⟨(some 15), none, (.mv (.t 1))⟩, ⟨(some 16), none, (.call 30 [(.t 14), (.t 15)])⟩, ⟨(some 13), none, (.mv (.t 16))⟩, ⟨(some 17), none, (.ext (.t 13) 0)⟩, ⟨(some 18), none, (.ext (.t 13) 1)⟩, ⟨(some 7), none, (.mv (.t 17))⟩, ⟨(some 8), none, (.mv (.t 18))⟩]) (.seq (.seq (.reg [⟨(some 19), none, (.mv (.t 8))⟩, ⟨(some 20), none, (.un .not (.t 19))⟩]) (.cond (.t 20) (.seq (.reg [⟨(some 4), none, (.mv (.c (.int .i64 0)))⟩, ⟨(some 5), none, (.mv (.c (.int .i64 0)))⟩, ⟨(some 6), none, (.mv (.c (.bool false)))⟩]) .ret) .skip)) (.seq (.reg [⟨(some 9), none, (.mv (.c (.int .i64 (-1))))⟩, ⟨(some 10), none, (.mv (.c (.int .i64 0)))⟩]) (.seq (.seq (.reg [⟨(some 21), none, (.mv (.t 7))⟩, ⟨(some 22), none, (.len (.t 21))⟩, ⟨(some 23), none, (.mv (.c (.int .i64 0)))⟩]) (.blk 0 (.loop (.seq (.reg [⟨(some 24), none, (.bin .lss (.t 23) (.t 22))⟩]) (.seq (.cond (.t 24) .skip (.exit 0)) (.seq (.blk 1 (.seq (.reg [⟨(some 25), none, (.mv (.t 23))⟩, ⟨(some 26), none, (.ia 1 (.t 21) (.t 23))⟩, ⟨(some 27), none, (.ld false 1 (.t 26))⟩, ⟨(some 11), none, (.mv (.t 25))⟩, ⟨(some 12), none, (.mv (.t 27))⟩]) (.seq (.seq (.reg [⟨(some 28), none, (.mv (.t 12))⟩, ⟨(some 29), none, (.bin .eql (.t 28) (.c (.int .i64 0)))⟩]) (.cond (.t 29) (.exit 1) .skip)) (.seq (.seq (.reg [⟨(some 30), none, (.mv (.t 9))⟩, ⟨(some 31), none, (.bin .lss (.t 30) (.c (.int .i64 0)))⟩]) (.cond (.t 31) (.reg [⟨(some 32), none, (.mv (.t 11))⟩, ⟨(some 9), none, (.mv (.t 32))⟩]) .skip)) (.reg [⟨(some 33), none, (.mv (.t 11))⟩, ⟨(some 10), none, (.mv (.t 33))⟩]))))) (.reg [⟨(some 34), none, (.bin .add (.t 23) (.c (.int .i64 1)))⟩, ⟨(some 23), none, (.mv (.t 34))⟩]))))))) (.seq (.reg [⟨(some 35), none, (.mv (.t 9))⟩, ⟨(some 36), none, (.mv (.t 10))⟩, ⟨(some 4), none, (.mv (.t 35))⟩, ⟨(some 5), none, (.mv (.t 36))⟩, ⟨(some 6), none, (.mv (.c (.bool true)))⟩]) .ret))))))
def ro18 : List AOp := [(.mv (.t 4)), (.mv (.t 5)), (.mv (.t 6))]
theorem fun18 : Fun Try.prog 18 37 ac18 ro18 := ⟨Try.f18, _, Try.func18, by kernel_rfl, rfl, rfl, by kernel_rfl, by kernel_rfl, by decide⟩

noncomputable def prV (r : Rc) (i : Nat) : AV := .tup [.int .i64 ((nBf r.cs.length (later r) i r.cs.length : Nat) : Int), .int .i64 ((r.cs.length : Int) - 1 - ((nAf r.cs.length (later r) i r.cs.length : Nat) : Int)), .bool true]
theorem nBf_le (n : Nat) (W : Nat → Nat → Bool) (i : Nat) : ∀ k, nBf n W i k ≤ k
  | 0 => Nat.le_refl _
  | k + 1 => by
    have := nBf_le n W i k
    rw [nBf]; split <;> omega
theorem nAf_le (n : Nat) (W : Nat → Nat → Bool) (i : Nat) : ∀ k, nAf n W i k ≤ k
  | 0 => Nat.le_refl _
  | k + 1 => by
    have := nAf_le n W i k
    rw [nAf]; split <;> omega
theorem con17_yes (a b : Bool) (r : Rc) (x : Int) (h1 : r.cs.length ≤ 1048576) (h2 : r.xs.length ≤ 1048576) (hC : GoodC r) {i : Nat} (hi : idx r x = i) : Con Try.prog 17 true [.agg (rRow a b r), .int .i64 x] (prV r i) [] := by
  classical
  refine con_of_wp mixed fun17 (by simp) [] plain_nil ?_
  unfold ac17 ro17
  simp only [zipT]
  have c1 := con40 a b r h1 h2
  rw [decide_eq_true hC] at c1
  have h10 := hC.1.1
  have cx := con48 a b r x h1
  have bx := idx_b r x
  rw [hi] at cx bx
  have hi2 : i < r.cs.length := by omega
  have c3 := con42 a b r hC.1
  have e0 : ∀ n : Nat, 0 + ((n : Int)).toNat = n := fun n => by simp
  have d1 : decide ((i : Int) < 0) = false := decide_eq_false (by omega)
  have hgi := maskL_get (W := later r) hi2
  have hmi := mk10 (later r i) h10
  repeat (first | refine wG_call cx rfl rfl ?_ | refine wG_call c1 rfl rfl ?_ | (first
    | refine wC_a rfl ?_
    | refine q_s rfl ?_
    | refine q_b rfl ?_
    | refine wG_nil ?_
    | refine wG_g rfl ?_
    | refine wG_pure (o_len_vwm rfl) ?_
    | refine wG_pure (o_not_d rfl) ?_
    | refine wG_p rfl (by first | exact rfl | omega) ?_
    | refine wG_pure (o_str2 rfl rfl rfl) ?_
    | refine wG_pure (e_istr rfl rfl (by omega)) ?_
    | refine wG_pure (e_istr0 rfl rfl (by omega)) ?_
    | refine wG_pure (o_not rfl) ?_
    | refine wG_pure (e_ia_vw0 rfl rfl (by omega) rfl) ?_
    | refine wG_pure (e_ia_vwp rfl rfl (by omega) rfl) ?_
    | refine wG_pure (e_ia_vwm rfl rfl (by omega) (by omega) rfl) ?_
    | refine wG_pure (e_ia_vwi rfl rfl (by omega) rfl) ?_
    | refine wG_pure (e_ia_vwn rfl rfl (by omega) (by omega) rfl) ?_
    | refine wG_n rfl rfl ?_
    | refine wG_u rfl rfl ?_
    | refine wG_new (o_mks rfl rfl (by omega) (by decide)) ?_))
  simp only [d1]
  repeat (first | refine wG_call1 c3 rfl rfl ?_ | (first
    | refine wC_a rfl ?_
    | refine q_s rfl ?_
    | refine q_b rfl ?_
    | refine wG_nil ?_
    | refine wG_g rfl ?_
    | refine wG_pure (o_len_vwm rfl) ?_
    | refine wG_pure (o_not_d rfl) ?_
    | refine wG_p rfl (by first | exact rfl | omega) ?_
    | refine wG_pure (o_str2 rfl rfl rfl) ?_
    | refine wG_pure (e_istr rfl rfl (by omega)) ?_
    | refine wG_pure (e_istr0 rfl rfl (by omega)) ?_
    | refine wG_pure (o_not rfl) ?_
    | refine wG_pure (e_ia_vw0 rfl rfl (by omega) rfl) ?_
    | refine wG_pure (e_ia_vwp rfl rfl (by omega) rfl) ?_
    | refine wG_pure (e_ia_vwm rfl rfl (by omega) (by omega) rfl) ?_
    | refine wG_pure (e_ia_vwi rfl rfl (by omega) rfl) ?_
    | refine wG_pure (e_ia_vwn rfl rfl (by omega) (by omega) rfl) ?_
    | refine wG_n rfl rfl ?_
    | refine wG_u rfl rfl ?_
    | refine wG_new (o_mks rfl rfl (by omega) (by decide)) ?_))
  refine wC_loop Nat (fun m => ⟨[(7, .int .i64 (i : Int)), (8, .sl 1 1 0 r.cs.length), (9, .int .i64 ((nBf r.cs.length (later r) i m : Nat) : Int)), (10, .int .i64 ((nAf r.cs.length (later r) i m : Nat) : Int)), (11, .int .i64 (m : Int))], [(1, some ((maskL (later r) r.cs.length).map iRow))], 2⟩) (fun m => m ≤ r.cs.length) (fun m => r.cs.length - m) 0 (Nat.zero_le _) ?_ (fun _ _ => Nat.zero_le _) ?_
  · exact ⟨⟨⟨rfl, rfl⟩, ⟨rfl, rfl⟩, ⟨rfl, rfl⟩, ⟨rfl, rfl⟩, ⟨rfl, rfl⟩, trivial⟩, ⟨rfl, by show 1 < 2; decide, ltrI _ _⟩, trivial⟩
  intro m hm
  have q1 := nBf_le r.cs.length (later r) i m
  have q2 := nAf_le r.cs.length (later r) i m
  repeat (first
    | refine wC_a rfl ?_
    | refine q_s rfl ?_
    | refine q_b rfl ?_
    | refine wG_nil ?_
    | refine wG_g rfl ?_
    | refine wG_pure (o_len_vwm rfl) ?_
    | refine wG_pure (o_not_d rfl) ?_
    | refine wG_p rfl (by first | exact rfl | omega) ?_
    | refine wG_pure (o_str2 rfl rfl rfl) ?_
    | refine wG_pure (e_istr rfl rfl (by omega)) ?_
    | refine wG_pure (e_istr0 rfl rfl (by omega)) ?_
    | refine wG_pure (o_not rfl) ?_
    | refine wG_pure (e_ia_vw0 rfl rfl (by omega) rfl) ?_
    | refine wG_pure (e_ia_vwp rfl rfl (by omega) rfl) ?_
    | refine wG_pure (e_ia_vwm rfl rfl (by omega) (by omega) rfl) ?_
    | refine wG_pure (e_ia_vwi rfl rfl (by omega) rfl) ?_
    | refine wG_pure (e_ia_vwn rfl rfl (by omega) (by omega) rfl) ?_
    | refine wG_n rfl rfl ?_
    | refine wG_u rfl rfl ?_
    | refine wG_new (o_mks rfl rfl (by omega) (by decide)) ?_)
  refine wC_cond_d rfl (fun h5 => ?_) (fun h5 => ?_)
  · have hm2 : m < r.cs.length := by omega
    have hgm := maskL_get (W := later r) hm2
    have hmm := mk10 (later r m) h10
    have cb := con49 (mkM (later r m) r.cs.length) i hmm (by omega)
    have hbm : (mkM (later r m) r.cs.length).testBit i = later r m i := by rw [mkM_bit]; simp [hi2]
    rw [hbm] at cb
    have cb2 := con49 (mkM (later r i) r.cs.length) m hmi (by omega)
    have hbi : (mkM (later r i) r.cs.length).testBit m = later r i m := by rw [mkM_bit]; simp [hm2]
    rw [hbi] at cb2
    have u1 : nBf r.cs.length (later r) i (m + 1) = nBf r.cs.length (later r) i m + (if later r m i = true then 1 else 0) := rfl
    have u2 : nAf r.cs.length (later r) i (m + 1) = nAf r.cs.length (later r) i m + (if later r i m = true then 1 else 0) := rfl
    cases hb : later r m i <;> cases hb2 : later r i m
    all_goals (rw [hb] at cb u1; rw [hb2] at cb2 u2)
    all_goals (repeat (first | (refine wG_pure (e_ia_sl rfl rfl (by omega) (by omega)) ?_; simp only [e0]) | refine wG_pure (o_ldf_pt rfl rfl hgm rfl) ?_ | refine wG_call cb rfl rfl ?_ | refine wG_pure (o_ldf_pt rfl rfl hgi rfl) ?_ | refine wG_call cb2 rfl rfl ?_ | (first
    | refine wC_a rfl ?_
    | refine q_s rfl ?_
    | refine q_b rfl ?_
    | refine wG_nil ?_
    | refine wG_g rfl ?_
    | refine wG_pure (o_len_vwm rfl) ?_
    | refine wG_pure (o_not_d rfl) ?_
    | refine wG_p rfl (by first | exact rfl | omega) ?_
    | refine wG_pure (o_str2 rfl rfl rfl) ?_
    | refine wG_pure (e_istr rfl rfl (by omega)) ?_
    | refine wG_pure (e_istr0 rfl rfl (by omega)) ?_
    | refine wG_pure (o_not rfl) ?_
    | refine wG_pure (e_ia_vw0 rfl rfl (by omega) rfl) ?_
    | refine wG_pure (e_ia_vwp rfl rfl (by omega) rfl) ?_
    | refine wG_pure (e_ia_vwm rfl rfl (by omega) (by omega) rfl) ?_
    | refine wG_pure (e_ia_vwi rfl rfl (by omega) rfl) ?_
    | refine wG_pure (e_ia_vwn rfl rfl (by omega) (by omega) rfl) ?_
    | refine wG_n rfl rfl ?_
    | refine wG_u rfl rfl ?_
    | refine wG_new (o_mks rfl rfl (by omega) (by decide)) ?_)))
    all_goals (
      refine ⟨m + 1, hm2, by omega, ⟨⟨rfl, rfl⟩, ⟨rfl, rfl⟩, ⟨?_, rfl⟩, ⟨?_, rfl⟩, ⟨rfl, rfl⟩, trivial⟩, ⟨rfl, by show 1 < 2; decide, ltrI _ _⟩, trivial⟩
      · rw [u1]; rfl
      · rw [u2]; rfl)
  · have hm3 : m = r.cs.length := by omega
    subst hm3
    repeat (first
    | refine wC_a rfl ?_
    | refine q_s rfl ?_
    | refine q_b rfl ?_
    | refine wG_nil ?_
    | refine wG_g rfl ?_
    | refine wG_pure (o_len_vwm rfl) ?_
    | refine wG_pure (o_not_d rfl) ?_
    | refine wG_p rfl (by first | exact rfl | omega) ?_
    | refine wG_pure (o_str2 rfl rfl rfl) ?_
    | refine wG_pure (e_istr rfl rfl (by omega)) ?_
    | refine wG_pure (e_istr0 rfl rfl (by omega)) ?_
    | refine wG_pure (o_not rfl) ?_
    | refine wG_pure (e_ia_vw0 rfl rfl (by omega) rfl) ?_
    | refine wG_pure (e_ia_vwp rfl rfl (by omega) rfl) ?_
    | refine wG_pure (e_ia_vwm rfl rfl (by omega) (by omega) rfl) ?_
    | refine wG_pure (e_ia_vwi rfl rfl (by omega) rfl) ?_
    | refine wG_pure (e_ia_vwn rfl rfl (by omega) (by omega) rfl) ?_
    | refine wG_n rfl rfl ?_
    | refine wG_u rfl rfl ?_
    | refine wG_new (o_mks rfl rfl (by omega) (by decide)) ?_)
    exact ret_pl (.inr rfl) (retVs_3 (retV_mv rfl) (retV_mv rfl) (retV_mv rfl)) rfl rfl (by simp)
theorem con17_no (a b : Bool) (r : Rc) (x : Int) (h1 : r.cs.length ≤ 1048576) (h2 : r.xs.length ≤ 1048576) (hC : ¬ okP r x) : Con Try.prog 17 true [.agg (rRow a b r), .int .i64 x] (.tup [.int .i64 0, .int .i64 0, .bool false]) [] := by
  classical
  refine con_of_wp mixed fun17 (by simp) [] plain_nil ?_
  unfold ac17 ro17
  simp only [zipT]
  have c1 := con40 a b r h1 h2
  have cx := con48 a b r x h1
  by_cases hG : GoodC r
  · rw [decide_eq_true hG] at c1
    have d1 : decide (idx r x < 0) = true := decide_eq_true (Int.not_le.1 fun h => hC ⟨hG, h⟩)
    repeat (first | refine wG_call c1 rfl rfl ?_ | refine wG_call cx rfl rfl ?_ | (first
    | refine wC_a rfl ?_
    | refine q_s rfl ?_
    | refine q_b rfl ?_
    | refine wG_nil ?_
    | refine wG_g rfl ?_
    | refine wG_pure (o_len_vwm rfl) ?_
    | refine wG_pure (o_not_d rfl) ?_
    | refine wG_p rfl (by first | exact rfl | omega) ?_
    | refine wG_pure (o_str2 rfl rfl rfl) ?_
    | refine wG_pure (e_istr rfl rfl (by omega)) ?_
    | refine wG_pure (e_istr0 rfl rfl (by omega)) ?_
    | refine wG_pure (o_not rfl) ?_
    | refine wG_pure (e_ia_vw0 rfl rfl (by omega) rfl) ?_
    | refine wG_pure (e_ia_vwp rfl rfl (by omega) rfl) ?_
    | refine wG_pure (e_ia_vwm rfl rfl (by omega) (by omega) rfl) ?_
    | refine wG_pure (e_ia_vwi rfl rfl (by omega) rfl) ?_
    | refine wG_pure (e_ia_vwn rfl rfl (by omega) (by omega) rfl) ?_
    | refine wG_n rfl rfl ?_
    | refine wG_u rfl rfl ?_
    | refine wG_new (o_mks rfl rfl (by omega) (by decide)) ?_))
    simp only [d1]
    repeat (first
    | refine wC_a rfl ?_
    | refine q_s rfl ?_
    | refine q_b rfl ?_
    | refine wG_nil ?_
    | refine wG_g rfl ?_
    | refine wG_pure (o_len_vwm rfl) ?_
    | refine wG_pure (o_not_d rfl) ?_
    | refine wG_p rfl (by first | exact rfl | omega) ?_
    | refine wG_pure (o_str2 rfl rfl rfl) ?_
    | refine wG_pure (e_istr rfl rfl (by omega)) ?_
    | refine wG_pure (e_istr0 rfl rfl (by omega)) ?_
    | refine wG_pure (o_not rfl) ?_
    | refine wG_pure (e_ia_vw0 rfl rfl (by omega) rfl) ?_
    | refine wG_pure (e_ia_vwp rfl rfl (by omega) rfl) ?_
    | refine wG_pure (e_ia_vwm rfl rfl (by omega) (by omega) rfl) ?_
    | refine wG_pure (e_ia_vwi rfl rfl (by omega) rfl) ?_
    | refine wG_pure (e_ia_vwn rfl rfl (by omega) (by omega) rfl) ?_
    | refine wG_n rfl rfl ?_
    | refine wG_u rfl rfl ?_
    | refine wG_new (o_mks rfl rfl (by omega) (by decide)) ?_)
    exact ret_pl (.inr rfl) (retVs_3 (retV_mv rfl) (retV_mv rfl) (retV_mv rfl)) rfl rfl (by simp)
  · rw [decide_eq_false hG] at c1
    repeat (first | refine wG_call c1 rfl rfl ?_ | refine wG_call cx rfl rfl ?_ | (first
    | refine wC_a rfl ?_
    | refine q_s rfl ?_
    | refine q_b rfl ?_
    | refine wG_nil ?_
    | refine wG_g rfl ?_
    | refine wG_pure (o_len_vwm rfl) ?_
    | refine wG_pure (o_not_d rfl) ?_
    | refine wG_p rfl (by first | exact rfl | omega) ?_
    | refine wG_pure (o_str2 rfl rfl rfl) ?_
    | refine wG_pure (e_istr rfl rfl (by omega)) ?_
    | refine wG_pure (e_istr0 rfl rfl (by omega)) ?_
    | refine wG_pure (o_not rfl) ?_
    | refine wG_pure (e_ia_vw0 rfl rfl (by omega) rfl) ?_
    | refine wG_pure (e_ia_vwp rfl rfl (by omega) rfl) ?_
    | refine wG_pure (e_ia_vwm rfl rfl (by omega) (by omega) rfl) ?_
    | refine wG_pure (e_ia_vwi rfl rfl (by omega) rfl) ?_
    | refine wG_pure (e_ia_vwn rfl rfl (by omega) (by omega) rfl) ?_
    | refine wG_n rfl rfl ?_
    | refine wG_u rfl rfl ?_
    | refine wG_new (o_mks rfl rfl (by omega) (by decide)) ?_))
    exact ret_pl (.inr rfl) (retVs_3 (retV_mv rfl) (retV_mv rfl) (retV_mv rfl)) rfl rfl (by simp)
theorem con18_yes (a b : Bool) (r : Rc) (x : Int) (h1 : r.cs.length ≤ 1048576) (h2 : r.xs.length ≤ 1048576) (hC : GoodC r) {i : Nat} (hi : idx r x = i) : Con Try.prog 18 true [.agg (rRow a b r), .int .i64 x] (prV r i) [] := by
  refine con_of_wp mixed fun18 (by simp) [] plain_nil ?_
  unfold ac18 ro18
  simp only [zipT]
  have bx := idx_b r x
  rw [hi] at bx
  have h10 := hC.1.1
  have hi2 : i < r.cs.length := by omega
  have c1 := con30_yes a b r x h1 h2 hC hi
  have ht : ∀ p q s, p < r.cs.length → q < r.cs.length → s < r.cs.length → later r p q = true → later r q s = true → later r p s = true := fun p q s hp hq _ g1 g2 => later_trn r p q s hp hq g1 g2
  have hr := hC.2
  have hbnd := fun q => plc_bnd (p := q) hr hi2
  have hfst := plc_first ht hr hi2
  have hlst := plc_last ht hr hi2
  have hfb := hbnd _ hfst
  have hge := fun q (hq : q < r.cs.length) => plcL_get (W := later r) (i := i) (m := 2 ^ r.cs.length) hq
  have e0 : ∀ n : Nat, 0 + ((n : Int)).toNat = n := fun n => by simp
  unfold prV
  generalize hP : (fun q => plc r.cs.length (later r) i q (2 ^ r.cs.length)) = P
  have hPe : ∀ q, plc r.cs.length (later r) i q (2 ^ r.cs.length) = P q := fun q => congrFun hP q
  simp only [hPe] at hbnd hfst hlst hge
  generalize nBf r.cs.length (later r) i r.cs.length = B at *
  generalize nAf r.cs.length (later r) i r.cs.length = A at *
  repeat (first | refine wG_call1 c1 rfl rfl ?_ | (first
    | refine wC_a rfl ?_
    | refine q_s rfl ?_
    | refine q_b rfl ?_
    | refine wG_nil ?_
    | refine wG_g rfl ?_
    | refine wG_pure (o_len_vwm rfl) ?_
    | refine wG_pure (o_not_d rfl) ?_
    | refine wG_p rfl (by first | exact rfl | omega) ?_
    | refine wG_pure (o_str2 rfl rfl rfl) ?_
    | refine wG_pure (e_istr rfl rfl (by omega)) ?_
    | refine wG_pure (e_istr0 rfl rfl (by omega)) ?_
    | refine wG_pure (o_not rfl) ?_
    | refine wG_pure (e_ia_vw0 rfl rfl (by omega) rfl) ?_
    | refine wG_pure (e_ia_vwp rfl rfl (by omega) rfl) ?_
    | refine wG_pure (e_ia_vwm rfl rfl (by omega) (by omega) rfl) ?_
    | refine wG_pure (e_ia_vwi rfl rfl (by omega) rfl) ?_
    | refine wG_pure (e_ia_vwn rfl rfl (by omega) (by omega) rfl) ?_
    | refine wG_n rfl rfl ?_
    | refine wG_u rfl rfl ?_
    | refine wG_new (o_mks rfl rfl (by omega) (by decide)) ?_))
  refine wC_loop (Nat × Nat) (fun z => ⟨[(9, .int .i64 (if B < z.1 then (B : Int) else -1)), (10, .int .i64 (z.2 : Int)), (21, .sl 1 1 0 r.cs.length), (22, .int .i64 (r.cs.length : Int)), (23, .int .i64 (z.1 : Int))], [(1, some ((plcL r.cs.length (later r) i (2 ^ r.cs.length)).map iRow))], 2⟩) (fun z => z.1 ≤ r.cs.length ∧ (∀ q, q < z.1 → 0 < P q → q ≤ z.2) ∧ (z.2 = 0 ∨ 0 < P z.2)) (fun z => r.cs.length - z.1) (0, 0) ⟨Nat.zero_le _, fun q hq => absurd hq (Nat.not_lt_zero _), .inl rfl⟩ ?_ (fun _ _ => Nat.zero_le _) ?_
  · exact ⟨⟨⟨rfl, rfl⟩, ⟨rfl, rfl⟩, ⟨rfl, rfl⟩, ⟨rfl, rfl⟩, ⟨rfl, rfl⟩, trivial⟩, ⟨rfl, by show 1 < 2; decide, ltrI _ _⟩, trivial⟩
  rintro ⟨p, l⟩ ⟨hp, hl1, hl2⟩
  simp only at hp hl1 hl2 ⊢
  repeat (first
    | refine wC_a rfl ?_
    | refine q_s rfl ?_
    | refine q_b rfl ?_
    | refine wG_nil ?_
    | refine wG_g rfl ?_
    | refine wG_pure (o_len_vwm rfl) ?_
    | refine wG_pure (o_not_d rfl) ?_
    | refine wG_p rfl (by first | exact rfl | omega) ?_
    | refine wG_pure (o_str2 rfl rfl rfl) ?_
    | refine wG_pure (e_istr rfl rfl (by omega)) ?_
    | refine wG_pure (e_istr0 rfl rfl (by omega)) ?_
    | refine wG_pure (o_not rfl) ?_
    | refine wG_pure (e_ia_vw0 rfl rfl (by omega) rfl) ?_
    | refine wG_pure (e_ia_vwp rfl rfl (by omega) rfl) ?_
    | refine wG_pure (e_ia_vwm rfl rfl (by omega) (by omega) rfl) ?_
    | refine wG_pure (e_ia_vwi rfl rfl (by omega) rfl) ?_
    | refine wG_pure (e_ia_vwn rfl rfl (by omega) (by omega) rfl) ?_
    | refine wG_n rfl rfl ?_
    | refine wG_u rfl rfl ?_
    | refine wG_new (o_mks rfl rfl (by omega) (by decide)) ?_)
  refine wC_cond_d rfl (fun h5 => ?_) (fun h5 => ?_)
  · have hp2 : p < r.cs.length := by omega
    have hgp := hge p hp2
    by_cases hz : 0 < P p
    · have d2 : decide (((P p : Nat) : Int) = 0) = false := decide_eq_false (by omega)
      obtain ⟨b1, b2⟩ := hbnd p hz
      have up : ∀ q, q < p + 1 → 0 < P q → q ≤ p := fun q hq _ => by omega
      by_cases hB : B < p
      · have d3 : decide ((B : Int) < 0) = false := decide_eq_false (by omega)
        repeat (first | (refine wG_pure (e_ia_sl rfl rfl (by omega) (by omega)) ?_; simp only [e0]) | refine wG_pure (o_ldf_pt rfl rfl hgp rfl) ?_ | (first
    | refine wC_a rfl ?_
    | refine q_s rfl ?_
    | refine q_b rfl ?_
    | refine wG_nil ?_
    | refine wG_g rfl ?_
    | refine wG_pure (o_len_vwm rfl) ?_
    | refine wG_pure (o_not_d rfl) ?_
    | refine wG_p rfl (by first | exact rfl | omega) ?_
    | refine wG_pure (o_str2 rfl rfl rfl) ?_
    | refine wG_pure (e_istr rfl rfl (by omega)) ?_
    | refine wG_pure (e_istr0 rfl rfl (by omega)) ?_
    | refine wG_pure (o_not rfl) ?_
    | refine wG_pure (e_ia_vw0 rfl rfl (by omega) rfl) ?_
    | refine wG_pure (e_ia_vwp rfl rfl (by omega) rfl) ?_
    | refine wG_pure (e_ia_vwm rfl rfl (by omega) (by omega) rfl) ?_
    | refine wG_pure (e_ia_vwi rfl rfl (by omega) rfl) ?_
    | refine wG_pure (e_ia_vwn rfl rfl (by omega) (by omega) rfl) ?_
    | refine wG_n rfl rfl ?_
    | refine wG_u rfl rfl ?_
    | refine wG_new (o_mks rfl rfl (by omega) (by decide)) ?_))
        simp only [d2]
        repeat (first
    | refine wC_a rfl ?_
    | refine q_s rfl ?_
    | refine q_b rfl ?_
    | refine wG_nil ?_
    | refine wG_g rfl ?_
    | refine wG_pure (o_len_vwm rfl) ?_
    | refine wG_pure (o_not_d rfl) ?_
    | refine wG_p rfl (by first | exact rfl | omega) ?_
    | refine wG_pure (o_str2 rfl rfl rfl) ?_
    | refine wG_pure (e_istr rfl rfl (by omega)) ?_
    | refine wG_pure (e_istr0 rfl rfl (by omega)) ?_
    | refine wG_pure (o_not rfl) ?_
    | refine wG_pure (e_ia_vw0 rfl rfl (by omega) rfl) ?_
    | refine wG_pure (e_ia_vwp rfl rfl (by omega) rfl) ?_
    | refine wG_pure (e_ia_vwm rfl rfl (by omega) (by omega) rfl) ?_
    | refine wG_pure (e_ia_vwi rfl rfl (by omega) rfl) ?_
    | refine wG_pure (e_ia_vwn rfl rfl (by omega) (by omega) rfl) ?_
    | refine wG_n rfl rfl ?_
    | refine wG_u rfl rfl ?_
    | refine wG_new (o_mks rfl rfl (by omega) (by decide)) ?_)
        simp only [if_pos hB]
        simp only [d3]
        repeat (first
    | refine wC_a rfl ?_
    | refine q_s rfl ?_
    | refine q_b rfl ?_
    | refine wG_nil ?_
    | refine wG_g rfl ?_
    | refine wG_pure (o_len_vwm rfl) ?_
    | refine wG_pure (o_not_d rfl) ?_
    | refine wG_p rfl (by first | exact rfl | omega) ?_
    | refine wG_pure (o_str2 rfl rfl rfl) ?_
    | refine wG_pure (e_istr rfl rfl (by omega)) ?_
    | refine wG_pure (e_istr0 rfl rfl (by omega)) ?_
    | refine wG_pure (o_not rfl) ?_
    | refine wG_pure (e_ia_vw0 rfl rfl (by omega) rfl) ?_
    | refine wG_pure (e_ia_vwp rfl rfl (by omega) rfl) ?_
    | refine wG_pure (e_ia_vwm rfl rfl (by omega) (by omega) rfl) ?_
    | refine wG_pure (e_ia_vwi rfl rfl (by omega) rfl) ?_
    | refine wG_pure (e_ia_vwn rfl rfl (by omega) (by omega) rfl) ?_
    | refine wG_n rfl rfl ?_
    | refine wG_u rfl rfl ?_
    | refine wG_new (o_mks rfl rfl (by omega) (by decide)) ?_)
        refine ⟨(p + 1, p), ⟨hp2, up, .inr hz⟩, by simp only; omega, ⟨⟨?_, rfl⟩, ⟨rfl, rfl⟩, ⟨rfl, rfl⟩, ⟨rfl, rfl⟩, ⟨rfl, rfl⟩, trivial⟩, ⟨rfl, by show 1 < 2; decide, ltrI _ _⟩, trivial⟩
        rw [if_pos (show B < p + 1 by omega)]; rfl
      · have hBp : p = B := by omega
        subst hBp
        have d3 : decide ((-1 : Int) < 0) = true := decide_eq_true (by omega)
        repeat (first | (refine wG_pure (e_ia_sl rfl rfl (by omega) (by omega)) ?_; simp only [e0]) | refine wG_pure (o_ldf_pt rfl rfl hgp rfl) ?_ | (first
    | refine wC_a rfl ?_
    | refine q_s rfl ?_
    | refine q_b rfl ?_
    | refine wG_nil ?_
    | refine wG_g rfl ?_
    | refine wG_pure (o_len_vwm rfl) ?_
    | refine wG_pure (o_not_d rfl) ?_
    | refine wG_p rfl (by first | exact rfl | omega) ?_
    | refine wG_pure (o_str2 rfl rfl rfl) ?_
    | refine wG_pure (e_istr rfl rfl (by omega)) ?_
    | refine wG_pure (e_istr0 rfl rfl (by omega)) ?_
    | refine wG_pure (o_not rfl) ?_
    | refine wG_pure (e_ia_vw0 rfl rfl (by omega) rfl) ?_
    | refine wG_pure (e_ia_vwp rfl rfl (by omega) rfl) ?_
    | refine wG_pure (e_ia_vwm rfl rfl (by omega) (by omega) rfl) ?_
    | refine wG_pure (e_ia_vwi rfl rfl (by omega) rfl) ?_
    | refine wG_pure (e_ia_vwn rfl rfl (by omega) (by omega) rfl) ?_
    | refine wG_n rfl rfl ?_
    | refine wG_u rfl rfl ?_
    | refine wG_new (o_mks rfl rfl (by omega) (by decide)) ?_))
        simp only [d2]
        repeat (first
    | refine wC_a rfl ?_
    | refine q_s rfl ?_
    | refine q_b rfl ?_
    | refine wG_nil ?_
    | refine wG_g rfl ?_
    | refine wG_pure (o_len_vwm rfl) ?_
    | refine wG_pure (o_not_d rfl) ?_
    | refine wG_p rfl (by first | exact rfl | omega) ?_
    | refine wG_pure (o_str2 rfl rfl rfl) ?_
    | refine wG_pure (e_istr rfl rfl (by omega)) ?_
    | refine wG_pure (e_istr0 rfl rfl (by omega)) ?_
    | refine wG_pure (o_not rfl) ?_
    | refine wG_pure (e_ia_vw0 rfl rfl (by omega) rfl) ?_
    | refine wG_pure (e_ia_vwp rfl rfl (by omega) rfl) ?_
    | refine wG_pure (e_ia_vwm rfl rfl (by omega) (by omega) rfl) ?_
    | refine wG_pure (e_ia_vwi rfl rfl (by omega) rfl) ?_
    | refine wG_pure (e_ia_vwn rfl rfl (by omega) (by omega) rfl) ?_
    | refine wG_n rfl rfl ?_
    | refine wG_u rfl rfl ?_
    | refine wG_new (o_mks rfl rfl (by omega) (by decide)) ?_)
        simp only [if_neg hB]
        simp only [d3]
        repeat (first
    | refine wC_a rfl ?_
    | refine q_s rfl ?_
    | refine q_b rfl ?_
    | refine wG_nil ?_
    | refine wG_g rfl ?_
    | refine wG_pure (o_len_vwm rfl) ?_
    | refine wG_pure (o_not_d rfl) ?_
    | refine wG_p rfl (by first | exact rfl | omega) ?_
    | refine wG_pure (o_str2 rfl rfl rfl) ?_
    | refine wG_pure (e_istr rfl rfl (by omega)) ?_
    | refine wG_pure (e_istr0 rfl rfl (by omega)) ?_
    | refine wG_pure (o_not rfl) ?_
    | refine wG_pure (e_ia_vw0 rfl rfl (by omega) rfl) ?_
    | refine wG_pure (e_ia_vwp rfl rfl (by omega) rfl) ?_
    | refine wG_pure (e_ia_vwm rfl rfl (by omega) (by omega) rfl) ?_
    | refine wG_pure (e_ia_vwi rfl rfl (by omega) rfl) ?_
    | refine wG_pure (e_ia_vwn rfl rfl (by omega) (by omega) rfl) ?_
    | refine wG_n rfl rfl ?_
    | refine wG_u rfl rfl ?_
    | refine wG_new (o_mks rfl rfl (by omega) (by decide)) ?_)
        refine ⟨(p + 1, p), ⟨hp2, up, .inr hz⟩, by simp only; omega, ⟨⟨?_, rfl⟩, ⟨rfl, rfl⟩, ⟨rfl, rfl⟩, ⟨rfl, rfl⟩, ⟨rfl, rfl⟩, trivial⟩, ⟨rfl, by show 1 < 2; decide, ltrI _ _⟩, trivial⟩
        rw [if_pos (show p < p + 1 by omega)]; rfl
    · have d2 : decide (((P p : Nat) : Int) = 0) = true := decide_eq_true (by omega)
      have hne : p ≠ B := fun e => by subst e; exact hz hfst
      have e2 : (if B < p + 1 then (B : Int) else -1) = if B < p then (B : Int) else -1 := by
        by_cases g : B < p
        · rw [if_pos g, if_pos (by omega)]
        · rw [if_neg g, if_neg (by omega)]
      repeat (first | (refine wG_pure (e_ia_sl rfl rfl (by omega) (by omega)) ?_; simp only [e0]) | refine wG_pure (o_ldf_pt rfl rfl hgp rfl) ?_ | (first
    | refine wC_a rfl ?_
    | refine q_s rfl ?_
    | refine q_b rfl ?_
    | refine wG_nil ?_
    | refine wG_g rfl ?_
    | refine wG_pure (o_len_vwm rfl) ?_
    | refine wG_pure (o_not_d rfl) ?_
    | refine wG_p rfl (by first | exact rfl | omega) ?_
    | refine wG_pure (o_str2 rfl rfl rfl) ?_
    | refine wG_pure (e_istr rfl rfl (by omega)) ?_
    | refine wG_pure (e_istr0 rfl rfl (by omega)) ?_
    | refine wG_pure (o_not rfl) ?_
    | refine wG_pure (e_ia_vw0 rfl rfl (by omega) rfl) ?_
    | refine wG_pure (e_ia_vwp rfl rfl (by omega) rfl) ?_
    | refine wG_pure (e_ia_vwm rfl rfl (by omega) (by omega) rfl) ?_
    | refine wG_pure (e_ia_vwi rfl rfl (by omega) rfl) ?_
    | refine wG_pure (e_ia_vwn rfl rfl (by omega) (by omega) rfl) ?_
    | refine wG_n rfl rfl ?_
    | refine wG_u rfl rfl ?_
    | refine wG_new (o_mks rfl rfl (by omega) (by decide)) ?_))
      simp only [d2]
      repeat (first
    | refine wC_a rfl ?_
    | refine q_s rfl ?_
    | refine q_b rfl ?_
    | refine wG_nil ?_
    | refine wG_g rfl ?_
    | refine wG_pure (o_len_vwm rfl) ?_
    | refine wG_pure (o_not_d rfl) ?_
    | refine wG_p rfl (by first | exact rfl | omega) ?_
    | refine wG_pure (o_str2 rfl rfl rfl) ?_
    | refine wG_pure (e_istr rfl rfl (by omega)) ?_
    | refine wG_pure (e_istr0 rfl rfl (by omega)) ?_
    | refine wG_pure (o_not rfl) ?_
    | refine wG_pure (e_ia_vw0 rfl rfl (by omega) rfl) ?_
    | refine wG_pure (e_ia_vwp rfl rfl (by omega) rfl) ?_
    | refine wG_pure (e_ia_vwm rfl rfl (by omega) (by omega) rfl) ?_
    | refine wG_pure (e_ia_vwi rfl rfl (by omega) rfl) ?_
    | refine wG_pure (e_ia_vwn rfl rfl (by omega) (by omega) rfl) ?_
    | refine wG_n rfl rfl ?_
    | refine wG_u rfl rfl ?_
    | refine wG_new (o_mks rfl rfl (by omega) (by decide)) ?_)
      refine ⟨(p + 1, l), ⟨hp2, fun q hq hq2 => ?_, hl2⟩, by simp only; omega, ⟨⟨?_, rfl⟩, ⟨rfl, rfl⟩, ⟨rfl, rfl⟩, ⟨rfl, rfl⟩, ⟨rfl, rfl⟩, trivial⟩, ⟨rfl, by show 1 < 2; decide, ltrI _ _⟩, trivial⟩
      · rcases Nat.lt_or_ge q p with g | g
        · exact hl1 q g hq2
        · obtain rfl : q = p := by omega
          exact absurd hq2 hz
      · rw [e2]; rfl
  · have hp3 : p = r.cs.length := by omega
    subst hp3
    have g1 := hl1 (r.cs.length - 1 - A) (by omega) hlst
    have g2 : l + A + 1 ≤ r.cs.length ∨ l = 0 := by
      rcases hl2 with h | h
      · exact .inr h
      · exact .inl (hbnd l h).2
    have e4 : (l : Int) = (r.cs.length : Int) - 1 - (A : Int) := by
      have := (hbnd _ hlst).2
      omega
    repeat (first
    | refine wC_a rfl ?_
    | refine q_s rfl ?_
    | refine q_b rfl ?_
    | refine wG_nil ?_
    | refine wG_g rfl ?_
    | refine wG_pure (o_len_vwm rfl) ?_
    | refine wG_pure (o_not_d rfl) ?_
    | refine wG_p rfl (by first | exact rfl | omega) ?_
    | refine wG_pure (o_str2 rfl rfl rfl) ?_
    | refine wG_pure (e_istr rfl rfl (by omega)) ?_
    | refine wG_pure (e_istr0 rfl rfl (by omega)) ?_
    | refine wG_pure (o_not rfl) ?_
    | refine wG_pure (e_ia_vw0 rfl rfl (by omega) rfl) ?_
    | refine wG_pure (e_ia_vwp rfl rfl (by omega) rfl) ?_
    | refine wG_pure (e_ia_vwm rfl rfl (by omega) (by omega) rfl) ?_
    | refine wG_pure (e_ia_vwi rfl rfl (by omega) rfl) ?_
    | refine wG_pure (e_ia_vwn rfl rfl (by omega) (by omega) rfl) ?_
    | refine wG_n rfl rfl ?_
    | refine wG_u rfl rfl ?_
    | refine wG_new (o_mks rfl rfl (by omega) (by decide)) ?_)
    refine ret_pl (.inr rfl) (retVs_3 (retV_mv rfl) (retV_mv rfl) (retV_mv rfl)) ?_ rfl (by simp)
    show [AV.int _ _, AV.int _ _, AV.bool _] = _
    rw [if_pos (by omega), e4]
theorem con18_no (a b : Bool) (r : Rc) (x : Int) (h1 : r.cs.length ≤ 1048576) (h2 : r.xs.length ≤ 1048576) (hC : ¬ okP r x) : Con Try.prog 18 true [.agg (rRow a b r), .int .i64 x] (.tup [.int .i64 0, .int .i64 0, .bool false]) [] := by
  refine con_of_wp mixed fun18 (by simp) [] plain_nil ?_
  unfold ac18 ro18
  simp only [zipT]
  have c1 := con30_no a b r x h1 h2 hC
  repeat (first | refine wG_call c1 rfl rfl ?_ | (first
    | refine wC_a rfl ?_
    | refine q_s rfl ?_
    | refine q_b rfl ?_
    | refine wG_nil ?_
    | refine wG_g rfl ?_
    | refine wG_pure (o_len_vwm rfl) ?_
    | refine wG_pure (o_not_d rfl) ?_
    | refine wG_p rfl (by first | exact rfl | omega) ?_
    | refine wG_pure (o_str2 rfl rfl rfl) ?_
    | refine wG_pure (e_istr rfl rfl (by omega)) ?_
    | refine wG_pure (e_istr0 rfl rfl (by omega)) ?_
    | refine wG_pure (o_not rfl) ?_
    | refine wG_pure (e_ia_vw0 rfl rfl (by omega) rfl) ?_
    | refine wG_pure (e_ia_vwp rfl rfl (by omega) rfl) ?_
    | refine wG_pure (e_ia_vwm rfl rfl (by omega) (by omega) rfl) ?_
    | refine wG_pure (e_ia_vwi rfl rfl (by omega) rfl) ?_
    | refine wG_pure (e_ia_vwn rfl rfl (by omega) (by omega) rfl) ?_
    | refine wG_n rfl rfl ?_
    | refine wG_u rfl rfl ?_
    | refine wG_new (o_mks rfl rfl (by omega) (by decide)) ?_))
  exact ret_pl (.inr rfl) (retVs_3 (retV_mv rfl) (retV_mv rfl) (retV_mv rfl)) rfl rfl (by simp)

/-! ### The laws -/
theorem con9 (a b : Bool) (r : Rc) (x : Int) (h1 : r.cs.length ≤ 9223372036854775807) (h2 : r.xs.length ≤ 9223372036854775807) : Con Try.prog 9 true [.agg (rRow a b r), .int .i64 x] (.bool true) [] := by
  refine con_of_wp mixed fun9 (by simp) [] plain_nil ?_
  unfold ac9 ro9
  simp only [zipT]
  have c1 := con12 a b r h1 h2 1048576 (by decide) (by decide)
  repeat (first | refine wG_call c1 rfl rfl ?_ | (first
    | refine wC_a rfl ?_
    | refine q_s rfl ?_
    | refine q_b rfl ?_
    | refine wG_nil ?_
    | refine wG_g rfl ?_
    | refine wG_pure (o_len_vwm rfl) ?_
    | refine wG_pure (o_not_d rfl) ?_
    | refine wG_p rfl (by first | exact rfl | omega) ?_
    | refine wG_pure (o_str2 rfl rfl rfl) ?_
    | refine wG_pure (e_istr rfl rfl (by omega)) ?_
    | refine wG_pure (e_istr0 rfl rfl (by omega)) ?_
    | refine wG_pure (o_not rfl) ?_
    | refine wG_pure (e_ia_vw0 rfl rfl (by omega) rfl) ?_
    | refine wG_pure (e_ia_vwp rfl rfl (by omega) rfl) ?_
    | refine wG_pure (e_ia_vwm rfl rfl (by omega) (by omega) rfl) ?_
    | refine wG_pure (e_ia_vwi rfl rfl (by omega) rfl) ?_
    | refine wG_pure (e_ia_vwn rfl rfl (by omega) (by omega) rfl) ?_
    | refine wG_n rfl rfl ?_
    | refine wG_u rfl rfl ?_
    | refine wG_new (o_mks rfl rfl (by omega) (by decide)) ?_))
  refine wC_cond_d rfl (fun h => ?_) (fun h => ?_)
  · repeat (first
    | refine wC_a rfl ?_
    | refine q_s rfl ?_
    | refine q_b rfl ?_
    | refine wG_nil ?_
    | refine wG_g rfl ?_
    | refine wG_pure (o_len_vwm rfl) ?_
    | refine wG_pure (o_not_d rfl) ?_
    | refine wG_p rfl (by first | exact rfl | omega) ?_
    | refine wG_pure (o_str2 rfl rfl rfl) ?_
    | refine wG_pure (e_istr rfl rfl (by omega)) ?_
    | refine wG_pure (e_istr0 rfl rfl (by omega)) ?_
    | refine wG_pure (o_not rfl) ?_
    | refine wG_pure (e_ia_vw0 rfl rfl (by omega) rfl) ?_
    | refine wG_pure (e_ia_vwp rfl rfl (by omega) rfl) ?_
    | refine wG_pure (e_ia_vwm rfl rfl (by omega) (by omega) rfl) ?_
    | refine wG_pure (e_ia_vwi rfl rfl (by omega) rfl) ?_
    | refine wG_pure (e_ia_vwn rfl rfl (by omega) (by omega) rfl) ?_
    | refine wG_n rfl rfl ?_
    | refine wG_u rfl rfl ?_
    | refine wG_new (o_mks rfl rfl (by omega) (by decide)) ?_)
    exact ret_boolE (.inr rfl) ⟨_, retV_mv rfl, rfl⟩
  obtain ⟨s1, s2, s3⟩ := szR_ok (Int.not_lt.1 h)
  have h1' : r.cs.length ≤ 1048576 := by omega
  have h2' : r.xs.length ≤ 1048576 := by omega
  have cT := con14 a b r h1' h2'
  have cE := con16 true true true true r h1' h2'
  have sR := fun h nr q1 q2 => @sh31 r 1 h1' h2' (by decide) (by decide) h nr q1 q2
  have hdi : (∃ vs : List Int, vs.length ≤ 10 ∧ Con Try.prog 29 true [.agg (rRow true true r), .int .i64 x] (.tup [.sl 0 1 0 vs.length, .bool true]) [vs.map iRow] ∧ Con Try.prog 30 true [.agg (rRow true true r), .int .i64 x] (.tup [.sl 0 1 0 vs.length, .bool true]) [vs.map iRow]) ∨ (Con Try.prog 29 true [.agg (rRow true true r), .int .i64 x] (.tup [.sl 0 1 0 0, .bool false]) [([] : List Int).map iRow] ∧ Con Try.prog 30 true [.agg (rRow true true r), .int .i64 x] (.tup [.nilS, .bool false]) []) := by
    by_cases hk : okP r x
    · obtain ⟨i, hi⟩ : ∃ i : Nat, idx r x = i := ⟨_, (Int.toNat_of_nonneg hk.2).symm⟩
      have hlen := plcL_len r.cs.length (later r) i (2 ^ r.cs.length)
      have e : AV.sl 0 1 0 r.cs.length = AV.sl 0 1 0 (plcL r.cs.length (later r) i (2 ^ r.cs.length)).length := by rw [hlen]
      have g1 := con29_yes true true r x h1' h2' hk.1 hi
      have g2 := con30_yes true true r x h1' h2' hk.1 hi
      rw [e] at g1 g2
      exact .inl ⟨_, by rw [hlen]; exact hk.1.1.1, g1, g2⟩
    · exact .inr ⟨con29_no true true r x h1' h2' hk, con30_no true true r x h1' h2' hk⟩
  rcases hdi with ⟨vs, hv10, cS, cI⟩ | ⟨cS, cI⟩
  · have cQ := con24_same true true vs (by omega)
    have cH := con33 true vs.length 1 (by omega) (by decide) (by decide)
    have sV := fun h nr q => @sh32 vs 1 (by omega) (by decide) (by decide) h nr q
    repeat' (first
      | refine wC_dregE ?_ | refine wG_call2 cT rfl rfl ?_ | refine wE_call2 cT rfl rfl rfl ?_ | refine wG_call1 cS (ag_rec rfl rfl rfl (ag_int rfl ag_nil)) rfl ?_ | refine wE_call1 cS (ag_rec rfl rfl rfl (ag_int rfl ag_nil)) rfl rfl ?_ | refine wG_call1 cI (ag_rec rfl rfl rfl (ag_int rfl ag_nil)) rfl ?_ | refine wE_call1 cI (ag_rec rfl rfl rfl (ag_int rfl ag_nil)) rfl rfl ?_ | refine wG_call cE (ag_rec rfl rfl rfl (ag_rec rfl rfl rfl ag_nil)) rfl ?_ | refine wE_call cE (ag_rec rfl rfl rfl (ag_rec rfl rfl rfl ag_nil)) rfl rfl ?_ | refine wG_call cQ (ag_sl rfl rfl rfl iRow_plain (ag_sl rfl rfl rfl iRow_plain ag_nil)) rfl ?_ | refine wG_call cH (ag_sl rfl rfl (mks_len _ _).symm iRow_plain (ag_int rfl ag_nil)) rfl ?_
      | (refine wG_callS (f := 31) (sR _ _ _ _ rfl rfl (by decide) ?_) rfl ?_ <;> (repeat' (first | exact ltrI _ _ | exact ltrK _ _ | exact ltrX _ _ | exact wfH_nil | refine wfH_cons (by decide) ?_ ?_ | exact ltr_dec rfl)))
      | (refine wG_callS (f := 32) (sV _ _ _ rfl ?_) rfl ?_ <;> (repeat' (first | exact ltrI _ _ | exact ltrK _ _ | exact ltrX _ _ | exact wfH_nil | refine wfH_cons (by decide) ?_ ?_ | exact ltr_dec rfl)))
      | (first
    | refine wC_a rfl ?_
    | refine q_s rfl ?_
    | refine q_b rfl ?_
    | refine wG_nil ?_
    | refine wG_g rfl ?_
    | refine wG_pure (o_len_vwm rfl) ?_
    | refine wG_pure (o_not_d rfl) ?_
    | refine wG_p rfl (by first | exact rfl | omega) ?_
    | refine wG_pure (o_str2 rfl rfl rfl) ?_
    | refine wG_pure (e_istr rfl rfl (by omega)) ?_
    | refine wG_pure (e_istr0 rfl rfl (by omega)) ?_
    | refine wG_pure (o_not rfl) ?_
    | refine wG_pure (e_ia_vw0 rfl rfl (by omega) rfl) ?_
    | refine wG_pure (e_ia_vwp rfl rfl (by omega) rfl) ?_
    | refine wG_pure (e_ia_vwm rfl rfl (by omega) (by omega) rfl) ?_
    | refine wG_pure (e_ia_vwi rfl rfl (by omega) rfl) ?_
    | refine wG_pure (e_ia_vwn rfl rfl (by omega) (by omega) rfl) ?_
    | refine wG_n rfl rfl ?_
    | refine wG_u rfl rfl ?_
    | refine wG_new (o_mks rfl rfl (by omega) (by decide)) ?_) | (first
    | refine wE_nil (by kernel_rfl) ?_
    | refine wE_gy rfl ?_
    | refine wE_gn rfl rfl rfl ?_
    | refine wE_gu rfl rfl ?_
    | refine wE_gnn rfl rfl rfl ?_
    | refine wE_v (o_len_vwm rfl) rfl ?_
    | refine wE_v (o_not_d rfl) rfl ?_
    | refine wE_p rfl (by first | exact rfl | omega) rfl ?_
    | refine wE_v (o_str2 rfl rfl rfl) rfl ?_
    | refine wE_v (e_istr rfl rfl (by omega)) rfl ?_
    | refine wE_v (e_istr0 rfl rfl (by omega)) rfl ?_
    | refine wE_v (o_not rfl) rfl ?_
    | refine wE_v (e_ia_vw0 rfl rfl (by omega) rfl) rfl ?_
    | refine wE_v (e_ia_vwp rfl rfl (by omega) rfl) rfl ?_
    | refine wE_v (e_ia_vwm rfl rfl (by omega) (by omega) rfl) rfl ?_
    | refine wE_v (e_ia_vwi rfl rfl (by omega) rfl) rfl ?_
    | refine wE_v (e_ia_vwn rfl rfl (by omega) (by omega) rfl) rfl ?_
    | refine wE_n rfl rfl rfl ?_
    | refine wE_u rfl rfl rfl ?_
    | refine wE_new (o_mks rfl rfl (by omega) (by decide)) rfl ?_) | (refine wG_gd rfl (fun hgt => ?_) (fun hgf => ?_) <;> (first | simp only [eq_true hgt, decide_true] | simp only [eq_false hgf, decide_false])) | refine wC_cond_d rfl (fun hg => ?_) (fun hg => ?_))
    all_goals (first | exact ret_boolE (.inr rfl) ⟨_, retV_mv rfl, rfl⟩ | (exfalso; omega) | trace_state)
  · have cQ : Con Try.prog 24 true [.nilS, .vw true (([] : List Int).map iRow)] (.bool true) [] := con_nil (con24_same false true [] (by decide))
    have cH : Con Try.prog 33 true [.nilS, .int .i64 1] (.int .i64 1) [] := con_nil (con33 false 0 1 (by decide) (by decide) (by decide))
    have cM := con32_nil 1
    repeat' (first
      | refine wC_dregE ?_ | refine wG_call2 cT rfl rfl ?_ | refine wE_call2 cT rfl rfl rfl ?_ | refine wG_call1 cS (ag_rec rfl rfl rfl (ag_int rfl ag_nil)) rfl ?_ | refine wE_call1 cS (ag_rec rfl rfl rfl (ag_int rfl ag_nil)) rfl rfl ?_ | refine wG_call cI (ag_rec rfl rfl rfl (ag_int rfl ag_nil)) rfl ?_ | refine wE_call cI (ag_rec rfl rfl rfl (ag_int rfl ag_nil)) rfl rfl ?_ | refine wG_call cE (ag_rec rfl rfl rfl (ag_rec rfl rfl rfl ag_nil)) rfl ?_ | refine wE_call cE (ag_rec rfl rfl rfl (ag_rec rfl rfl rfl ag_nil)) rfl rfl ?_ | refine wG_call cQ (ag_any rfl (ag_sl rfl rfl rfl iRow_plain ag_nil)) rfl ?_ | refine wG_call cH rfl rfl ?_ | refine wG_call cM rfl rfl ?_
      | (refine wG_callS (f := 31) (sR _ _ _ _ rfl rfl (by decide) ?_) rfl ?_ <;> (repeat' (first | exact ltrI _ _ | exact ltrK _ _ | exact ltrX _ _ | exact ltrI [] _ | exact wfH_nil | refine wfH_cons (by decide) ?_ ?_ | exact ltr_dec rfl)))
      | (first
    | refine wC_a rfl ?_
    | refine q_s rfl ?_
    | refine q_b rfl ?_
    | refine wG_nil ?_
    | refine wG_g rfl ?_
    | refine wG_pure (o_len_vwm rfl) ?_
    | refine wG_pure (o_not_d rfl) ?_
    | refine wG_p rfl (by first | exact rfl | omega) ?_
    | refine wG_pure (o_str2 rfl rfl rfl) ?_
    | refine wG_pure (e_istr rfl rfl (by omega)) ?_
    | refine wG_pure (e_istr0 rfl rfl (by omega)) ?_
    | refine wG_pure (o_not rfl) ?_
    | refine wG_pure (e_ia_vw0 rfl rfl (by omega) rfl) ?_
    | refine wG_pure (e_ia_vwp rfl rfl (by omega) rfl) ?_
    | refine wG_pure (e_ia_vwm rfl rfl (by omega) (by omega) rfl) ?_
    | refine wG_pure (e_ia_vwi rfl rfl (by omega) rfl) ?_
    | refine wG_pure (e_ia_vwn rfl rfl (by omega) (by omega) rfl) ?_
    | refine wG_n rfl rfl ?_
    | refine wG_u rfl rfl ?_
    | refine wG_new (o_mks rfl rfl (by omega) (by decide)) ?_) | (first
    | refine wE_nil (by kernel_rfl) ?_
    | refine wE_gy rfl ?_
    | refine wE_gn rfl rfl rfl ?_
    | refine wE_gu rfl rfl ?_
    | refine wE_gnn rfl rfl rfl ?_
    | refine wE_v (o_len_vwm rfl) rfl ?_
    | refine wE_v (o_not_d rfl) rfl ?_
    | refine wE_p rfl (by first | exact rfl | omega) rfl ?_
    | refine wE_v (o_str2 rfl rfl rfl) rfl ?_
    | refine wE_v (e_istr rfl rfl (by omega)) rfl ?_
    | refine wE_v (e_istr0 rfl rfl (by omega)) rfl ?_
    | refine wE_v (o_not rfl) rfl ?_
    | refine wE_v (e_ia_vw0 rfl rfl (by omega) rfl) rfl ?_
    | refine wE_v (e_ia_vwp rfl rfl (by omega) rfl) rfl ?_
    | refine wE_v (e_ia_vwm rfl rfl (by omega) (by omega) rfl) rfl ?_
    | refine wE_v (e_ia_vwi rfl rfl (by omega) rfl) rfl ?_
    | refine wE_v (e_ia_vwn rfl rfl (by omega) (by omega) rfl) rfl ?_
    | refine wE_n rfl rfl rfl ?_
    | refine wE_u rfl rfl rfl ?_
    | refine wE_new (o_mks rfl rfl (by omega) (by decide)) rfl ?_) | (refine wG_gd rfl (fun hgt => ?_) (fun hgf => ?_) <;> (first | simp only [eq_true hgt, decide_true] | simp only [eq_false hgf, decide_false])) | refine wC_cond_d rfl (fun hg => ?_) (fun hg => ?_))
    all_goals (first | exact ret_boolE (.inr rfl) ⟨_, retV_mv rfl, rfl⟩ | (exfalso; omega) | trace_state)
theorem con4 (a b : Bool) (r : Rc) (x : Int) (h1 : r.cs.length ≤ 9223372036854775807) (h2 : r.xs.length ≤ 9223372036854775807) : Con Try.prog 4 true [.agg (rRow a b r), .int .i64 x] (.bool true) [] := by
  refine con_of_wp mixed fun4 (by simp) [] plain_nil ?_
  unfold ac4 ro4
  simp only [zipT]
  have c1 := con12 a b r h1 h2 1048576 (by decide) (by decide)
  repeat (first | refine wG_call c1 rfl rfl ?_ | (first
    | refine wC_a rfl ?_
    | refine q_s rfl ?_
    | refine q_b rfl ?_
    | refine wG_nil ?_
    | refine wG_g rfl ?_
    | refine wG_pure (o_len_vwm rfl) ?_
    | refine wG_pure (o_not_d rfl) ?_
    | refine wG_p rfl (by first | exact rfl | omega) ?_
    | refine wG_pure (o_str2 rfl rfl rfl) ?_
    | refine wG_pure (e_istr rfl rfl (by omega)) ?_
    | refine wG_pure (e_istr0 rfl rfl (by omega)) ?_
    | refine wG_pure (o_not rfl) ?_
    | refine wG_pure (e_ia_vw0 rfl rfl (by omega) rfl) ?_
    | refine wG_pure (e_ia_vwp rfl rfl (by omega) rfl) ?_
    | refine wG_pure (e_ia_vwm rfl rfl (by omega) (by omega) rfl) ?_
    | refine wG_pure (e_ia_vwi rfl rfl (by omega) rfl) ?_
    | refine wG_pure (e_ia_vwn rfl rfl (by omega) (by omega) rfl) ?_
    | refine wG_n rfl rfl ?_
    | refine wG_u rfl rfl ?_
    | refine wG_new (o_mks rfl rfl (by omega) (by decide)) ?_))
  refine wC_cond_d rfl (fun h => ?_) (fun h => ?_)
  · repeat (first
    | refine wC_a rfl ?_
    | refine q_s rfl ?_
    | refine q_b rfl ?_
    | refine wG_nil ?_
    | refine wG_g rfl ?_
    | refine wG_pure (o_len_vwm rfl) ?_
    | refine wG_pure (o_not_d rfl) ?_
    | refine wG_p rfl (by first | exact rfl | omega) ?_
    | refine wG_pure (o_str2 rfl rfl rfl) ?_
    | refine wG_pure (e_istr rfl rfl (by omega)) ?_
    | refine wG_pure (e_istr0 rfl rfl (by omega)) ?_
    | refine wG_pure (o_not rfl) ?_
    | refine wG_pure (e_ia_vw0 rfl rfl (by omega) rfl) ?_
    | refine wG_pure (e_ia_vwp rfl rfl (by omega) rfl) ?_
    | refine wG_pure (e_ia_vwm rfl rfl (by omega) (by omega) rfl) ?_
    | refine wG_pure (e_ia_vwi rfl rfl (by omega) rfl) ?_
    | refine wG_pure (e_ia_vwn rfl rfl (by omega) (by omega) rfl) ?_
    | refine wG_n rfl rfl ?_
    | refine wG_u rfl rfl ?_
    | refine wG_new (o_mks rfl rfl (by omega) (by decide)) ?_)
    exact ret_boolE (.inr rfl) ⟨_, retV_mv rfl, rfl⟩
  obtain ⟨s1, s2, s3⟩ := szR_ok (Int.not_lt.1 h)
  have h1' : r.cs.length ≤ 1048576 := by omega
  have h2' : r.xs.length ≤ 1048576 := by omega
  have cT := con14 a b r h1' h2'
  have cE := con16 true true true true r h1' h2'
  obtain ⟨z, w, p, cS, cI⟩ : ∃ z w p, Con Try.prog 17 true [.agg (rRow true true r), .int .i64 x] (.tup [.int .i64 z, .int .i64 w, .bool p]) [] ∧ Con Try.prog 18 true [.agg (rRow true true r), .int .i64 x] (.tup [.int .i64 z, .int .i64 w, .bool p]) [] := by
    by_cases hk : okP r x
    · obtain ⟨i, hi⟩ : ∃ i : Nat, idx r x = i := ⟨_, (Int.toNat_of_nonneg hk.2).symm⟩
      exact ⟨_, _, true, con17_yes true true r x h1' h2' hk.1 hi, con18_yes true true r x h1' h2' hk.1 hi⟩
    · exact ⟨_, _, false, con17_no true true r x h1' h2' hk, con18_no true true r x h1' h2' hk⟩
  cases p
  all_goals (repeat' (first | refine wC_dregE ?_ | refine wG_call2 cT rfl rfl ?_ | refine wE_call2 cT rfl rfl rfl ?_ | refine wG_call cS (ag_rec rfl rfl rfl (ag_int rfl ag_nil)) rfl ?_ | refine wG_call cI (ag_rec rfl rfl rfl (ag_int rfl ag_nil)) rfl ?_ | refine wE_call cS (ag_rec rfl rfl rfl (ag_int rfl ag_nil)) rfl rfl ?_ | refine wE_call cI (ag_rec rfl rfl rfl (ag_int rfl ag_nil)) rfl rfl ?_ | refine wG_call cE (ag_rec rfl rfl rfl (ag_rec rfl rfl rfl ag_nil)) rfl ?_ | refine wE_call cE (ag_rec rfl rfl rfl (ag_rec rfl rfl rfl ag_nil)) rfl rfl ?_ | (first
    | refine wC_a rfl ?_
    | refine q_s rfl ?_
    | refine q_b rfl ?_
    | refine wG_nil ?_
    | refine wG_g rfl ?_
    | refine wG_pure (o_len_vwm rfl) ?_
    | refine wG_pure (o_not_d rfl) ?_
    | refine wG_p rfl (by first | exact rfl | omega) ?_
    | refine wG_pure (o_str2 rfl rfl rfl) ?_
    | refine wG_pure (e_istr rfl rfl (by omega)) ?_
    | refine wG_pure (e_istr0 rfl rfl (by omega)) ?_
    | refine wG_pure (o_not rfl) ?_
    | refine wG_pure (e_ia_vw0 rfl rfl (by omega) rfl) ?_
    | refine wG_pure (e_ia_vwp rfl rfl (by omega) rfl) ?_
    | refine wG_pure (e_ia_vwm rfl rfl (by omega) (by omega) rfl) ?_
    | refine wG_pure (e_ia_vwi rfl rfl (by omega) rfl) ?_
    | refine wG_pure (e_ia_vwn rfl rfl (by omega) (by omega) rfl) ?_
    | refine wG_n rfl rfl ?_
    | refine wG_u rfl rfl ?_
    | refine wG_new (o_mks rfl rfl (by omega) (by decide)) ?_) | (first
    | refine wE_nil (by kernel_rfl) ?_
    | refine wE_gy rfl ?_
    | refine wE_gn rfl rfl rfl ?_
    | refine wE_gu rfl rfl ?_
    | refine wE_gnn rfl rfl rfl ?_
    | refine wE_v (o_len_vwm rfl) rfl ?_
    | refine wE_v (o_not_d rfl) rfl ?_
    | refine wE_p rfl (by first | exact rfl | omega) rfl ?_
    | refine wE_v (o_str2 rfl rfl rfl) rfl ?_
    | refine wE_v (e_istr rfl rfl (by omega)) rfl ?_
    | refine wE_v (e_istr0 rfl rfl (by omega)) rfl ?_
    | refine wE_v (o_not rfl) rfl ?_
    | refine wE_v (e_ia_vw0 rfl rfl (by omega) rfl) rfl ?_
    | refine wE_v (e_ia_vwp rfl rfl (by omega) rfl) rfl ?_
    | refine wE_v (e_ia_vwm rfl rfl (by omega) (by omega) rfl) rfl ?_
    | refine wE_v (e_ia_vwi rfl rfl (by omega) rfl) rfl ?_
    | refine wE_v (e_ia_vwn rfl rfl (by omega) (by omega) rfl) rfl ?_
    | refine wE_n rfl rfl rfl ?_
    | refine wE_u rfl rfl rfl ?_
    | refine wE_new (o_mks rfl rfl (by omega) (by decide)) rfl ?_) | (refine wG_gd rfl (fun hgt => ?_) (fun hgf => ?_) <;> (first | simp only [eq_true hgt, decide_true] | simp only [eq_false hgf, decide_false])) | refine wC_cond_d rfl (fun hg => ?_) (fun hg => ?_)))
  all_goals (first | contradiction | exact ret_boolE (.inr rfl) ⟨_, retV_mv rfl, rfl⟩ | (exfalso; omega) | trace_state)
theorem con5 (a b : Bool) (r : Rc) (x y : Int) (h1 : r.cs.length ≤ 9223372036854775807) (h2 : r.xs.length ≤ 9223372036854775807) : Con Try.prog 5 true [.agg (rRow a b r), .int .i64 x, .int .i64 y] (.bool true) [] := by
  refine con_of_wp mixed fun5 (by simp) [] plain_nil ?_
  unfold ac5 ro5
  simp only [zipT]
  have c1 := con12 a b r h1 h2 1048576 (by decide) (by decide)
  repeat (first | refine wG_call c1 rfl rfl ?_ | (first
    | refine wC_a rfl ?_
    | refine q_s rfl ?_
    | refine q_b rfl ?_
    | refine wG_nil ?_
    | refine wG_g rfl ?_
    | refine wG_pure (o_len_vwm rfl) ?_
    | refine wG_pure (o_not_d rfl) ?_
    | refine wG_p rfl (by first | exact rfl | omega) ?_
    | refine wG_pure (o_str2 rfl rfl rfl) ?_
    | refine wG_pure (e_istr rfl rfl (by omega)) ?_
    | refine wG_pure (e_istr0 rfl rfl (by omega)) ?_
    | refine wG_pure (o_not rfl) ?_
    | refine wG_pure (e_ia_vw0 rfl rfl (by omega) rfl) ?_
    | refine wG_pure (e_ia_vwp rfl rfl (by omega) rfl) ?_
    | refine wG_pure (e_ia_vwm rfl rfl (by omega) (by omega) rfl) ?_
    | refine wG_pure (e_ia_vwi rfl rfl (by omega) rfl) ?_
    | refine wG_pure (e_ia_vwn rfl rfl (by omega) (by omega) rfl) ?_
    | refine wG_n rfl rfl ?_
    | refine wG_u rfl rfl ?_
    | refine wG_new (o_mks rfl rfl (by omega) (by decide)) ?_))
  refine wC_cond_d rfl (fun h => ?_) (fun h => ?_)
  · repeat (first
    | refine wC_a rfl ?_
    | refine q_s rfl ?_
    | refine q_b rfl ?_
    | refine wG_nil ?_
    | refine wG_g rfl ?_
    | refine wG_pure (o_len_vwm rfl) ?_
    | refine wG_pure (o_not_d rfl) ?_
    | refine wG_p rfl (by first | exact rfl | omega) ?_
    | refine wG_pure (o_str2 rfl rfl rfl) ?_
    | refine wG_pure (e_istr rfl rfl (by omega)) ?_
    | refine wG_pure (e_istr0 rfl rfl (by omega)) ?_
    | refine wG_pure (o_not rfl) ?_
    | refine wG_pure (e_ia_vw0 rfl rfl (by omega) rfl) ?_
    | refine wG_pure (e_ia_vwp rfl rfl (by omega) rfl) ?_
    | refine wG_pure (e_ia_vwm rfl rfl (by omega) (by omega) rfl) ?_
    | refine wG_pure (e_ia_vwi rfl rfl (by omega) rfl) ?_
    | refine wG_pure (e_ia_vwn rfl rfl (by omega) (by omega) rfl) ?_
    | refine wG_n rfl rfl ?_
    | refine wG_u rfl rfl ?_
    | refine wG_new (o_mks rfl rfl (by omega) (by decide)) ?_)
    exact ret_boolE (.inr rfl) ⟨_, retV_mv rfl, rfl⟩
  obtain ⟨s1, s2, s3⟩ := szR_ok (Int.not_lt.1 h)
  have h1' : r.cs.length ≤ 1048576 := by omega
  have h2' : r.xs.length ≤ 1048576 := by omega
  have cT := con14 a b r h1' h2'
  have cE := con16 true true true true r h1' h2'
  obtain ⟨z, p, cS, cI⟩ : ∃ z p, Con Try.prog 19 true [.agg (rRow true true r), .int .i64 x, .int .i64 y] (.tup [.int .i64 z, .bool p]) [] ∧ Con Try.prog 20 true [.agg (rRow true true r), .int .i64 x, .int .i64 y] (.tup [.int .i64 z, .bool p]) [] := by
    by_cases hk : okB r x y
    · obtain ⟨i, hi⟩ : ∃ i : Nat, idx r x = i := ⟨_, (Int.toNat_of_nonneg hk.2.1).symm⟩
      obtain ⟨k, hk2⟩ : ∃ k : Nat, idx r y = k := ⟨_, (Int.toNat_of_nonneg hk.2.2.1).symm⟩
      have hik : i ≠ k := fun e => hk.2.2.2 (by rw [hi, hk2, e])
      exact ⟨_, true, con19_yes true true r x y h1' h2' hk.1 hi hk2 hik, con20_yes true true r x y h1' h2' hk.1 hi hk2 hik⟩
    · exact ⟨_, false, con19_no true true r x y h1' h2' hk, con20_no true true r x y h1' h2' hk⟩
  cases p
  all_goals (repeat' (first | refine wC_dregE ?_ | refine wG_call2 cT rfl rfl ?_ | refine wE_call2 cT rfl rfl rfl ?_ | refine wG_call cS (ag_rec rfl rfl rfl (ag_int rfl (ag_int rfl ag_nil))) rfl ?_ | refine wG_call cI (ag_rec rfl rfl rfl (ag_int rfl (ag_int rfl ag_nil))) rfl ?_ | refine wE_call cS (ag_rec rfl rfl rfl (ag_int rfl (ag_int rfl ag_nil))) rfl rfl ?_ | refine wE_call cI (ag_rec rfl rfl rfl (ag_int rfl (ag_int rfl ag_nil))) rfl rfl ?_ | refine wG_call cE (ag_rec rfl rfl rfl (ag_rec rfl rfl rfl ag_nil)) rfl ?_ | refine wE_call cE (ag_rec rfl rfl rfl (ag_rec rfl rfl rfl ag_nil)) rfl rfl ?_ | (first
    | refine wC_a rfl ?_
    | refine q_s rfl ?_
    | refine q_b rfl ?_
    | refine wG_nil ?_
    | refine wG_g rfl ?_
    | refine wG_pure (o_len_vwm rfl) ?_
    | refine wG_pure (o_not_d rfl) ?_
    | refine wG_p rfl (by first | exact rfl | omega) ?_
    | refine wG_pure (o_str2 rfl rfl rfl) ?_
    | refine wG_pure (e_istr rfl rfl (by omega)) ?_
    | refine wG_pure (e_istr0 rfl rfl (by omega)) ?_
    | refine wG_pure (o_not rfl) ?_
    | refine wG_pure (e_ia_vw0 rfl rfl (by omega) rfl) ?_
    | refine wG_pure (e_ia_vwp rfl rfl (by omega) rfl) ?_
    | refine wG_pure (e_ia_vwm rfl rfl (by omega) (by omega) rfl) ?_
    | refine wG_pure (e_ia_vwi rfl rfl (by omega) rfl) ?_
    | refine wG_pure (e_ia_vwn rfl rfl (by omega) (by omega) rfl) ?_
    | refine wG_n rfl rfl ?_
    | refine wG_u rfl rfl ?_
    | refine wG_new (o_mks rfl rfl (by omega) (by decide)) ?_) | (first
    | refine wE_nil (by kernel_rfl) ?_
    | refine wE_gy rfl ?_
    | refine wE_gn rfl rfl rfl ?_
    | refine wE_gu rfl rfl ?_
    | refine wE_gnn rfl rfl rfl ?_
    | refine wE_v (o_len_vwm rfl) rfl ?_
    | refine wE_v (o_not_d rfl) rfl ?_
    | refine wE_p rfl (by first | exact rfl | omega) rfl ?_
    | refine wE_v (o_str2 rfl rfl rfl) rfl ?_
    | refine wE_v (e_istr rfl rfl (by omega)) rfl ?_
    | refine wE_v (e_istr0 rfl rfl (by omega)) rfl ?_
    | refine wE_v (o_not rfl) rfl ?_
    | refine wE_v (e_ia_vw0 rfl rfl (by omega) rfl) rfl ?_
    | refine wE_v (e_ia_vwp rfl rfl (by omega) rfl) rfl ?_
    | refine wE_v (e_ia_vwm rfl rfl (by omega) (by omega) rfl) rfl ?_
    | refine wE_v (e_ia_vwi rfl rfl (by omega) rfl) rfl ?_
    | refine wE_v (e_ia_vwn rfl rfl (by omega) (by omega) rfl) rfl ?_
    | refine wE_n rfl rfl rfl ?_
    | refine wE_u rfl rfl rfl ?_
    | refine wE_new (o_mks rfl rfl (by omega) (by decide)) rfl ?_) | (refine wG_gd rfl (fun hgt => ?_) (fun hgf => ?_) <;> (first | simp only [eq_true hgt, decide_true] | simp only [eq_false hgf, decide_false])) | refine wC_cond_d rfl (fun hg => ?_) (fun hg => ?_)))
  all_goals (first | contradiction | exact ret_boolE (.inr rfl) ⟨_, retV_mv rfl, rfl⟩ | (exfalso; omega) | trace_state)
end Go.Proofs.Ythicnjgdngfbkaa.Rec
