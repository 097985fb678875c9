/- Marks on records; the laws on the rank, the sequence with a rank and the next sequence. -/
import Derived.Test.YthicnjgdngfbkaaSeqM
namespace Go.Proofs.Ythicnjgdngfbkaa.Rec
open Go Go.Proofs.Ythicnjgdngfbkaa.Ab Go.Proofs.Ythicnjgdngfbkaa.Il
attribute [local irreducible] wpO wpC wpDr wpQ wpG wpE stepA seqQ blkQ Ret RetG ev
set_option maxRecDepth 10000
set_option maxHeartbeats 8000000
set_option linter.unusedSimpArgs false
set_option linter.unusedVariables false

def ac7 : AC := (.seq (.reg [⟨(some 3), none, (.box 2 true (.t 0))⟩, ⟨(some 6), none, (.mv (.c (.bool false)))⟩]) (.seq (.seq (.reg [⟨(some 15), none, (.mv (.t 1))⟩, ⟨(some 16), none, (.len (.t 15))⟩, ⟨(some 17), none, (.bin .gtr (.t 16) (.c (.int .i64 1048576)))⟩]) (.cond (.t 17) (.seq (.reg [⟨(some 6), none, (.mv (.c (.bool true)))⟩]) .ret) .skip)) (.seq (.seq (.reg [⟨(some 18), none, (.mv (.t 2))⟩, ⟨(some 19), none, (.len (.t 18))⟩, ⟨(some 20), none, (.bin .gtr (.t 19) (.c (.int .i64 1048576)))⟩]) (.cond (.t 20) (.seq (.reg [⟨(some 6), none, (.mv (.c (.bool true)))⟩]) .ret) .skip)) (.seq (.reg [⟨(some 7), none, (.mv (.c (.int .i64 1048576)))⟩]) (.seq (.reg [⟨(some 21), none, (.ld true 2 (.t 3))⟩, ⟨(some 22), none, (.mv (.t 7))⟩, ⟨(some 23), none, (.call 12 [(.t 21), (.t 22)])⟩, ⟨(some 7), none, (.mv (.t 23))⟩]) (.seq (.seq (.reg [⟨(some 24), none, (.mv (.t 7))⟩, ⟨(some 25), none, (.bin .lss (.t 24) (.c (.int .i64 0)))⟩]) (.cond (.t 25) (.seq (.reg [⟨(some 6), none, (.mv (.c (.bool true)))⟩]) .ret) .skip)) (.seq (.reg [⟨(some 27), none, (.ld true 2 (.t 3))⟩, ⟨(some 28), none, (.call 14 [(.t 27)])⟩, ⟨(some 29), none, (.mv (.t 1))⟩, ⟨(some 30), none, (.call 22 [(.t 29)])⟩, ⟨(some 31), none, (.mv (.t 2))⟩, ⟨(some 32), none, (.call 22 [(.t 31)])⟩, ⟨(some 33), none, (.call 25 [(.t 28), (.t 30), (.t 32)])⟩, ⟨(some 26), none, (.mv (.t 33))⟩, ⟨(some 34), none, (.ext (.t 26) 0)⟩, ⟨(some 35), none, (.ext (.t 26) 1)⟩, ⟨(some 8), none, (.mv (.t 34))⟩, ⟨(some 9), none, (.mv (.t 35))⟩]) (.seq (.reg [⟨(some 36), none, (.ld true 2 (.t 3))⟩, ⟨(some 37), none, (.call 14 [(.t 36)])⟩, ⟨(some 10), none, (.alloc [.nilS, .nilS])⟩, ⟨none, none, (.st 2 (.t 10) (.t 37))⟩]) (.seq (.reg [⟨(some 38), none, (.mv (.t 1))⟩, ⟨(some 39), none, (.call 22 [(.t 38)])⟩, ⟨(some 11), none, (.mv (.t 39))⟩]) (.seq (.reg [⟨(some 40), none, (.mv (.t 2))⟩, ⟨(some 41), none, (.call 22 [(.t 40)])⟩, ⟨(some 12), none, (.mv (.t 41))⟩]) (.seq (.reg [⟨(some 43), none, (.ld true 2 (.t 10))⟩, ⟨(some 44), none, (.mv (.t 11))⟩, ⟨(some 45), none, (.mv (.t 12))⟩, ⟨(some 46), none, (.call 26 [(.t 43), (.t 44), (.t 45)])⟩, ⟨(some 42), none, (.mv (.t 46))⟩, ⟨(some 47), none, (.ext (.t 42) 0)⟩, ⟨(some 48), none, (.ext (.t 42) 1)⟩, ⟨(some 13), none, (.mv (.t 47))⟩, ⟨(some 14), none, (.mv (.t 48))⟩]) (.seq (.seq (.reg [⟨(some 49), none, (.mv (.t 13))⟩, ⟨(some 50), none, (.mv (.t 8))⟩, ⟨(some 51), none, (.bin .neq (.t 49) (.t 50))⟩, ⟨(some 52), none, (.mv (.t 51))⟩, ⟨(some 53), (some (52, false)), (.mv (.t 14))⟩, ⟨(some 54), (some (52, false)), (.mv (.t 9))⟩, ⟨(some 55), (some (52, false)), (.bool2 true (.t 53) (.t 54))⟩, ⟨(some 56), none, (.pick (.t 52) (.c (.bool true)) (.t 55))⟩]) (.cond (.t 56) (.seq (.reg [⟨(some 6), none, (.mv (.c (.bool false)))⟩]) .ret) .skip)) (.seq (.seq (.dreg [⟨(some 57), none, (.ld true 2 (.t 10))⟩, ⟨(some 58), none, (.ld true 2 (.t 3))⟩, ⟨(some 59), none, (.call 14 [(.t 58)])⟩, ⟨(some 60), none, (.call 16 [(.t 57), (.t 59)])⟩, ⟨(some 61), none, (.un .not (.t 60))⟩] [[], [], [1], [0, 1, 2], [0, 1, 2, 3]]) (.cond (.t 61) (.seq (.reg [⟨(some 6), none, (.mv (.c (.bool false)))⟩]) .ret) .skip)) (.seq (.seq (.reg [⟨(some 62), none, (.mv (.t 11))⟩, ⟨(some 63), none, (.mv (.t 1))⟩, ⟨(some 64), none, (.call 22 [(.t 63)])⟩, ⟨(some 65), none, (.call 24 [(.t 62), (.t 64)])⟩, ⟨(some 66), none, (.un .not (.t 65))⟩]) (.cond (.t 66) (.seq (.reg [⟨(some 6), none, (.mv (.c (.bool false)))⟩]) .ret) .skip)) (.seq (.seq (.reg [⟨(some 67), none, (.mv (.t 12))⟩, ⟨(some 68), none, (.mv (.t 2))⟩, ⟨(some 69), none, (.call 22 [(.t 68)])⟩, ⟨(some 70), none, (.call 24 [(.t 67), (.t 69)])⟩, ⟨(some 71), none, (.un .not (.t 70))⟩]) (.cond (.t 71) (.seq (.reg [⟨(some 6), none, (.mv (.c (.bool false)))⟩]) .ret) .skip)) (.seq (.reg [⟨(some 6), none, (.mv (.c (.bool true)))⟩]) .ret))))))))))))))))
def ro7 : List AOp := [(.mv (.t 6))]
theorem fun7 : Fun Try.prog 7 72 ac7 ro7 := ⟨Try.f7, _, Try.func7, by kernel_rfl, rfl, rfl, by kernel_rfl, by kernel_rfl, by decide⟩
def ac8 : AC := (.seq (.reg [⟨(some 2), none, (.box 2 true (.t 0))⟩, ⟨(some 4), none, (.mv (.c (.bool false)))⟩]) (.seq (.seq (.reg [⟨(some 12), none, (.mv (.t 1))⟩, ⟨(some 13), none, (.len (.t 12))⟩, ⟨(some 14), none, (.bin .gtr (.t 13) (.c (.int .i64 1048576)))⟩]) (.cond (.t 14) (.seq (.reg [⟨(some 4), none, (.mv (.c (.bool true)))⟩]) .ret) .skip)) (.seq (.reg [⟨(some 5), none, (.mv (.c (.int .i64 1048576)))⟩]) (.seq (.reg [⟨(some 15), none, (.ld true 2 (.t 2))⟩, ⟨(some 16), none, (.mv (.t 5))⟩, ⟨(some 17), none, (.call 12 [(.t 15), (.t 16)])⟩, ⟨(some 5), none, (.mv (.t 17))⟩]) (.seq (.seq (.reg [⟨(some 18), none, (.mv (.t 5))⟩, ⟨(some 19), none, (.bin .lss (.t 18) (.c (.int .i64 0)))⟩]) (.cond (.t 19) (.seq (.reg [⟨(some 4), none, (.mv (.c (.bool true)))⟩]) .ret) .skip)) (.seq (.reg [⟨(some 21), none, (.ld true 2 (.t 2))⟩, ⟨(some 22), none, (.call 14 [(.t 21)])⟩, ⟨(some 23), none, (.mv (.t 1))⟩, ⟨(some 24), none, (.call 22 [(.t 23)])⟩, ⟨(some 25), none, (.call 27 [(.t 22), (.t 24)])⟩, ⟨(some 20), none, (.mv (.t 25))⟩, ⟨(some 26), none, (.ext (.t 20) 0)⟩, ⟨(some 27), none, (.ext (.t 20) 1)⟩, ⟨(some 6), none, (.mv (.t 26))⟩, ⟨(some 7), none, (.mv (.t 27))⟩]) (.seq (.reg [⟨(some 28), none, (.ld true 2 (.t 2))⟩, ⟨(some 29), none, (.call 14 [(.t 28)])⟩, ⟨(some 8), none, (.alloc [.nilS, .nilS])⟩, ⟨none, none, (.st 2 (.t 8) (.t 29))⟩]) (.seq (.reg [⟨(some 30), none, (.mv (.t 1))⟩, ⟨(some 31), none, (.call 22 [(.t 30)])⟩, ⟨(some 9), none, (.mv (.t 31))⟩]) (.seq (.reg [⟨(some 33), none, (.ld true 2 (.t 8))⟩, ⟨(some 34), none, (.mv (.t 9))⟩, ⟨(some 35), none, (.call 28 [(.t 33), (.t 34)])⟩, ⟨(some 32), none, (.mv (.t 35))⟩, ⟨(some 36), none, (.ext (.t 32) 0)⟩, ⟨(some 37), none, (.ext (.t 32) 1)⟩, ⟨(some 10), none, (.mv (.t 36))⟩, ⟨(some 11), none, (.mv (.t 37))⟩]) (.seq (.seq (.reg [⟨(some 38), none, (.mv (.t 10))⟩, ⟨(some 39), none, (.mv (.t 6))⟩, ⟨(some 40), none, (.bin .neq (.t 38) (.t 39))⟩, ⟨(some 41), none, (.mv (.t 40))⟩, ⟨(some 42), (some (41, false)), (.mv (.t 11))⟩, ⟨(some 43), (some (41, false)), (.mv (.t 7))⟩, ⟨(some 44), (some (41, false)), (.bool2 true (.t 42) (.t 43))⟩, ⟨(some 45), none, (.pick (.t 41) (.c (.bool true)) (.t 44))⟩]) (.cond (.t 45) (.seq (.reg [⟨(some 4), none, (.mv (.c (.bool false)))⟩]) .ret) .skip)) (.seq (.seq (.dreg [⟨(some 46), none, (.ld true 2 (.t 8))⟩, ⟨(some 47), none, (.ld true 2 (.t 2))⟩, ⟨(some 48), none, (.call 14 [(.t 47)])⟩, ⟨(some 49), none, (.call 16 [(.t 46), (.t 48)])⟩, ⟨(some 50), none, (.un .not (.t 49))⟩] [[], [], [1], [0, 1, 2], [0, 1, 2, 3]]) (.cond (.t 50) (.seq (.reg [⟨(some 4), none, (.mv (.c (.bool false)))⟩]) .ret) .skip)) (.seq (.seq (.reg [⟨(some 51), none, (.mv (.t 9))⟩, ⟨(some 52), none, (.mv (.t 1))⟩, ⟨(some 53), none, (.call 22 [(.t 52)])⟩, ⟨(some 54), none, (.call 24 [(.t 51), (.t 53)])⟩, ⟨(some 55), none, (.un .not (.t 54))⟩]) (.cond (.t 55) (.seq (.reg [⟨(some 4), none, (.mv (.c (.bool false)))⟩]) .ret) .skip)) (.seq (.reg [⟨(some 4), none, (.mv (.c (.bool true)))⟩]) .ret)))))))))))))
def ro8 : List AOp := [(.mv (.t 4))]
theorem fun8 : Fun Try.prog 8 56 ac8 ro8 := ⟨Try.f8, _, Try.func8, by kernel_rfl, rfl, rfl, by kernel_rfl, by kernel_rfl, by decide⟩
def ac10 : AC := (.seq (.reg [⟨(some 2), none, (.box 2 true (.t 0))⟩, ⟨(some 4), none, (.mv (.c (.bool false)))⟩]) (.seq (.reg [⟨(some 5), none, (.mv (.c (.int .i64 1048576)))⟩]) (.seq (.reg [⟨(some 16), none, (.ld true 2 (.t 2))⟩, ⟨(some 17), none, (.mv (.t 5))⟩, ⟨(some 18), none, (.call 12 [(.t 16), (.t 17)])⟩, ⟨(some 5), none, (.mv (.t 18))⟩]) (.seq (.seq (.reg [⟨(some 19), none, (.mv (.t 5))⟩, ⟨(some 20), none, (.bin .lss (.t 19) (.c (.int .i64 0)))⟩]) (.cond (.t 20) (.seq (.reg [⟨(some 4), none, (.mv (.c (.bool true)))⟩]) .ret) .skip)) (.seq (.reg [⟨(some 22), none, (.ld true 2 (.t 2))⟩, ⟨(some 23), none, (.call 14 [(.t 22)])⟩, ⟨(some 24), none, (.mv (.t 1))⟩, ⟨(some 25), none, (.call 34 [(.t 23), (.t 24)])⟩, ⟨(some 21), none, (.mv (.t 25))⟩, ⟨(some 26), none, (.ext (.t 21) 0)⟩, ⟨(some 27), none, (.ext (.t 21) 1)⟩, ⟨(some 6), none, (.mv (.t 26))⟩, ⟨(some 7), none, (.mv (.t 27))⟩]) (.seq (.reg [⟨(some 28), none, (.ld true 2 (.t 2))⟩, ⟨(some 29), none, (.call 14 [(.t 28)])⟩, ⟨(some 8), none, (.alloc [.nilS, .nilS])⟩, ⟨none, none, (.st 2 (.t 8) (.t 29))⟩]) (.seq (.reg [⟨(some 31), none, (.ld true 2 (.t 8))⟩, ⟨(some 32), none, (.mv (.t 1))⟩, ⟨(some 33), none, (.call 35 [(.t 31), (.t 32)])⟩, ⟨(some 30), none, (.mv (.t 33))⟩, ⟨(some 34), none, (.ext (.t 30) 0)⟩, ⟨(some 35), none, (.ext (.t 30) 1)⟩, ⟨(some 9), none, (.mv (.t 34))⟩, ⟨(some 10), none, (.mv (.t 35))⟩]) (.seq (.seq (.reg [⟨(some 36), none, (.mv (.t 9))⟩, ⟨(some 37), none, (.mv (.t 6))⟩, ⟨(some 38), none, (.call 24 [(.t 36), (.t 37)])⟩, ⟨(some 39), none, (.un .not (.t 38))⟩, ⟨(some 40), none, (.mv (.t 39))⟩, ⟨(some 41), (some (40, false)), (.mv (.t 10))⟩, ⟨(some 42), (some (40, false)), (.mv (.t 7))⟩, ⟨(some 43), (some (40, false)), (.bool2 true (.t 41) (.t 42))⟩, ⟨(some 44), none, (.pick (.t 40) (.c (.bool true)) (.t 43))⟩]) (.cond (.t 44) (.seq (.reg [⟨(some 4), none, (.mv (.c (.bool false)))⟩]) .ret) .skip)) (.seq (.seq (.dreg [⟨(some 45), none, (.ld true 2 (.t 8))⟩, ⟨(some 46), none, (.ld true 2 (.t 2))⟩, ⟨(some 47), none, (.call 14 [(.t 46)])⟩, ⟨(some 48), none, (.call 16 [(.t 45), (.t 47)])⟩, ⟨(some 49), none, (.un .not (.t 48))⟩] [[], [], [1], [0, 1, 2], [0, 1, 2, 3]]) (.cond (.t 49) (.seq (.reg [⟨(some 4), none, (.mv (.c (.bool false)))⟩]) .ret) .skip)) (.seq (.reg [⟨(some 11), none, (.mv (.c (.int .i64 1)))⟩]) (.seq (.reg [⟨(some 50), none, (.ld true 2 (.t 8))⟩, ⟨(some 51), none, (.mv (.t 11))⟩, ⟨(some 52), none, (.call 31 [(.t 50), (.t 51)])⟩, ⟨(some 11), none, (.mv (.t 52))⟩]) (.seq (.seq (.reg [⟨(some 53), none, (.mv (.t 11))⟩, ⟨(some 54), none, (.bin .lss (.t 53) (.c (.int .i64 0)))⟩, ⟨(some 55), none, (.mv (.t 54))⟩, ⟨(some 56), (some (55, false)), (.mv (.t 9))⟩, ⟨(some 57), (some (55, false)), (.mv (.t 6))⟩, ⟨(some 58), (some (55, false)), (.call 24 [(.t 56), (.t 57)])⟩, ⟨(some 59), (some (55, false)), (.un .not (.t 58))⟩, ⟨(some 60), none, (.pick (.t 55) (.c (.bool true)) (.t 59))⟩, ⟨(some 61), none, (.mv (.t 60))⟩, ⟨(some 62), (some (61, false)), (.mv (.t 10))⟩, ⟨(some 63), (some (61, false)), (.mv (.t 7))⟩, ⟨(some 64), (some (61, false)), (.bool2 true (.t 62) (.t 63))⟩, ⟨(some 65), none, (.pick (.t 61) (.c (.bool true)) (.t 64))⟩]) (.cond (.t 65) (.seq (.reg [⟨(some 4), none, (.mv (.c (.bool false)))⟩]) .ret) .skip)) (.seq (.reg [⟨(some 12), none, (.mv (.c (.int .i64 1)))⟩]) (.seq (.reg [⟨(some 66), none, (.mv (.t 9))⟩, ⟨(some 67), none, (.mv (.t 12))⟩, ⟨(some 68), none, (.call 32 [(.t 66), (.t 67)])⟩, ⟨(some 12), none, (.mv (.t 68))⟩]) (.seq (.reg [⟨(some 13), none, (.mv (.c (.int .i64 1)))⟩]) (.seq (.reg [⟨(some 69), none, (.mv (.t 9))⟩, ⟨(some 70), none, (.mv (.t 13))⟩, ⟨(some 71), none, (.call 33 [(.t 69), (.t 70)])⟩, ⟨(some 13), none, (.mv (.t 71))⟩]) (.seq (.seq (.reg [⟨(some 72), none, (.mv (.t 13))⟩, ⟨(some 73), none, (.bin .lss (.t 72) (.c (.int .i64 0)))⟩]) (.cond (.t 73) (.seq (.reg [⟨(some 4), none, (.mv (.c (.bool false)))⟩]) .ret) .skip)) (.seq (.seq (.reg [⟨(some 74), none, (.mv (.t 13))⟩, ⟨(some 75), none, (.mv (.t 12))⟩, ⟨(some 76), none, (.bin .neq (.t 74) (.t 75))⟩]) (.cond (.t 76) (.seq (.reg [⟨(some 4), none, (.mv (.c (.bool false)))⟩]) .ret) .skip)) (.seq (.reg [⟨(some 78), none, (.ld true 2 (.t 2))⟩, ⟨(some 79), none, (.call 14 [(.t 78)])⟩, ⟨(some 80), none, (.mv (.t 1))⟩, ⟨(some 81), none, (.call 35 [(.t 79), (.t 80)])⟩, ⟨(some 77), none, (.mv (.t 81))⟩, ⟨(some 82), none, (.ext (.t 77) 0)⟩, ⟨(some 83), none, (.ext (.t 77) 1)⟩, ⟨(some 14), none, (.mv (.t 82))⟩, ⟨(some 15), none, (.mv (.t 83))⟩]) (.seq (.seq (.reg [⟨(some 84), none, (.mv (.t 14))⟩, ⟨(some 85), none, (.mv (.t 6))⟩, ⟨(some 86), none, (.call 24 [(.t 84), (.t 85)])⟩, ⟨(some 87), none, (.un .not (.t 86))⟩, ⟨(some 88), none, (.mv (.t 87))⟩, ⟨(some 89), (some (88, false)), (.mv (.t 15))⟩, ⟨(some 90), (some (88, false)), (.mv (.t 7))⟩, ⟨(some 91), (some (88, false)), (.bool2 true (.t 89) (.t 90))⟩, ⟨(some 92), none, (.pick (.t 88) (.c (.bool true)) (.t 91))⟩]) (.cond (.t 92) (.seq (.reg [⟨(some 4), none, (.mv (.c (.bool false)))⟩]) .ret) .skip)) (.seq (.reg [⟨(some 13), none, (.mv (.c (.int .i64 1)))⟩]) (.seq (.reg [⟨(some 93), none, (.mv (.t 9))⟩, ⟨(some 94), none, (.mv (.t 13))⟩, ⟨(some 95), none, (.call 33 [(.t 93), (.t 94)])⟩, ⟨(some 13), none, (.mv (.t 95))⟩]) (.seq (.seq (.reg [⟨(some 96), none, (.mv (.t 13))⟩, ⟨(some 97), none, (.bin .lss (.t 96) (.c (.int .i64 0)))⟩]) (.cond (.t 97) (.seq (.reg [⟨(some 4), none, (.mv (.c (.bool false)))⟩]) .ret) .skip)) (.seq (.seq (.reg [⟨(some 98), none, (.mv (.t 13))⟩, ⟨(some 99), none, (.mv (.t 12))⟩, ⟨(some 100), none, (.bin .neq (.t 98) (.t 99))⟩]) (.cond (.t 100) (.seq (.reg [⟨(some 4), none, (.mv (.c (.bool false)))⟩]) .ret) .skip)) (.seq (.reg [⟨(some 4), none, (.mv (.c (.bool true)))⟩]) .ret)))))))))))))))))))))))))
def ro10 : List AOp := [(.mv (.t 4))]
theorem fun10 : Fun Try.prog 10 101 ac10 ro10 := ⟨Try.f10, _, Try.func10, by kernel_rfl, rfl, rfl, by kernel_rfl, by kernel_rfl, by decide⟩
def ac11 : AC := (.seq (.reg [⟨(some 2), none, (.box 2 true (.t 0))⟩, ⟨(some 4), none, (.mv (.c (.bool false)))⟩]) (.seq (.seq (.reg [⟨(some 20), none, (.mv (.t 1))⟩, ⟨(some 21), none, (.len (.t 20))⟩, ⟨(some 22), none, (.bin .gtr (.t 21) (.c (.int .i64 1048576)))⟩]) (.cond (.t 22) (.seq (.reg [⟨(some 4), none, (.mv (.c (.bool true)))⟩]) .ret) .skip)) (.seq (.reg [⟨(some 5), none, (.mv (.c (.int .i64 1048576)))⟩]) (.seq (.reg [⟨(some 23), none, (.ld true 2 (.t 2))⟩, ⟨(some 24), none, (.mv (.t 5))⟩, ⟨(some 25), none, (.call 12 [(.t 23), (.t 24)])⟩, ⟨(some 5), none, (.mv (.t 25))⟩]) (.seq (.seq (.reg [⟨(some 26), none, (.mv (.t 5))⟩, ⟨(some 27), none, (.bin .lss (.t 26) (.c (.int .i64 0)))⟩]) (.cond (.t 27) (.seq (.reg [⟨(some 4), none, (.mv (.c (.bool true)))⟩]) .ret) .skip)) (.seq (.reg [⟨(some 29), none, (.ld true 2 (.t 2))⟩, ⟨(some 30), none, (.call 14 [(.t 29)])⟩, ⟨(some 31), none, (.mv (.t 1))⟩, ⟨(some 32), none, (.call 22 [(.t 31)])⟩, ⟨(some 33), none, (.call 36 [(.t 30), (.t 32)])⟩, ⟨(some 28), none, (.mv (.t 33))⟩, ⟨(some 34), none, (.ext (.t 28) 0)⟩, ⟨(some 35), none, (.ext (.t 28) 1)⟩, ⟨(some 36), none, (.ext (.t 28) 2)⟩, ⟨(some 6), none, (.mv (.t 34))⟩, ⟨(some 7), none, (.mv (.t 35))⟩, ⟨(some 8), none, (.mv (.t 36))⟩]) (.seq (.reg [⟨(some 37), none, (.ld true 2 (.t 2))⟩, ⟨(some 38), none, (.call 14 [(.t 37)])⟩, ⟨(some 9), none, (.alloc [.nilS, .nilS])⟩, ⟨none, none, (.st 2 (.t 9) (.t 38))⟩]) (.seq (.reg [⟨(some 39), none, (.mv (.t 1))⟩, ⟨(some 40), none, (.call 22 [(.t 39)])⟩, ⟨(some 10), none, (.mv (.t 40))⟩]) (.seq (.reg [⟨(some 42), none, (.ld true 2 (.t 9))⟩, ⟨(some 43), none, (.mv (.t 10))⟩, ⟨(some 44), none, (.call 37 [(.t 42), (.t 43)])⟩, ⟨(some 41), none, (.mv (.t 44))⟩, ⟨(some 45), none, (.ext (.t 41) 0)⟩, ⟨(some 46), none, (.ext (.t 41) 1)⟩, ⟨(some 47), none, (.ext (.t 41) 2)⟩, ⟨(some 11), none, (.mv (.t 45))⟩, ⟨(some 12), none, (.mv (.t 46))⟩, ⟨(some 13), none, (.mv (.t 47))⟩]) (.seq (.seq (.reg [⟨(some 48), none, (.mv (.t 11))⟩, ⟨(some 49), none, (.mv (.t 6))⟩, ⟨(some 50), none, (.call 24 [(.t 48), (.t 49)])⟩, ⟨(some 51), none, (.un .not (.t 50))⟩, ⟨(some 52), none, (.mv (.t 51))⟩, ⟨(some 53), (some (52, false)), (.mv (.t 12))⟩, ⟨(some 54), (some (52, false)), (.mv (.t 7))⟩, ⟨(some 55), (some (52, false)), (.bool2 true (.t 53) (.t 54))⟩, ⟨(some 56), none, (.pick (.t 52) (.c (.bool true)) (.t 55))⟩, ⟨(some 57), none, (.mv (.t 56))⟩, ⟨(some 58), (some (57, false)), (.mv (.t 13))⟩, ⟨(some 59), (some (57, false)), (.mv (.t 8))⟩, ⟨(some 60), (some (57, false)), (.bool2 true (.t 58) (.t 59))⟩, ⟨(some 61), none, (.pick (.t 57) (.c (.bool true)) (.t 60))⟩]) (.cond (.t 61) (.seq (.reg [⟨(some 4), none, (.mv (.c (.bool false)))⟩]) .ret) .skip)) (.seq (.seq (.dreg [⟨(some 62), none, (.ld true 2 (.t 9))⟩, ⟨(some 63), none, (.ld true 2 (.t 2))⟩, ⟨(some 64), none, (.call 14 [(.t 63)])⟩, ⟨(some 65), none, (.call 16 [(.t 62), (.t 64)])⟩, ⟨(some 66), none, (.un .not (.t 65))⟩] [[], [], [1], [0, 1, 2], [0, 1, 2, 3]]) (.cond (.t 66) (.seq (.reg [⟨(some 4), none, (.mv (.c (.bool false)))⟩]) .ret) .skip)) (.seq (.seq (.reg [⟨(some 67), none, (.mv (.t 10))⟩, ⟨(some 68), none, (.mv (.t 1))⟩, ⟨(some 69), none, (.call 22 [(.t 68)])⟩, ⟨(some 70), none, (.call 24 [(.t 67), (.t 69)])⟩, ⟨(some 71), none, (.un .not (.t 70))⟩]) (.cond (.t 71) (.seq (.reg [⟨(some 4), none, (.mv (.c (.bool false)))⟩]) .ret) .skip)) (.seq (.reg [⟨(some 14), none, (.mv (.c (.int .i64 1)))⟩]) (.seq (.reg [⟨(some 72), none, (.ld true 2 (.t 9))⟩, ⟨(some 73), none, (.mv (.t 14))⟩, ⟨(some 74), none, (.call 31 [(.t 72), (.t 73)])⟩, ⟨(some 14), none, (.mv (.t 74))⟩]) (.seq (.reg [⟨(some 75), none, (.mv (.t 10))⟩, ⟨(some 76), none, (.mv (.t 14))⟩, ⟨(some 77), none, (.call 32 [(.t 75), (.t 76)])⟩, ⟨(some 14), none, (.mv (.t 77))⟩]) (.seq (.seq (.reg [⟨(some 78), none, (.mv (.t 14))⟩, ⟨(some 79), none, (.bin .lss (.t 78) (.c (.int .i64 0)))⟩, ⟨(some 80), none, (.mv (.t 79))⟩, ⟨(some 81), (some (80, false)), (.mv (.t 11))⟩, ⟨(some 82), (some (80, false)), (.mv (.t 6))⟩, ⟨(some 83), (some (80, false)), (.call 24 [(.t 81), (.t 82)])⟩, ⟨(some 84), (some (80, false)), (.un .not (.t 83))⟩, ⟨(some 85), none, (.pick (.t 80) (.c (.bool true)) (.t 84))⟩, ⟨(some 86), none, (.mv (.t 85))⟩, ⟨(some 87), (some (86, false)), (.mv (.t 12))⟩, ⟨(some 88), (some (86, false)), (.mv (.t 7))⟩, ⟨(some 89), (some (86, false)), (.bool2 true (.t 87) (.t 88))⟩, ⟨(some 90), none, (.pick (.t 86) (.c (.bool true)) (.t 89))⟩, ⟨(some 91), none, (.mv (.t 90))⟩, ⟨(some 92), (some (91, false)), (.mv (.t 13))⟩, ⟨(some 93), (some (91, false)), (.mv (.t 8))⟩, ⟨(some 94), (some (91, false)), (.bool2 true (.t 92) (.t 93))⟩, ⟨(some 95), none, (.pick (.t 91) (.c (.bool true)) (.t 94))⟩]) (.cond (.t 95) (.seq (.reg [⟨(some 4), none, (.mv (.c (.bool false)))⟩]) .ret) .skip)) (.seq (.reg [⟨(some 15), none, (.mv (.c (.int .i64 1)))⟩]) (.seq (.reg [⟨(some 96), none, (.mv (.t 11))⟩, ⟨(some 97), none, (.mv (.t 15))⟩, ⟨(some 98), none, (.call 32 [(.t 96), (.t 97)])⟩, ⟨(some 15), none, (.mv (.t 98))⟩]) (.seq (.reg [⟨(some 16), none, (.mv (.c (.int .i64 1)))⟩]) (.seq (.reg [⟨(some 99), none, (.mv (.t 11))⟩, ⟨(some 100), none, (.mv (.t 16))⟩, ⟨(some 101), none, (.call 33 [(.t 99), (.t 100)])⟩, ⟨(some 16), none, (.mv (.t 101))⟩]) (.seq (.seq (.reg [⟨(some 102), none, (.mv (.t 16))⟩, ⟨(some 103), none, (.bin .lss (.t 102) (.c (.int .i64 0)))⟩]) (.cond (.t 103) (.seq (.reg [⟨(some 4), none, (.mv (.c (.bool false)))⟩]) .ret) .skip)) (.seq (.seq (.reg [⟨(some 104), none, (.mv (.t 16))⟩, ⟨(some 105), none, (.mv (.t 15))⟩, ⟨(some 106), none, (.bin .neq (.t 104) (.t 105))⟩]) (.cond (.t 106) (.seq (.reg [⟨(some 4), none, (.mv (.c (.bool false)))⟩]) .ret) .skip)) (.seq (.reg [⟨(some 108), none, (.ld true 2 (.t 2))⟩, ⟨(some 109), none, (.call 14 [(.t 108)])⟩, ⟨(some 110), none, (.mv (.t 1))⟩, ⟨(some 111), none, (.call 22 [(.t 110)])⟩, ⟨(some 112), none, (.call 37 [(.t 109), (.t 111)])⟩, ⟨(some 107), none, (.mv (.t 112))⟩, ⟨(some 113), none, (.ext (.t 107) 0)⟩, ⟨(some 114), none, (.ext (.t 107) 1)⟩, ⟨(some 115), none, (.ext (.t 107) 2)⟩, ⟨(some 17), none, (.mv (.t 113))⟩, ⟨(some 18), none, (.mv (.t 114))⟩, ⟨(some 19), none, (.mv (.t 115))⟩]) (.seq (.seq (.reg [⟨(some 116), none, (.mv (.t 17))⟩, ⟨(some 117), none, (.mv (.t 6))⟩, ⟨(some 118), none, (.call 24 [(.t 116), (.t 117)])⟩, ⟨(some 119), none, (.un .not (.t 118))⟩, ⟨(some 120), none, (.mv (.t 119))⟩, ⟨(some 121), (some (120, false)), (.mv (.t 18))⟩, ⟨(some 122), (some (120, false)), (.mv (.t 7))⟩, ⟨(some 123), (some (120, false)), (.bool2 true (.t 121) (.t 122))⟩, ⟨(some 124), none, (.pick (.t 120) (.c (.bool true)) (.t 123))⟩, ⟨(some 125), none, (.mv (.t 124))⟩, ⟨(some 126), (some (125, false)), (.mv (.t 19))⟩, ⟨(some 127), (some (125, false)), (.mv (.t 8))⟩, ⟨(some 128), (some (125, false)), (.bool2 true (.t 126) (.t 127))⟩, ⟨(some 129), none, (.pick (.t 125) (.c (.bool true)) (.t 128))⟩]) (.cond (.t 129) (.seq (.reg [⟨(some 4), none, (.mv (.c (.bool false)))⟩]) .ret) .skip)) (.seq (.reg [⟨(some 16), none, (.mv (.c (.int .i64 1)))⟩]) (.seq (.reg [⟨(some 130), none, (.mv (.t 11))⟩, ⟨(some 131), none, (.mv (.t 16))⟩, ⟨(some 132), none, (.call 33 [(.t 130), (.t 131)])⟩, ⟨(some 16), none, (.mv (.t 132))⟩]) (.seq (.seq (.reg [⟨(some 133), none, (.mv (.t 16))⟩, ⟨(some 134), none, (.bin .lss (.t 133) (.c (.int .i64 0)))⟩]) (.cond (.t 134) (.seq (.reg [⟨(some 4), none, (.mv (.c (.bool false)))⟩]) .ret) .skip)) (.seq (.seq (.reg [⟨(some 135), none, (.mv (.t 16))⟩, ⟨(some 136), none, (.mv (.t 15))⟩, ⟨(some 137), none, (.bin .neq (.t 135) (.t 136))⟩]) (.cond (.t 137) (.seq (.reg [⟨(some 4), none, (.mv (.c (.bool false)))⟩]) .ret) .skip)) (.seq (.reg [⟨(some 4), none, (.mv (.c (.bool true)))⟩]) .ret)))))))))))))))))))))))))))))
def ro11 : List AOp := [(.mv (.t 4))]
theorem fun11 : Fun Try.prog 11 138 ac11 ro11 := ⟨Try.f11, _, Try.func11, by kernel_rfl, rfl, rfl, by kernel_rfl, by kernel_rfl, by decide⟩
def ac31 : AC := (.seq (.reg [⟨(some 2), none, (.box 2 true (.t 0))⟩, ⟨(some 4), none, (.mv (.c (.int .i64 0)))⟩]) (.seq (.reg [⟨(some 5), none, (.fa 0 (.t 2))⟩, ⟨(some 6), none, (.ld false 1 (.t 5))⟩, ⟨(some 7), none, (.mv (.t 1))⟩, ⟨(some 8), none, (.call 59 [(.t 6), (.t 7)])⟩, ⟨(some 1), none, (.mv (.t 8))⟩]) (.seq (.reg [⟨(some 9), none, (.fa 1 (.t 2))⟩, ⟨(some 10), none, (.ld false 1 (.t 9))⟩, ⟨(some 11), none, (.mv (.t 1))⟩, ⟨(some 12), none, (.call 60 [(.t 10), (.t 11)])⟩, ⟨(some 1), none, (.mv (.t 12))⟩]) (.seq (.reg [⟨(some 13), none, (.mv (.t 1))⟩, ⟨(some 4), none, (.mv (.t 13))⟩]) .ret))))
def ro31 : List AOp := [(.mv (.t 4))]
theorem fun31 : Fun Try.prog 31 14 ac31 ro31 := ⟨Try.f31, _, Try.func31, by kernel_rfl, rfl, rfl, by kernel_rfl, by kernel_rfl, by decide⟩
def ac59 : AC := (.seq (.reg [⟨(some 4), none, (.mv (.c (.int .i64 0)))⟩]) (.seq (.seq (.reg [⟨(some 5), none, (.mv (.c (.int .i64 0)))⟩]) (.blk 0 (.loop (.seq (.seq (.reg [⟨(some 6), none, (.mv (.t 5))⟩, ⟨(some 7), none, (.mv (.t 0))⟩, ⟨(some 8), none, (.len (.t 7))⟩, ⟨(some 9), none, (.bin .lss (.t 6) (.t 8))⟩]) (.cond (.t 9) .skip (.exit 0))) (.seq (.blk 1 (.seq (.reg [⟨(some 12), none, (.mv (.t 0))⟩, ⟨(some 13), none, (.mv (.t 5))⟩, ⟨(some 14), none, (.mv (.t 1))⟩, ⟨(some 15), none, (.ia 2 (.t 12) (.t 13))⟩, ⟨(some 16), none, (.fa 0 (.t 15))⟩, ⟨none, none, (.st 1 (.t 16) (.t 14))⟩]) (.seq (.reg [⟨(some 17), none, (.mv (.t 1))⟩, ⟨(some 18), none, (.bin .add (.t 17) (.c (.int .i64 1)))⟩, ⟨(some 1), none, (.mv (.t 18))⟩]) (.seq (.reg [⟨(some 19), none, (.mv (.t 0))⟩, ⟨(some 20), none, (.mv (.t 5))⟩, ⟨(some 21), none, (.mv (.t 1))⟩, ⟨(some 22), none, (.ia 2 (.t 19) (.t 20))⟩, ⟨(some 23), none, (.fa 1 (.t 22))⟩, ⟨none, none, (.st 1 (.t 23) (.t 21))⟩]) (.reg [⟨(some 24), none, (.mv (.t 1))⟩, ⟨(some 25), none, (.bin .add (.t 24) (.c (.int .i64 1)))⟩, ⟨(some 1), none, (.mv (.t 25))⟩]))))) (.reg [⟨(some 10), none, (.mv (.t 5))⟩, ⟨(some 11), none, (.bin .add (.t 10) (.c (.int .i64 1)))⟩, ⟨(some 5), none, (.mv (.t 11))⟩])))))) (.seq (.reg [⟨(some 26), none, (.mv (.t 1))⟩, ⟨(some 4), none, (.mv (.t 26))⟩]) .ret)))
def ro59 : List AOp := [(.mv (.t 4))]
theorem fun59 : Fun Try.prog 59 27 ac59 ro59 := ⟨Try.f59, _, Try.func59, by kernel_rfl, rfl, rfl, by kernel_rfl, by kernel_rfl, by decide⟩
def ac60 : AC := (.seq (.reg [⟨(some 4), none, (.mv (.c (.int .i64 0)))⟩]) (.seq (.seq (.reg [⟨(some 5), none, (.mv (.c (.int .i64 0)))⟩]) (.blk 0 (.loop (.seq (.seq (.reg [⟨(some 6), none, (.mv (.t 5))⟩, ⟨(some 7), none, (.mv (.t 0))⟩, ⟨(some 8), none, (.len (.t 7))⟩, ⟨(some 9), none, (.bin .lss (.t 6) (.t 8))⟩]) (.cond (.t 9) .skip (.exit 0))) (.seq (.blk 1 (.seq (.reg [⟨(some 12), none, (.mv (.t 0))⟩, ⟨(some 13), none, (.mv (.t 5))⟩, ⟨(some 14), none, (.mv (.t 1))⟩, ⟨(some 15), none, (.ia 2 (.t 12) (.t 13))⟩, ⟨(some 16), none, (.fa 0 (.t 15))⟩, ⟨none, none, (.st 1 (.t 16) (.t 14))⟩]) (.seq (.reg [⟨(some 17), none, (.mv (.t 1))⟩, ⟨(some 18), none, (.bin .add (.t 17) (.c (.int .i64 1)))⟩, ⟨(some 1), none, (.mv (.t 18))⟩]) (.seq (.reg [⟨(some 19), none, (.mv (.t 0))⟩, ⟨(some 20), none, (.mv (.t 5))⟩, ⟨(some 21), none, (.mv (.t 1))⟩, ⟨(some 22), none, (.ia 2 (.t 19) (.t 20))⟩, ⟨(some 23), none, (.fa 1 (.t 22))⟩, ⟨none, none, (.st 1 (.t 23) (.t 21))⟩]) (.reg [⟨(some 24), none, (.mv (.t 1))⟩, ⟨(some 25), none, (.bin .add (.t 24) (.c (.int .i64 1)))⟩, ⟨(some 1), none, (.mv (.t 25))⟩]))))) (.reg [⟨(some 10), none, (.mv (.t 5))⟩, ⟨(some 11), none, (.bin .add (.t 10) (.c (.int .i64 1)))⟩, ⟨(some 5), none, (.mv (.t 11))⟩])))))) (.seq (.reg [⟨(some 26), none, (.mv (.t 1))⟩, ⟨(some 4), none, (.mv (.t 26))⟩]) .ret)))
def ro60 : List AOp := [(.mv (.t 4))]
theorem fun60 : Fun Try.prog 60 27 ac60 ro60 := ⟨Try.f60, _, Try.func60, by kernel_rfl, rfl, rfl, by kernel_rfl, by kernel_rfl, by decide⟩

def mkCn (k : Int) (n : Nat) : List Cn := (List.range n).map fun i : Nat => ⟨k + 2 * (i : Int), k + 2 * (i : Int) + 1⟩
theorem mkCn_len (k : Int) (n : Nat) : (mkCn k n).length = n := by simp [mkCn]
theorem mkCn_get (k : Int) (n i : Nat) (h : i < n) : (mkCn k n).getD i default = ⟨k + 2 * (i : Int), k + 2 * (i : Int) + 1⟩ := by
  simp [mkCn, List.getD_eq_getElem?_getD, List.getElem?_eq_getElem, h]
def mdCn (xs : List Cn) (k : Int) (i : Nat) : List Cn := mkCn k i ++ xs.drop i
theorem mdCn_len (xs : List Cn) (k : Int) (i : Nat) (h : i ≤ xs.length) : (mdCn xs k i).length = xs.length := by simp [mdCn, mkCn_len]; omega
theorem mdCn_end (xs : List Cn) (k : Int) : mdCn xs k xs.length = mkCn k xs.length := by simp [mdCn]
theorem mdCn_set (xs : List Cn) (k : Int) (i : Nat) (h : i < xs.length) : (mdCn xs k i).set i ⟨k + 2 * (i : Int), k + 2 * (i : Int) + 1⟩ = mdCn xs k (i + 1) := by
  unfold mdCn
  rw [List.set_append_right _ _ (by rw [mkCn_len]; omega), mkCn_len, Nat.sub_self, List.drop_eq_getElem_cons h, List.set_cons_zero]
  have : mkCn k (i + 1) = mkCn k i ++ [⟨k + 2 * (i : Int), k + 2 * (i : Int) + 1⟩] := by simp [mkCn, List.range_succ]
  rw [this, List.append_assoc]
  rfl
theorem sh59 (xs : List Cn) (k : Int) (hn : xs.length ≤ 4294967296) (h0 : 0 ≤ k) (h1 : k ≤ 4294967296000) {h : List (Nat × Option Ab.Rows)} {nr r : Nat} (hr : hg h r = some (xs.map cRow)) (hw : wfH h nr) :
    Sh Try.prog 59 [.sl r 2 0 xs.length, .int .i64 k] h nr (.int .i64 (k + 2 * xs.length)) ((r, some ((mkCn k xs.length).map cRow)) :: h) nr := by
  have ltrCn : ∀ (ws : List Cn) (m : Nat), ∀ row ∈ ws.map cRow, ∀ x ∈ row, AV.ltr m x = true := fun ws m => rows_ltr _ m fun row hr x hx => by
    obtain ⟨p, _, rfl⟩ := List.mem_map.1 hr
    exact cRow_plain p x hx
  refine sh_of_wp mixed fun59 (by simp) ?_
  unfold ac59 ro59
  simp only [zipT]
  have hrn := (hw r _ hr).1
  repeat (first
    | refine wC_a rfl ?_
    | refine q_s rfl ?_
    | refine q_b rfl ?_
    | refine wG_nil ?_
    | refine wG_g rfl ?_
    | refine wG_pure (o_len_vwm rfl) ?_
    | refine wG_pure (o_not_d rfl) ?_
    | refine wG_p rfl (by first | exact rfl | omega) ?_
    | refine wG_pure (o_str2 rfl rfl rfl) ?_
    | refine wG_pure (e_istr rfl rfl (by omega)) ?_
    | refine wG_pure (e_istr0 rfl rfl (by omega)) ?_
    | refine wG_pure (o_not rfl) ?_
    | refine wG_pure (e_ia_vw0 rfl rfl (by omega) rfl) ?_
    | refine wG_pure (e_ia_vwp rfl rfl (by omega) rfl) ?_
    | refine wG_pure (e_ia_vwm rfl rfl (by omega) (by omega) rfl) ?_
    | refine wG_pure (e_ia_vwi rfl rfl (by omega) rfl) ?_
    | refine wG_pure (e_ia_vwn rfl rfl (by omega) (by omega) rfl) ?_
    | refine wG_n rfl rfl ?_
    | refine wG_u rfl rfl ?_
    | refine wG_new (o_mks rfl rfl (by omega) (by decide)) ?_)
  refine wC_loopS Nat (fun i => ⟨[(0, .sl r 2 0 xs.length), (1, .int .i64 (k + 2 * i)), (5, .int .i64 (i : Int))], (r, some ((mdCn xs k i).map cRow)) :: h, nr⟩) (fun i => i ≤ xs.length) (fun i => xs.length - i) 0 (Nat.zero_le _) ?_ (fun _ _ => Nat.le_refl _) ?_
  · refine Le_of (by simp [leT, lk, AV.ltr, hrn]) (fun q rows hq => ?_) (wfH_cons hrn (ltrCn _ _) hw)
    simp only [Ab.hg, upd] at hq ⊢
    split at hq
    · rename_i e; subst e; cases hq; simpa [mdCn, mkCn, Ab.hg] using hr
    · exact hq
  intro i hi
  have hml := mdCn_len xs k i hi
  repeat (first
    | refine wC_a rfl ?_
    | refine q_s rfl ?_
    | refine q_b rfl ?_
    | refine wG_nil ?_
    | refine wG_g rfl ?_
    | refine wG_pure (o_len_vwm rfl) ?_
    | refine wG_pure (o_not_d rfl) ?_
    | refine wG_p rfl (by first | exact rfl | omega) ?_
    | refine wG_pure (o_str2 rfl rfl rfl) ?_
    | refine wG_pure (e_istr rfl rfl (by omega)) ?_
    | refine wG_pure (e_istr0 rfl rfl (by omega)) ?_
    | refine wG_pure (o_not rfl) ?_
    | refine wG_pure (e_ia_vw0 rfl rfl (by omega) rfl) ?_
    | refine wG_pure (e_ia_vwp rfl rfl (by omega) rfl) ?_
    | refine wG_pure (e_ia_vwm rfl rfl (by omega) (by omega) rfl) ?_
    | refine wG_pure (e_ia_vwi rfl rfl (by omega) rfl) ?_
    | refine wG_pure (e_ia_vwn rfl rfl (by omega) (by omega) rfl) ?_
    | refine wG_n rfl rfl ?_
    | refine wG_u rfl rfl ?_
    | refine wG_new (o_mks rfl rfl (by omega) (by decide)) ?_)
  refine wC_cond_d rfl (fun h2 => ?_) (fun h2 => ?_)
  · have hi2 : i < xs.length := by omega
    have e0 : 0 + ((i : Int)).toNat = i := by simp
    have hge : ((mdCn xs k i).map cRow)[i]? = some (cRow ((mdCn xs k i).getD i default)) := by
      simp [List.getElem?_map, List.getElem?_eq_getElem (show i < (mdCn xs k i).length by omega), List.getD_eq_getElem?_getD]
    have hgs : ∀ (rw : List AV) (rows : List (List AV)), rows.length = xs.length → (rows.set i rw)[i]? = some rw := by
      intro rw rows hl
      rw [List.getElem?_set_self (by omega)]
    repeat (first
    | refine wC_a rfl ?_
    | refine q_s rfl ?_
    | refine q_b rfl ?_
    | refine wG_nil ?_
    | refine wG_g rfl ?_
    | refine wG_pure (o_len_vwm rfl) ?_
    | refine wG_pure (o_not_d rfl) ?_
    | refine wG_p rfl (by first | exact rfl | omega) ?_
    | refine wG_pure (o_str2 rfl rfl rfl) ?_
    | refine wG_pure (e_istr rfl rfl (by omega)) ?_
    | refine wG_pure (e_istr0 rfl rfl (by omega)) ?_
    | refine wG_pure (o_not rfl) ?_
    | refine wG_pure (e_ia_vw0 rfl rfl (by omega) rfl) ?_
    | refine wG_pure (e_ia_vwp rfl rfl (by omega) rfl) ?_
    | refine wG_pure (e_ia_vwm rfl rfl (by omega) (by omega) rfl) ?_
    | refine wG_pure (e_ia_vwi rfl rfl (by omega) rfl) ?_
    | refine wG_pure (e_ia_vwn rfl rfl (by omega) (by omega) rfl) ?_
    | refine wG_n rfl rfl ?_
    | refine wG_u rfl rfl ?_
    | refine wG_new (o_mks rfl rfl (by omega) (by decide)) ?_)
    refine wG_pure (e_ia_sl rfl rfl (by omega) (by omega)) ?_
    simp only [e0]
    repeat (first
    | refine wC_a rfl ?_
    | refine q_s rfl ?_
    | refine q_b rfl ?_
    | refine wG_nil ?_
    | refine wG_g rfl ?_
    | refine wG_pure (o_len_vwm rfl) ?_
    | refine wG_pure (o_not_d rfl) ?_
    | refine wG_p rfl (by first | exact rfl | omega) ?_
    | refine wG_pure (o_str2 rfl rfl rfl) ?_
    | refine wG_pure (e_istr rfl rfl (by omega)) ?_
    | refine wG_pure (e_istr0 rfl rfl (by omega)) ?_
    | refine wG_pure (o_not rfl) ?_
    | refine wG_pure (e_ia_vw0 rfl rfl (by omega) rfl) ?_
    | refine wG_pure (e_ia_vwp rfl rfl (by omega) rfl) ?_
    | refine wG_pure (e_ia_vwm rfl rfl (by omega) (by omega) rfl) ?_
    | refine wG_pure (e_ia_vwi rfl rfl (by omega) rfl) ?_
    | refine wG_pure (e_ia_vwn rfl rfl (by omega) (by omega) rfl) ?_
    | refine wG_n rfl rfl ?_
    | refine wG_u rfl rfl ?_
    | refine wG_new (o_mks rfl rfl (by omega) (by decide)) ?_)
    refine wG_upd (o_st_int rfl hg_here hge rfl rfl rfl) ?_
    repeat (first
    | refine wC_a rfl ?_
    | refine q_s rfl ?_
    | refine q_b rfl ?_
    | refine wG_nil ?_
    | refine wG_g rfl ?_
    | refine wG_pure (o_len_vwm rfl) ?_
    | refine wG_pure (o_not_d rfl) ?_
    | refine wG_p rfl (by first | exact rfl | omega) ?_
    | refine wG_pure (o_str2 rfl rfl rfl) ?_
    | refine wG_pure (e_istr rfl rfl (by omega)) ?_
    | refine wG_pure (e_istr0 rfl rfl (by omega)) ?_
    | refine wG_pure (o_not rfl) ?_
    | refine wG_pure (e_ia_vw0 rfl rfl (by omega) rfl) ?_
    | refine wG_pure (e_ia_vwp rfl rfl (by omega) rfl) ?_
    | refine wG_pure (e_ia_vwm rfl rfl (by omega) (by omega) rfl) ?_
    | refine wG_pure (e_ia_vwi rfl rfl (by omega) rfl) ?_
    | refine wG_pure (e_ia_vwn rfl rfl (by omega) (by omega) rfl) ?_
    | refine wG_n rfl rfl ?_
    | refine wG_u rfl rfl ?_
    | refine wG_new (o_mks rfl rfl (by omega) (by decide)) ?_)
    refine wG_pure (e_ia_sl rfl rfl (by omega) (by omega)) ?_
    simp only [e0]
    repeat (first
    | refine wC_a rfl ?_
    | refine q_s rfl ?_
    | refine q_b rfl ?_
    | refine wG_nil ?_
    | refine wG_g rfl ?_
    | refine wG_pure (o_len_vwm rfl) ?_
    | refine wG_pure (o_not_d rfl) ?_
    | refine wG_p rfl (by first | exact rfl | omega) ?_
    | refine wG_pure (o_str2 rfl rfl rfl) ?_
    | refine wG_pure (e_istr rfl rfl (by omega)) ?_
    | refine wG_pure (e_istr0 rfl rfl (by omega)) ?_
    | refine wG_pure (o_not rfl) ?_
    | refine wG_pure (e_ia_vw0 rfl rfl (by omega) rfl) ?_
    | refine wG_pure (e_ia_vwp rfl rfl (by omega) rfl) ?_
    | refine wG_pure (e_ia_vwm rfl rfl (by omega) (by omega) rfl) ?_
    | refine wG_pure (e_ia_vwi rfl rfl (by omega) rfl) ?_
    | refine wG_pure (e_ia_vwn rfl rfl (by omega) (by omega) rfl) ?_
    | refine wG_n rfl rfl ?_
    | refine wG_u rfl rfl ?_
    | refine wG_new (o_mks rfl rfl (by omega) (by decide)) ?_)
    refine wG_upd (o_st_int rfl hg_here (hgs _ _ (by rw [List.length_map, hml])) rfl rfl rfl) ?_
    repeat (first
    | refine wC_a rfl ?_
    | refine q_s rfl ?_
    | refine q_b rfl ?_
    | refine wG_nil ?_
    | refine wG_g rfl ?_
    | refine wG_pure (o_len_vwm rfl) ?_
    | refine wG_pure (o_not_d rfl) ?_
    | refine wG_p rfl (by first | exact rfl | omega) ?_
    | refine wG_pure (o_str2 rfl rfl rfl) ?_
    | refine wG_pure (e_istr rfl rfl (by omega)) ?_
    | refine wG_pure (e_istr0 rfl rfl (by omega)) ?_
    | refine wG_pure (o_not rfl) ?_
    | refine wG_pure (e_ia_vw0 rfl rfl (by omega) rfl) ?_
    | refine wG_pure (e_ia_vwp rfl rfl (by omega) rfl) ?_
    | refine wG_pure (e_ia_vwm rfl rfl (by omega) (by omega) rfl) ?_
    | refine wG_pure (e_ia_vwi rfl rfl (by omega) rfl) ?_
    | refine wG_pure (e_ia_vwn rfl rfl (by omega) (by omega) rfl) ?_
    | refine wG_n rfl rfl ?_
    | refine wG_u rfl rfl ?_
    | refine wG_new (o_mks rfl rfl (by omega) (by decide)) ?_)
    refine ⟨i + 1, by omega, by omega, Le_of (by simp [leT, lk, AV.ltr, hrn]; omega) (fun q rows hq => ?_) (wfH_cons hrn (ltrCn _ _) hw)⟩
    simp only [Ab.hg, upd] at hq ⊢
    split at hq
    · rename_i e
      subst e
      rw [if_pos rfl, ← hq, List.set_set, ← mdCn_set xs k i hi2, List.map_set]
      rfl
    · rename_i e; simp only [if_neg e]; exact hq
  · have hi3 : i = xs.length := by omega
    subst hi3
    repeat (first
    | refine wC_a rfl ?_
    | refine q_s rfl ?_
    | refine q_b rfl ?_
    | refine wG_nil ?_
    | refine wG_g rfl ?_
    | refine wG_pure (o_len_vwm rfl) ?_
    | refine wG_pure (o_not_d rfl) ?_
    | refine wG_p rfl (by first | exact rfl | omega) ?_
    | refine wG_pure (o_str2 rfl rfl rfl) ?_
    | refine wG_pure (e_istr rfl rfl (by omega)) ?_
    | refine wG_pure (e_istr0 rfl rfl (by omega)) ?_
    | refine wG_pure (o_not rfl) ?_
    | refine wG_pure (e_ia_vw0 rfl rfl (by omega) rfl) ?_
    | refine wG_pure (e_ia_vwp rfl rfl (by omega) rfl) ?_
    | refine wG_pure (e_ia_vwm rfl rfl (by omega) (by omega) rfl) ?_
    | refine wG_pure (e_ia_vwi rfl rfl (by omega) rfl) ?_
    | refine wG_pure (e_ia_vwn rfl rfl (by omega) (by omega) rfl) ?_
    | refine wG_n rfl rfl ?_
    | refine wG_u rfl rfl ?_
    | refine wG_new (o_mks rfl rfl (by omega) (by decide)) ?_)
    refine ⟨trivial, _, retVs_1 (retV_mv rfl), ?_, Nat.le_refl _⟩
    rw [mdCn_end]
    exact Le_of ⟨⟨rfl, rfl⟩, trivial⟩ (fun _ _ h => h) (wfH_cons hrn (ltrCn _ _) hw)
def mkRl (k : Int) (n : Nat) : List Rl := (List.range n).map fun i : Nat => ⟨k + 2 * (i : Int), k + 2 * (i : Int) + 1⟩
theorem mkRl_len (k : Int) (n : Nat) : (mkRl k n).length = n := by simp [mkRl]
theorem mkRl_get (k : Int) (n i : Nat) (h : i < n) : (mkRl k n).getD i default = ⟨k + 2 * (i : Int), k + 2 * (i : Int) + 1⟩ := by
  simp [mkRl, List.getD_eq_getElem?_getD, List.getElem?_eq_getElem, h]
def mdRl (xs : List Rl) (k : Int) (i : Nat) : List Rl := mkRl k i ++ xs.drop i
theorem mdRl_len (xs : List Rl) (k : Int) (i : Nat) (h : i ≤ xs.length) : (mdRl xs k i).length = xs.length := by simp [mdRl, mkRl_len]; omega
theorem mdRl_end (xs : List Rl) (k : Int) : mdRl xs k xs.length = mkRl k xs.length := by simp [mdRl]
theorem mdRl_set (xs : List Rl) (k : Int) (i : Nat) (h : i < xs.length) : (mdRl xs k i).set i ⟨k + 2 * (i : Int), k + 2 * (i : Int) + 1⟩ = mdRl xs k (i + 1) := by
  unfold mdRl
  rw [List.set_append_right _ _ (by rw [mkRl_len]; omega), mkRl_len, Nat.sub_self, List.drop_eq_getElem_cons h, List.set_cons_zero]
  have : mkRl k (i + 1) = mkRl k i ++ [⟨k + 2 * (i : Int), k + 2 * (i : Int) + 1⟩] := by simp [mkRl, List.range_succ]
  rw [this, List.append_assoc]
  rfl
theorem sh60 (xs : List Rl) (k : Int) (hn : xs.length ≤ 4294967296) (h0 : 0 ≤ k) (h1 : k ≤ 4294967296000) {h : List (Nat × Option Ab.Rows)} {nr r : Nat} (hr : hg h r = some (xs.map xRow)) (hw : wfH h nr) :
    Sh Try.prog 60 [.sl r 2 0 xs.length, .int .i64 k] h nr (.int .i64 (k + 2 * xs.length)) ((r, some ((mkRl k xs.length).map xRow)) :: h) nr := by
  have ltrRl : ∀ (ws : List Rl) (m : Nat), ∀ row ∈ ws.map xRow, ∀ x ∈ row, AV.ltr m x = true := fun ws m => rows_ltr _ m fun row hr x hx => by
    obtain ⟨p, _, rfl⟩ := List.mem_map.1 hr
    exact xRow_plain p x hx
  refine sh_of_wp mixed fun60 (by simp) ?_
  unfold ac60 ro60
  simp only [zipT]
  have hrn := (hw r _ hr).1
  repeat (first
    | refine wC_a rfl ?_
    | refine q_s rfl ?_
    | refine q_b rfl ?_
    | refine wG_nil ?_
    | refine wG_g rfl ?_
    | refine wG_pure (o_len_vwm rfl) ?_
    | refine wG_pure (o_not_d rfl) ?_
    | refine wG_p rfl (by first | exact rfl | omega) ?_
    | refine wG_pure (o_str2 rfl rfl rfl) ?_
    | refine wG_pure (e_istr rfl rfl (by omega)) ?_
    | refine wG_pure (e_istr0 rfl rfl (by omega)) ?_
    | refine wG_pure (o_not rfl) ?_
    | refine wG_pure (e_ia_vw0 rfl rfl (by omega) rfl) ?_
    | refine wG_pure (e_ia_vwp rfl rfl (by omega) rfl) ?_
    | refine wG_pure (e_ia_vwm rfl rfl (by omega) (by omega) rfl) ?_
    | refine wG_pure (e_ia_vwi rfl rfl (by omega) rfl) ?_
    | refine wG_pure (e_ia_vwn rfl rfl (by omega) (by omega) rfl) ?_
    | refine wG_n rfl rfl ?_
    | refine wG_u rfl rfl ?_
    | refine wG_new (o_mks rfl rfl (by omega) (by decide)) ?_)
  refine wC_loopS Nat (fun i => ⟨[(0, .sl r 2 0 xs.length), (1, .int .i64 (k + 2 * i)), (5, .int .i64 (i : Int))], (r, some ((mdRl xs k i).map xRow)) :: h, nr⟩) (fun i => i ≤ xs.length) (fun i => xs.length - i) 0 (Nat.zero_le _) ?_ (fun _ _ => Nat.le_refl _) ?_
  · refine Le_of (by simp [leT, lk, AV.ltr, hrn]) (fun q rows hq => ?_) (wfH_cons hrn (ltrRl _ _) hw)
    simp only [Ab.hg, upd] at hq ⊢
    split at hq
    · rename_i e; subst e; cases hq; simpa [mdRl, mkRl, Ab.hg] using hr
    · exact hq
  intro i hi
  have hml := mdRl_len xs k i hi
  repeat (first
    | refine wC_a rfl ?_
    | refine q_s rfl ?_
    | refine q_b rfl ?_
    | refine wG_nil ?_
    | refine wG_g rfl ?_
    | refine wG_pure (o_len_vwm rfl) ?_
    | refine wG_pure (o_not_d rfl) ?_
    | refine wG_p rfl (by first | exact rfl | omega) ?_
    | refine wG_pure (o_str2 rfl rfl rfl) ?_
    | refine wG_pure (e_istr rfl rfl (by omega)) ?_
    | refine wG_pure (e_istr0 rfl rfl (by omega)) ?_
    | refine wG_pure (o_not rfl) ?_
    | refine wG_pure (e_ia_vw0 rfl rfl (by omega) rfl) ?_
    | refine wG_pure (e_ia_vwp rfl rfl (by omega) rfl) ?_
    | refine wG_pure (e_ia_vwm rfl rfl (by omega) (by omega) rfl) ?_
    | refine wG_pure (e_ia_vwi rfl rfl (by omega) rfl) ?_
    | refine wG_pure (e_ia_vwn rfl rfl (by omega) (by omega) rfl) ?_
    | refine wG_n rfl rfl ?_
    | refine wG_u rfl rfl ?_
    | refine wG_new (o_mks rfl rfl (by omega) (by decide)) ?_)
  refine wC_cond_d rfl (fun h2 => ?_) (fun h2 => ?_)
  · have hi2 : i < xs.length := by omega
    have e0 : 0 + ((i : Int)).toNat = i := by simp
    have hge : ((mdRl xs k i).map xRow)[i]? = some (xRow ((mdRl xs k i).getD i default)) := by
      simp [List.getElem?_map, List.getElem?_eq_getElem (show i < (mdRl xs k i).length by omega), List.getD_eq_getElem?_getD]
    have hgs : ∀ (rw : List AV) (rows : List (List AV)), rows.length = xs.length → (rows.set i rw)[i]? = some rw := by
      intro rw rows hl
      rw [List.getElem?_set_self (by omega)]
    repeat (first
    | refine wC_a rfl ?_
    | refine q_s rfl ?_
    | refine q_b rfl ?_
    | refine wG_nil ?_
    | refine wG_g rfl ?_
    | refine wG_pure (o_len_vwm rfl) ?_
    | refine wG_pure (o_not_d rfl) ?_
    | refine wG_p rfl (by first | exact rfl | omega) ?_
    | refine wG_pure (o_str2 rfl rfl rfl) ?_
    | refine wG_pure (e_istr rfl rfl (by omega)) ?_
    | refine wG_pure (e_istr0 rfl rfl (by omega)) ?_
    | refine wG_pure (o_not rfl) ?_
    | refine wG_pure (e_ia_vw0 rfl rfl (by omega) rfl) ?_
    | refine wG_pure (e_ia_vwp rfl rfl (by omega) rfl) ?_
    | refine wG_pure (e_ia_vwm rfl rfl (by omega) (by omega) rfl) ?_
    | refine wG_pure (e_ia_vwi rfl rfl (by omega) rfl) ?_
    | refine wG_pure (e_ia_vwn rfl rfl (by omega) (by omega) rfl) ?_
    | refine wG_n rfl rfl ?_
    | refine wG_u rfl rfl ?_
    | refine wG_new (o_mks rfl rfl (by omega) (by decide)) ?_)
    refine wG_pure (e_ia_sl rfl rfl (by omega) (by omega)) ?_
    simp only [e0]
    repeat (first
    | refine wC_a rfl ?_
    | refine q_s rfl ?_
    | refine q_b rfl ?_
    | refine wG_nil ?_
    | refine wG_g rfl ?_
    | refine wG_pure (o_len_vwm rfl) ?_
    | refine wG_pure (o_not_d rfl) ?_
    | refine wG_p rfl (by first | exact rfl | omega) ?_
    | refine wG_pure (o_str2 rfl rfl rfl) ?_
    | refine wG_pure (e_istr rfl rfl (by omega)) ?_
    | refine wG_pure (e_istr0 rfl rfl (by omega)) ?_
    | refine wG_pure (o_not rfl) ?_
    | refine wG_pure (e_ia_vw0 rfl rfl (by omega) rfl) ?_
    | refine wG_pure (e_ia_vwp rfl rfl (by omega) rfl) ?_
    | refine wG_pure (e_ia_vwm rfl rfl (by omega) (by omega) rfl) ?_
    | refine wG_pure (e_ia_vwi rfl rfl (by omega) rfl) ?_
    | refine wG_pure (e_ia_vwn rfl rfl (by omega) (by omega) rfl) ?_
    | refine wG_n rfl rfl ?_
    | refine wG_u rfl rfl ?_
    | refine wG_new (o_mks rfl rfl (by omega) (by decide)) ?_)
    refine wG_upd (o_st_int rfl hg_here hge rfl rfl rfl) ?_
    repeat (first
    | refine wC_a rfl ?_
    | refine q_s rfl ?_
    | refine q_b rfl ?_
    | refine wG_nil ?_
    | refine wG_g rfl ?_
    | refine wG_pure (o_len_vwm rfl) ?_
    | refine wG_pure (o_not_d rfl) ?_
    | refine wG_p rfl (by first | exact rfl | omega) ?_
    | refine wG_pure (o_str2 rfl rfl rfl) ?_
    | refine wG_pure (e_istr rfl rfl (by omega)) ?_
    | refine wG_pure (e_istr0 rfl rfl (by omega)) ?_
    | refine wG_pure (o_not rfl) ?_
    | refine wG_pure (e_ia_vw0 rfl rfl (by omega) rfl) ?_
    | refine wG_pure (e_ia_vwp rfl rfl (by omega) rfl) ?_
    | refine wG_pure (e_ia_vwm rfl rfl (by omega) (by omega) rfl) ?_
    | refine wG_pure (e_ia_vwi rfl rfl (by omega) rfl) ?_
    | refine wG_pure (e_ia_vwn rfl rfl (by omega) (by omega) rfl) ?_
    | refine wG_n rfl rfl ?_
    | refine wG_u rfl rfl ?_
    | refine wG_new (o_mks rfl rfl (by omega) (by decide)) ?_)
    refine wG_pure (e_ia_sl rfl rfl (by omega) (by omega)) ?_
    simp only [e0]
    repeat (first
    | refine wC_a rfl ?_
    | refine q_s rfl ?_
    | refine q_b rfl ?_
    | refine wG_nil ?_
    | refine wG_g rfl ?_
    | refine wG_pure (o_len_vwm rfl) ?_
    | refine wG_pure (o_not_d rfl) ?_
    | refine wG_p rfl (by first | exact rfl | omega) ?_
    | refine wG_pure (o_str2 rfl rfl rfl) ?_
    | refine wG_pure (e_istr rfl rfl (by omega)) ?_
    | refine wG_pure (e_istr0 rfl rfl (by omega)) ?_
    | refine wG_pure (o_not rfl) ?_
    | refine wG_pure (e_ia_vw0 rfl rfl (by omega) rfl) ?_
    | refine wG_pure (e_ia_vwp rfl rfl (by omega) rfl) ?_
    | refine wG_pure (e_ia_vwm rfl rfl (by omega) (by omega) rfl) ?_
    | refine wG_pure (e_ia_vwi rfl rfl (by omega) rfl) ?_
    | refine wG_pure (e_ia_vwn rfl rfl (by omega) (by omega) rfl) ?_
    | refine wG_n rfl rfl ?_
    | refine wG_u rfl rfl ?_
    | refine wG_new (o_mks rfl rfl (by omega) (by decide)) ?_)
    refine wG_upd (o_st_int rfl hg_here (hgs _ _ (by rw [List.length_map, hml])) rfl rfl rfl) ?_
    repeat (first
    | refine wC_a rfl ?_
    | refine q_s rfl ?_
    | refine q_b rfl ?_
    | refine wG_nil ?_
    | refine wG_g rfl ?_
    | refine wG_pure (o_len_vwm rfl) ?_
    | refine wG_pure (o_not_d rfl) ?_
    | refine wG_p rfl (by first | exact rfl | omega) ?_
    | refine wG_pure (o_str2 rfl rfl rfl) ?_
    | refine wG_pure (e_istr rfl rfl (by omega)) ?_
    | refine wG_pure (e_istr0 rfl rfl (by omega)) ?_
    | refine wG_pure (o_not rfl) ?_
    | refine wG_pure (e_ia_vw0 rfl rfl (by omega) rfl) ?_
    | refine wG_pure (e_ia_vwp rfl rfl (by omega) rfl) ?_
    | refine wG_pure (e_ia_vwm rfl rfl (by omega) (by omega) rfl) ?_
    | refine wG_pure (e_ia_vwi rfl rfl (by omega) rfl) ?_
    | refine wG_pure (e_ia_vwn rfl rfl (by omega) (by omega) rfl) ?_
    | refine wG_n rfl rfl ?_
    | refine wG_u rfl rfl ?_
    | refine wG_new (o_mks rfl rfl (by omega) (by decide)) ?_)
    refine ⟨i + 1, by omega, by omega, Le_of (by simp [leT, lk, AV.ltr, hrn]; omega) (fun q rows hq => ?_) (wfH_cons hrn (ltrRl _ _) hw)⟩
    simp only [Ab.hg, upd] at hq ⊢
    split at hq
    · rename_i e
      subst e
      rw [if_pos rfl, ← hq, List.set_set, ← mdRl_set xs k i hi2, List.map_set]
      rfl
    · rename_i e; simp only [if_neg e]; exact hq
  · have hi3 : i = xs.length := by omega
    subst hi3
    repeat (first
    | refine wC_a rfl ?_
    | refine q_s rfl ?_
    | refine q_b rfl ?_
    | refine wG_nil ?_
    | refine wG_g rfl ?_
    | refine wG_pure (o_len_vwm rfl) ?_
    | refine wG_pure (o_not_d rfl) ?_
    | refine wG_p rfl (by first | exact rfl | omega) ?_
    | refine wG_pure (o_str2 rfl rfl rfl) ?_
    | refine wG_pure (e_istr rfl rfl (by omega)) ?_
    | refine wG_pure (e_istr0 rfl rfl (by omega)) ?_
    | refine wG_pure (o_not rfl) ?_
    | refine wG_pure (e_ia_vw0 rfl rfl (by omega) rfl) ?_
    | refine wG_pure (e_ia_vwp rfl rfl (by omega) rfl) ?_
    | refine wG_pure (e_ia_vwm rfl rfl (by omega) (by omega) rfl) ?_
    | refine wG_pure (e_ia_vwi rfl rfl (by omega) rfl) ?_
    | refine wG_pure (e_ia_vwn rfl rfl (by omega) (by omega) rfl) ?_
    | refine wG_n rfl rfl ?_
    | refine wG_u rfl rfl ?_
    | refine wG_new (o_mks rfl rfl (by omega) (by decide)) ?_)
    refine ⟨trivial, _, retVs_1 (retV_mv rfl), ?_, Nat.le_refl _⟩
    rw [mdRl_end]
    exact Le_of ⟨⟨rfl, rfl⟩, trivial⟩ (fun _ _ h => h) (wfH_cons hrn (ltrRl _ _) hw)
theorem sh31 (r : Rc) (k : Int) (h1 : r.cs.length ≤ 1048576) (h2 : r.xs.length ≤ 1048576) (h0 : 0 ≤ k) (h3 : k ≤ 1048576) {h : List (Nat × Option Ab.Rows)} {nr q1 q2 : Nat} (hr1 : hg h q1 = some (r.cs.map cRow)) (hr2 : hg h q2 = some (r.xs.map xRow)) (hne : q2 ≠ q1) (hw : wfH h nr) :
    Sh Try.prog 31 [.agg [.sl q1 2 0 r.cs.length, .sl q2 2 0 r.xs.length], .int .i64 k] h nr (.int .i64 (k + 2 * r.cs.length + 2 * r.xs.length))
      ((q2, some ((mkRl (k + 2 * r.cs.length) r.xs.length).map xRow)) :: (q1, some ((mkCn k r.cs.length).map cRow)) :: (nr, some [[.sl q1 2 0 r.cs.length, .sl q2 2 0 r.xs.length]]) :: h) (nr + 1) := by
  refine sh_of_wp mixed fun31 (by simp) ?_
  unfold ac31 ro31
  simp only [zipT]
  have b1 := (hw q1 _ hr1).1
  have b2 := (hw q2 _ hr2).1
  have hw1 : wfH ((nr, some [[.sl q1 2 0 r.cs.length, .sl q2 2 0 r.xs.length]]) :: h) (nr + 1) := wfH_cons (by omega) (by simp [AV.ltr]; omega) (wfH_le hw (by omega))
  have hw2 : wfH ((q1, some ((mkCn k r.cs.length).map cRow)) :: (nr, some [[.sl q1 2 0 r.cs.length, .sl q2 2 0 r.xs.length]]) :: h) (nr + 1) := wfH_cons (by omega) (ltrK _ _) hw1
  have hw3 : wfH ((q2, some ((mkRl (k + 2 * r.cs.length) r.xs.length).map xRow)) :: (q1, some ((mkCn k r.cs.length).map cRow)) :: (nr, some [[.sl q1 2 0 r.cs.length, .sl q2 2 0 r.xs.length]]) :: h) (nr + 1) := wfH_cons (by omega) (ltrX _ _) hw2
  have s1 := sh59 r.cs k (by omega) h0 (by omega) (r := q1) (hg_skip (by omega) hr1) hw1
  have s2 := sh60 r.xs (k + 2 * r.cs.length) (by omega) (by omega) (by omega) (r := q2) (hg_skip hne (hg_skip (by omega) hr2)) hw2
  repeat (first | refine wG_callS s1 rfl ?_ | refine wG_callS s2 rfl ?_ | (first
    | refine wC_a rfl ?_
    | refine q_s rfl ?_
    | refine q_b rfl ?_
    | refine wG_nil ?_
    | refine wG_g rfl ?_
    | refine wG_pure (o_len_vwm rfl) ?_
    | refine wG_pure (o_not_d rfl) ?_
    | refine wG_p rfl (by first | exact rfl | omega) ?_
    | refine wG_pure (o_str2 rfl rfl rfl) ?_
    | refine wG_pure (e_istr rfl rfl (by omega)) ?_
    | refine wG_pure (e_istr0 rfl rfl (by omega)) ?_
    | refine wG_pure (o_not rfl) ?_
    | refine wG_pure (e_ia_vw0 rfl rfl (by omega) rfl) ?_
    | refine wG_pure (e_ia_vwp rfl rfl (by omega) rfl) ?_
    | refine wG_pure (e_ia_vwm rfl rfl (by omega) (by omega) rfl) ?_
    | refine wG_pure (e_ia_vwi rfl rfl (by omega) rfl) ?_
    | refine wG_pure (e_ia_vwn rfl rfl (by omega) (by omega) rfl) ?_
    | refine wG_n rfl rfl ?_
    | refine wG_u rfl rfl ?_
    | refine wG_new (o_mks rfl rfl (by omega) (by decide)) ?_))
  refine wG_pure (o_ldf_pt rfl hg_here rfl rfl) ?_
  repeat (first | refine wG_callS s1 rfl ?_ | refine wG_callS s2 rfl ?_ | (first
    | refine wC_a rfl ?_
    | refine q_s rfl ?_
    | refine q_b rfl ?_
    | refine wG_nil ?_
    | refine wG_g rfl ?_
    | refine wG_pure (o_len_vwm rfl) ?_
    | refine wG_pure (o_not_d rfl) ?_
    | refine wG_p rfl (by first | exact rfl | omega) ?_
    | refine wG_pure (o_str2 rfl rfl rfl) ?_
    | refine wG_pure (e_istr rfl rfl (by omega)) ?_
    | refine wG_pure (e_istr0 rfl rfl (by omega)) ?_
    | refine wG_pure (o_not rfl) ?_
    | refine wG_pure (e_ia_vw0 rfl rfl (by omega) rfl) ?_
    | refine wG_pure (e_ia_vwp rfl rfl (by omega) rfl) ?_
    | refine wG_pure (e_ia_vwm rfl rfl (by omega) (by omega) rfl) ?_
    | refine wG_pure (e_ia_vwi rfl rfl (by omega) rfl) ?_
    | refine wG_pure (e_ia_vwn rfl rfl (by omega) (by omega) rfl) ?_
    | refine wG_n rfl rfl ?_
    | refine wG_u rfl rfl ?_
    | refine wG_new (o_mks rfl rfl (by omega) (by decide)) ?_))
  all_goals (try (refine wG_pure (o_ldf_pt rfl (hg_skip (by omega) hg_here) rfl rfl) ?_))
  repeat (first | refine wG_callS s1 rfl ?_ | refine wG_callS s2 rfl ?_ | (first
    | refine wC_a rfl ?_
    | refine q_s rfl ?_
    | refine q_b rfl ?_
    | refine wG_nil ?_
    | refine wG_g rfl ?_
    | refine wG_pure (o_len_vwm rfl) ?_
    | refine wG_pure (o_not_d rfl) ?_
    | refine wG_p rfl (by first | exact rfl | omega) ?_
    | refine wG_pure (o_str2 rfl rfl rfl) ?_
    | refine wG_pure (e_istr rfl rfl (by omega)) ?_
    | refine wG_pure (e_istr0 rfl rfl (by omega)) ?_
    | refine wG_pure (o_not rfl) ?_
    | refine wG_pure (e_ia_vw0 rfl rfl (by omega) rfl) ?_
    | refine wG_pure (e_ia_vwp rfl rfl (by omega) rfl) ?_
    | refine wG_pure (e_ia_vwm rfl rfl (by omega) (by omega) rfl) ?_
    | refine wG_pure (e_ia_vwi rfl rfl (by omega) rfl) ?_
    | refine wG_pure (e_ia_vwn rfl rfl (by omega) (by omega) rfl) ?_
    | refine wG_n rfl rfl ?_
    | refine wG_u rfl rfl ?_
    | refine wG_new (o_mks rfl rfl (by omega) (by decide)) ?_))
  refine ⟨trivial, _, retVs_1 (retV_mv rfl), ?_, by omega⟩
  exact Le_of ⟨⟨rfl, rfl⟩, trivial⟩ (fun _ _ h => h) hw3
theorem con8 (a b nn : Bool) (r : Rc) (ls : List Int) (h1 : r.cs.length ≤ 9223372036854775807) (h2 : r.xs.length ≤ 9223372036854775807) (h3 : ls.length ≤ 9223372036854775807) : Con Try.prog 8 true [.agg (rRow a b r), .vw nn (ls.map iRow)] (.bool true) [] := by
  refine con_of_wp mixed fun8 (by simp) [] plain_nil ?_
  unfold ac8 ro8
  simp only [zipT]
  have c1 := con12 a b r h1 h2 1048576 (by decide) (by decide)
  repeat (first
    | refine wC_a rfl ?_
    | refine q_s rfl ?_
    | refine q_b rfl ?_
    | refine wG_nil ?_
    | refine wG_g rfl ?_
    | refine wG_pure (o_len_vwm rfl) ?_
    | refine wG_pure (o_not_d rfl) ?_
    | refine wG_p rfl (by first | exact rfl | omega) ?_
    | refine wG_pure (o_str2 rfl rfl rfl) ?_
    | refine wG_pure (e_istr rfl rfl (by omega)) ?_
    | refine wG_pure (e_istr0 rfl rfl (by omega)) ?_
    | refine wG_pure (o_not rfl) ?_
    | refine wG_pure (e_ia_vw0 rfl rfl (by omega) rfl) ?_
    | refine wG_pure (e_ia_vwp rfl rfl (by omega) rfl) ?_
    | refine wG_pure (e_ia_vwm rfl rfl (by omega) (by omega) rfl) ?_
    | refine wG_pure (e_ia_vwi rfl rfl (by omega) rfl) ?_
    | refine wG_pure (e_ia_vwn rfl rfl (by omega) (by omega) rfl) ?_
    | refine wG_n rfl rfl ?_
    | refine wG_u rfl rfl ?_
    | refine wG_new (o_mks rfl rfl (by omega) (by decide)) ?_)
  refine wC_cond_d rfl (fun hd => ?_) (fun hd => ?_)
  · repeat (first
    | refine wC_a rfl ?_
    | refine q_s rfl ?_
    | refine q_b rfl ?_
    | refine wG_nil ?_
    | refine wG_g rfl ?_
    | refine wG_pure (o_len_vwm rfl) ?_
    | refine wG_pure (o_not_d rfl) ?_
    | refine wG_p rfl (by first | exact rfl | omega) ?_
    | refine wG_pure (o_str2 rfl rfl rfl) ?_
    | refine wG_pure (e_istr rfl rfl (by omega)) ?_
    | refine wG_pure (e_istr0 rfl rfl (by omega)) ?_
    | refine wG_pure (o_not rfl) ?_
    | refine wG_pure (e_ia_vw0 rfl rfl (by omega) rfl) ?_
    | refine wG_pure (e_ia_vwp rfl rfl (by omega) rfl) ?_
    | refine wG_pure (e_ia_vwm rfl rfl (by omega) (by omega) rfl) ?_
    | refine wG_pure (e_ia_vwi rfl rfl (by omega) rfl) ?_
    | refine wG_pure (e_ia_vwn rfl rfl (by omega) (by omega) rfl) ?_
    | refine wG_n rfl rfl ?_
    | refine wG_u rfl rfl ?_
    | refine wG_new (o_mks rfl rfl (by omega) (by decide)) ?_)
    exact ret_boolE (.inr rfl) ⟨_, retV_mv rfl, rfl⟩
  have h3' : ls.length ≤ 1048576 := by omega
  repeat (first | refine wG_call c1 rfl rfl ?_ | (first
    | refine wC_a rfl ?_
    | refine q_s rfl ?_
    | refine q_b rfl ?_
    | refine wG_nil ?_
    | refine wG_g rfl ?_
    | refine wG_pure (o_len_vwm rfl) ?_
    | refine wG_pure (o_not_d rfl) ?_
    | refine wG_p rfl (by first | exact rfl | omega) ?_
    | refine wG_pure (o_str2 rfl rfl rfl) ?_
    | refine wG_pure (e_istr rfl rfl (by omega)) ?_
    | refine wG_pure (e_istr0 rfl rfl (by omega)) ?_
    | refine wG_pure (o_not rfl) ?_
    | refine wG_pure (e_ia_vw0 rfl rfl (by omega) rfl) ?_
    | refine wG_pure (e_ia_vwp rfl rfl (by omega) rfl) ?_
    | refine wG_pure (e_ia_vwm rfl rfl (by omega) (by omega) rfl) ?_
    | refine wG_pure (e_ia_vwi rfl rfl (by omega) rfl) ?_
    | refine wG_pure (e_ia_vwn rfl rfl (by omega) (by omega) rfl) ?_
    | refine wG_n rfl rfl ?_
    | refine wG_u rfl rfl ?_
    | refine wG_new (o_mks rfl rfl (by omega) (by decide)) ?_))
  refine wC_cond_d rfl (fun h => ?_) (fun h => ?_)
  · repeat (first
    | refine wC_a rfl ?_
    | refine q_s rfl ?_
    | refine q_b rfl ?_
    | refine wG_nil ?_
    | refine wG_g rfl ?_
    | refine wG_pure (o_len_vwm rfl) ?_
    | refine wG_pure (o_not_d rfl) ?_
    | refine wG_p rfl (by first | exact rfl | omega) ?_
    | refine wG_pure (o_str2 rfl rfl rfl) ?_
    | refine wG_pure (e_istr rfl rfl (by omega)) ?_
    | refine wG_pure (e_istr0 rfl rfl (by omega)) ?_
    | refine wG_pure (o_not rfl) ?_
    | refine wG_pure (e_ia_vw0 rfl rfl (by omega) rfl) ?_
    | refine wG_pure (e_ia_vwp rfl rfl (by omega) rfl) ?_
    | refine wG_pure (e_ia_vwm rfl rfl (by omega) (by omega) rfl) ?_
    | refine wG_pure (e_ia_vwi rfl rfl (by omega) rfl) ?_
    | refine wG_pure (e_ia_vwn rfl rfl (by omega) (by omega) rfl) ?_
    | refine wG_n rfl rfl ?_
    | refine wG_u rfl rfl ?_
    | refine wG_new (o_mks rfl rfl (by omega) (by decide)) ?_)
    exact ret_boolE (.inr rfl) ⟨_, retV_mv rfl, rfl⟩
  obtain ⟨s1, s2, s3⟩ := szR_ok (Int.not_lt.1 h)
  have h1' : r.cs.length ≤ 1048576 := by omega
  have h2' : r.xs.length ≤ 1048576 := by omega
  have cT := con14 a b r h1' h2'
  have cE := con16 true true true true r h1' h2'
  have cZ := con22 nn ls h3'
  have cQ := con24_same true true ls h3'
  obtain ⟨z, p, cS, cI⟩ : ∃ z p, Con Try.prog 27 true [.agg (rRow true true r), .vw true (ls.map iRow)] (.tup [.int .i64 z, .bool p]) [] ∧ Con Try.prog 28 true [.agg (rRow true true r), .vw true (ls.map iRow)] (.tup [.int .i64 z, .bool p]) [] := by
    by_cases hk : okS r ls
    · exact ⟨_, true, con27_yes true true true r ls h1' h2' h3' hk.1 hk.2, con28_yes true true true r ls h1' h2' h3' hk.1 hk.2⟩
    · exact ⟨_, false, con27_no true true true r ls h1' h2' h3' hk, con28_no true true true r ls h1' h2' h3' hk⟩
  cases p
  all_goals (repeat' (first | refine wC_dregE ?_ | refine wG_call2 cT rfl rfl ?_ | refine wE_call2 cT rfl rfl rfl ?_ | refine wG_call1 cZ rfl rfl ?_ | refine wE_call1 cZ rfl rfl rfl ?_ | refine wG_call cS (ag_rec rfl rfl rfl (ag_sl rfl rfl rfl iRow_plain ag_nil)) rfl ?_ | refine wG_call cI (ag_rec rfl rfl rfl (ag_sl rfl rfl rfl iRow_plain ag_nil)) rfl ?_ | refine wG_call cE (ag_rec rfl rfl rfl (ag_rec rfl rfl rfl ag_nil)) rfl ?_ | refine wE_call cE (ag_rec rfl rfl rfl (ag_rec rfl rfl rfl ag_nil)) rfl rfl ?_ | refine wG_call cQ (ag_sl rfl rfl rfl iRow_plain (ag_sl rfl rfl rfl iRow_plain ag_nil)) rfl ?_ | refine wE_call cQ (ag_sl rfl rfl rfl iRow_plain (ag_sl rfl rfl rfl iRow_plain ag_nil)) rfl rfl ?_ | (first
    | refine wC_a rfl ?_
    | refine q_s rfl ?_
    | refine q_b rfl ?_
    | refine wG_nil ?_
    | refine wG_g rfl ?_
    | refine wG_pure (o_len_vwm rfl) ?_
    | refine wG_pure (o_not_d rfl) ?_
    | refine wG_p rfl (by first | exact rfl | omega) ?_
    | refine wG_pure (o_str2 rfl rfl rfl) ?_
    | refine wG_pure (e_istr rfl rfl (by omega)) ?_
    | refine wG_pure (e_istr0 rfl rfl (by omega)) ?_
    | refine wG_pure (o_not rfl) ?_
    | refine wG_pure (e_ia_vw0 rfl rfl (by omega) rfl) ?_
    | refine wG_pure (e_ia_vwp rfl rfl (by omega) rfl) ?_
    | refine wG_pure (e_ia_vwm rfl rfl (by omega) (by omega) rfl) ?_
    | refine wG_pure (e_ia_vwi rfl rfl (by omega) rfl) ?_
    | refine wG_pure (e_ia_vwn rfl rfl (by omega) (by omega) rfl) ?_
    | refine wG_n rfl rfl ?_
    | refine wG_u rfl rfl ?_
    | refine wG_new (o_mks rfl rfl (by omega) (by decide)) ?_) | (first
    | refine wE_nil (by kernel_rfl) ?_
    | refine wE_gy rfl ?_
    | refine wE_gn rfl rfl rfl ?_
    | refine wE_gu rfl rfl ?_
    | refine wE_gnn rfl rfl rfl ?_
    | refine wE_v (o_len_vwm rfl) rfl ?_
    | refine wE_v (o_not_d rfl) rfl ?_
    | refine wE_p rfl (by first | exact rfl | omega) rfl ?_
    | refine wE_v (o_str2 rfl rfl rfl) rfl ?_
    | refine wE_v (e_istr rfl rfl (by omega)) rfl ?_
    | refine wE_v (e_istr0 rfl rfl (by omega)) rfl ?_
    | refine wE_v (o_not rfl) rfl ?_
    | refine wE_v (e_ia_vw0 rfl rfl (by omega) rfl) rfl ?_
    | refine wE_v (e_ia_vwp rfl rfl (by omega) rfl) rfl ?_
    | refine wE_v (e_ia_vwm rfl rfl (by omega) (by omega) rfl) rfl ?_
    | refine wE_v (e_ia_vwi rfl rfl (by omega) rfl) rfl ?_
    | refine wE_v (e_ia_vwn rfl rfl (by omega) (by omega) rfl) rfl ?_
    | refine wE_n rfl rfl rfl ?_
    | refine wE_u rfl rfl rfl ?_
    | refine wE_new (o_mks rfl rfl (by omega) (by decide)) rfl ?_) | (refine wG_gd rfl (fun hgt => ?_) (fun hgf => ?_) <;> (first | simp only [eq_true hgt, decide_true] | simp only [eq_false hgf, decide_false])) | refine wC_cond_d rfl (fun hg => ?_) (fun hg => ?_)))
  all_goals (first | contradiction | exact ret_boolE (.inr rfl) ⟨_, retV_mv rfl, rfl⟩ | (exfalso; omega) | trace_state)
theorem con7 (a b nn mm : Bool) (r : Rc) (ls ks : List Int) (h1 : r.cs.length ≤ 9223372036854775807) (h2 : r.xs.length ≤ 9223372036854775807) (h3 : ls.length ≤ 9223372036854775807) (h4 : ks.length ≤ 9223372036854775807) : Con Try.prog 7 true [.agg (rRow a b r), .vw nn (ls.map iRow), .vw mm (ks.map iRow)] (.bool true) [] := by
  refine con_of_wp mixed fun7 (by simp) [] plain_nil ?_
  unfold ac7 ro7
  simp only [zipT]
  have c1 := con12 a b r h1 h2 1048576 (by decide) (by decide)
  repeat (first
    | refine wC_a rfl ?_
    | refine q_s rfl ?_
    | refine q_b rfl ?_
    | refine wG_nil ?_
    | refine wG_g rfl ?_
    | refine wG_pure (o_len_vwm rfl) ?_
    | refine wG_pure (o_not_d rfl) ?_
    | refine wG_p rfl (by first | exact rfl | omega) ?_
    | refine wG_pure (o_str2 rfl rfl rfl) ?_
    | refine wG_pure (e_istr rfl rfl (by omega)) ?_
    | refine wG_pure (e_istr0 rfl rfl (by omega)) ?_
    | refine wG_pure (o_not rfl) ?_
    | refine wG_pure (e_ia_vw0 rfl rfl (by omega) rfl) ?_
    | refine wG_pure (e_ia_vwp rfl rfl (by omega) rfl) ?_
    | refine wG_pure (e_ia_vwm rfl rfl (by omega) (by omega) rfl) ?_
    | refine wG_pure (e_ia_vwi rfl rfl (by omega) rfl) ?_
    | refine wG_pure (e_ia_vwn rfl rfl (by omega) (by omega) rfl) ?_
    | refine wG_n rfl rfl ?_
    | refine wG_u rfl rfl ?_
    | refine wG_new (o_mks rfl rfl (by omega) (by decide)) ?_)
  refine wC_cond_d rfl (fun hd => ?_) (fun hd => ?_)
  · repeat (first
    | refine wC_a rfl ?_
    | refine q_s rfl ?_
    | refine q_b rfl ?_
    | refine wG_nil ?_
    | refine wG_g rfl ?_
    | refine wG_pure (o_len_vwm rfl) ?_
    | refine wG_pure (o_not_d rfl) ?_
    | refine wG_p rfl (by first | exact rfl | omega) ?_
    | refine wG_pure (o_str2 rfl rfl rfl) ?_
    | refine wG_pure (e_istr rfl rfl (by omega)) ?_
    | refine wG_pure (e_istr0 rfl rfl (by omega)) ?_
    | refine wG_pure (o_not rfl) ?_
    | refine wG_pure (e_ia_vw0 rfl rfl (by omega) rfl) ?_
    | refine wG_pure (e_ia_vwp rfl rfl (by omega) rfl) ?_
    | refine wG_pure (e_ia_vwm rfl rfl (by omega) (by omega) rfl) ?_
    | refine wG_pure (e_ia_vwi rfl rfl (by omega) rfl) ?_
    | refine wG_pure (e_ia_vwn rfl rfl (by omega) (by omega) rfl) ?_
    | refine wG_n rfl rfl ?_
    | refine wG_u rfl rfl ?_
    | refine wG_new (o_mks rfl rfl (by omega) (by decide)) ?_)
    exact ret_boolE (.inr rfl) ⟨_, retV_mv rfl, rfl⟩
  have h3' : ls.length ≤ 1048576 := by omega
  repeat (first
    | refine wC_a rfl ?_
    | refine q_s rfl ?_
    | refine q_b rfl ?_
    | refine wG_nil ?_
    | refine wG_g rfl ?_
    | refine wG_pure (o_len_vwm rfl) ?_
    | refine wG_pure (o_not_d rfl) ?_
    | refine wG_p rfl (by first | exact rfl | omega) ?_
    | refine wG_pure (o_str2 rfl rfl rfl) ?_
    | refine wG_pure (e_istr rfl rfl (by omega)) ?_
    | refine wG_pure (e_istr0 rfl rfl (by omega)) ?_
    | refine wG_pure (o_not rfl) ?_
    | refine wG_pure (e_ia_vw0 rfl rfl (by omega) rfl) ?_
    | refine wG_pure (e_ia_vwp rfl rfl (by omega) rfl) ?_
    | refine wG_pure (e_ia_vwm rfl rfl (by omega) (by omega) rfl) ?_
    | refine wG_pure (e_ia_vwi rfl rfl (by omega) rfl) ?_
    | refine wG_pure (e_ia_vwn rfl rfl (by omega) (by omega) rfl) ?_
    | refine wG_n rfl rfl ?_
    | refine wG_u rfl rfl ?_
    | refine wG_new (o_mks rfl rfl (by omega) (by decide)) ?_)
  refine wC_cond_d rfl (fun hd => ?_) (fun hd => ?_)
  · repeat (first
    | refine wC_a rfl ?_
    | refine q_s rfl ?_
    | refine q_b rfl ?_
    | refine wG_nil ?_
    | refine wG_g rfl ?_
    | refine wG_pure (o_len_vwm rfl) ?_
    | refine wG_pure (o_not_d rfl) ?_
    | refine wG_p rfl (by first | exact rfl | omega) ?_
    | refine wG_pure (o_str2 rfl rfl rfl) ?_
    | refine wG_pure (e_istr rfl rfl (by omega)) ?_
    | refine wG_pure (e_istr0 rfl rfl (by omega)) ?_
    | refine wG_pure (o_not rfl) ?_
    | refine wG_pure (e_ia_vw0 rfl rfl (by omega) rfl) ?_
    | refine wG_pure (e_ia_vwp rfl rfl (by omega) rfl) ?_
    | refine wG_pure (e_ia_vwm rfl rfl (by omega) (by omega) rfl) ?_
    | refine wG_pure (e_ia_vwi rfl rfl (by omega) rfl) ?_
    | refine wG_pure (e_ia_vwn rfl rfl (by omega) (by omega) rfl) ?_
    | refine wG_n rfl rfl ?_
    | refine wG_u rfl rfl ?_
    | refine wG_new (o_mks rfl rfl (by omega) (by decide)) ?_)
    exact ret_boolE (.inr rfl) ⟨_, retV_mv rfl, rfl⟩
  have h4' : ks.length ≤ 1048576 := by omega
  repeat (first | refine wG_call c1 rfl rfl ?_ | (first
    | refine wC_a rfl ?_
    | refine q_s rfl ?_
    | refine q_b rfl ?_
    | refine wG_nil ?_
    | refine wG_g rfl ?_
    | refine wG_pure (o_len_vwm rfl) ?_
    | refine wG_pure (o_not_d rfl) ?_
    | refine wG_p rfl (by first | exact rfl | omega) ?_
    | refine wG_pure (o_str2 rfl rfl rfl) ?_
    | refine wG_pure (e_istr rfl rfl (by omega)) ?_
    | refine wG_pure (e_istr0 rfl rfl (by omega)) ?_
    | refine wG_pure (o_not rfl) ?_
    | refine wG_pure (e_ia_vw0 rfl rfl (by omega) rfl) ?_
    | refine wG_pure (e_ia_vwp rfl rfl (by omega) rfl) ?_
    | refine wG_pure (e_ia_vwm rfl rfl (by omega) (by omega) rfl) ?_
    | refine wG_pure (e_ia_vwi rfl rfl (by omega) rfl) ?_
    | refine wG_pure (e_ia_vwn rfl rfl (by omega) (by omega) rfl) ?_
    | refine wG_n rfl rfl ?_
    | refine wG_u rfl rfl ?_
    | refine wG_new (o_mks rfl rfl (by omega) (by decide)) ?_))
  refine wC_cond_d rfl (fun h => ?_) (fun h => ?_)
  · repeat (first
    | refine wC_a rfl ?_
    | refine q_s rfl ?_
    | refine q_b rfl ?_
    | refine wG_nil ?_
    | refine wG_g rfl ?_
    | refine wG_pure (o_len_vwm rfl) ?_
    | refine wG_pure (o_not_d rfl) ?_
    | refine wG_p rfl (by first | exact rfl | omega) ?_
    | refine wG_pure (o_str2 rfl rfl rfl) ?_
    | refine wG_pure (e_istr rfl rfl (by omega)) ?_
    | refine wG_pure (e_istr0 rfl rfl (by omega)) ?_
    | refine wG_pure (o_not rfl) ?_
    | refine wG_pure (e_ia_vw0 rfl rfl (by omega) rfl) ?_
    | refine wG_pure (e_ia_vwp rfl rfl (by omega) rfl) ?_
    | refine wG_pure (e_ia_vwm rfl rfl (by omega) (by omega) rfl) ?_
    | refine wG_pure (e_ia_vwi rfl rfl (by omega) rfl) ?_
    | refine wG_pure (e_ia_vwn rfl rfl (by omega) (by omega) rfl) ?_
    | refine wG_n rfl rfl ?_
    | refine wG_u rfl rfl ?_
    | refine wG_new (o_mks rfl rfl (by omega) (by decide)) ?_)
    exact ret_boolE (.inr rfl) ⟨_, retV_mv rfl, rfl⟩
  obtain ⟨s1, s2, s3⟩ := szR_ok (Int.not_lt.1 h)
  have h1' : r.cs.length ≤ 1048576 := by omega
  have h2' : r.xs.length ≤ 1048576 := by omega
  have cT := con14 a b r h1' h2'
  have cE := con16 true true true true r h1' h2'
  have cZ := con22 nn ls h3'
  have cY := con22 mm ks h4'
  have cQ := con24_same true true ls h3'
  have cR := con24_same true true ks h4'
  obtain ⟨z, p, cS, cI⟩ : ∃ z p, Con Try.prog 25 true [.agg (rRow true true r), .vw true (ls.map iRow), .vw true (ks.map iRow)] (.tup [.int .i64 z, .bool p]) [] ∧ Con Try.prog 26 true [.agg (rRow true true r), .vw true (ls.map iRow), .vw true (ks.map iRow)] (.tup [.int .i64 z, .bool p]) [] := by
    by_cases hk : okD r ls ks
    · exact ⟨_, true, con25_yes true true true true r ls ks h1' h2' h3' h4' hk, con26_yes true true true true r ls ks h1' h2' h3' h4' hk⟩
    · exact ⟨_, false, con25_no true true true true r ls ks h1' h2' h3' h4' hk, con26_no true true true true r ls ks h1' h2' h3' h4' hk⟩
  cases p
  all_goals (repeat' (first | refine wC_dregE ?_ | refine wG_call2 cT rfl rfl ?_ | refine wE_call2 cT rfl rfl rfl ?_ | refine wG_call1 cZ rfl rfl ?_ | refine wE_call1 cZ rfl rfl rfl ?_ | refine wG_call1 cY rfl rfl ?_ | refine wE_call1 cY rfl rfl rfl ?_ | refine wG_call cS (ag_rec rfl rfl rfl (ag_sl rfl rfl rfl iRow_plain (ag_sl rfl rfl rfl iRow_plain ag_nil))) rfl ?_ | refine wG_call cI (ag_rec rfl rfl rfl (ag_sl rfl rfl rfl iRow_plain (ag_sl rfl rfl rfl iRow_plain ag_nil))) rfl ?_ | refine wG_call cE (ag_rec rfl rfl rfl (ag_rec rfl rfl rfl ag_nil)) rfl ?_ | refine wE_call cE (ag_rec rfl rfl rfl (ag_rec rfl rfl rfl ag_nil)) rfl rfl ?_ | refine wG_call cQ (ag_sl rfl rfl rfl iRow_plain (ag_sl rfl rfl rfl iRow_plain ag_nil)) rfl ?_ | refine wE_call cQ (ag_sl rfl rfl rfl iRow_plain (ag_sl rfl rfl rfl iRow_plain ag_nil)) rfl rfl ?_ | refine wG_call cR (ag_sl rfl rfl rfl iRow_plain (ag_sl rfl rfl rfl iRow_plain ag_nil)) rfl ?_ | refine wE_call cR (ag_sl rfl rfl rfl iRow_plain (ag_sl rfl rfl rfl iRow_plain ag_nil)) rfl rfl ?_ | (first
    | refine wC_a rfl ?_
    | refine q_s rfl ?_
    | refine q_b rfl ?_
    | refine wG_nil ?_
    | refine wG_g rfl ?_
    | refine wG_pure (o_len_vwm rfl) ?_
    | refine wG_pure (o_not_d rfl) ?_
    | refine wG_p rfl (by first | exact rfl | omega) ?_
    | refine wG_pure (o_str2 rfl rfl rfl) ?_
    | refine wG_pure (e_istr rfl rfl (by omega)) ?_
    | refine wG_pure (e_istr0 rfl rfl (by omega)) ?_
    | refine wG_pure (o_not rfl) ?_
    | refine wG_pure (e_ia_vw0 rfl rfl (by omega) rfl) ?_
    | refine wG_pure (e_ia_vwp rfl rfl (by omega) rfl) ?_
    | refine wG_pure (e_ia_vwm rfl rfl (by omega) (by omega) rfl) ?_
    | refine wG_pure (e_ia_vwi rfl rfl (by omega) rfl) ?_
    | refine wG_pure (e_ia_vwn rfl rfl (by omega) (by omega) rfl) ?_
    | refine wG_n rfl rfl ?_
    | refine wG_u rfl rfl ?_
    | refine wG_new (o_mks rfl rfl (by omega) (by decide)) ?_) | (first
    | refine wE_nil (by kernel_rfl) ?_
    | refine wE_gy rfl ?_
    | refine wE_gn rfl rfl rfl ?_
    | refine wE_gu rfl rfl ?_
    | refine wE_gnn rfl rfl rfl ?_
    | refine wE_v (o_len_vwm rfl) rfl ?_
    | refine wE_v (o_not_d rfl) rfl ?_
    | refine wE_p rfl (by first | exact rfl | omega) rfl ?_
    | refine wE_v (o_str2 rfl rfl rfl) rfl ?_
    | refine wE_v (e_istr rfl rfl (by omega)) rfl ?_
    | refine wE_v (e_istr0 rfl rfl (by omega)) rfl ?_
    | refine wE_v (o_not rfl) rfl ?_
    | refine wE_v (e_ia_vw0 rfl rfl (by omega) rfl) rfl ?_
    | refine wE_v (e_ia_vwp rfl rfl (by omega) rfl) rfl ?_
    | refine wE_v (e_ia_vwm rfl rfl (by omega) (by omega) rfl) rfl ?_
    | refine wE_v (e_ia_vwi rfl rfl (by omega) rfl) rfl ?_
    | refine wE_v (e_ia_vwn rfl rfl (by omega) (by omega) rfl) rfl ?_
    | refine wE_n rfl rfl rfl ?_
    | refine wE_u rfl rfl rfl ?_
    | refine wE_new (o_mks rfl rfl (by omega) (by decide)) rfl ?_) | (refine wG_gd rfl (fun hgt => ?_) (fun hgf => ?_) <;> (first | simp only [eq_true hgt, decide_true] | simp only [eq_false hgf, decide_false])) | refine wC_cond_d rfl (fun hg => ?_) (fun hg => ?_)))
  all_goals (first | contradiction | exact ret_boolE (.inr rfl) ⟨_, retV_mv rfl, rfl⟩ | (exfalso; omega) | trace_state)
theorem con10 (a b : Bool) (r : Rc) (x : Int) (h1 : r.cs.length ≤ 9223372036854775807) (h2 : r.xs.length ≤ 9223372036854775807) : Con Try.prog 10 true [.agg (rRow a b r), .int .i64 x] (.bool true) [] := by
  refine con_of_wp mixed fun10 (by simp) [] plain_nil ?_
  unfold ac10 ro10
  simp only [zipT]
  have c1 := con12 a b r h1 h2 1048576 (by decide) (by decide)
  repeat (first | refine wG_call c1 rfl rfl ?_ | (first
    | refine wC_a rfl ?_
    | refine q_s rfl ?_
    | refine q_b rfl ?_
    | refine wG_nil ?_
    | refine wG_g rfl ?_
    | refine wG_pure (o_len_vwm rfl) ?_
    | refine wG_pure (o_not_d rfl) ?_
    | refine wG_p rfl (by first | exact rfl | omega) ?_
    | refine wG_pure (o_str2 rfl rfl rfl) ?_
    | refine wG_pure (e_istr rfl rfl (by omega)) ?_
    | refine wG_pure (e_istr0 rfl rfl (by omega)) ?_
    | refine wG_pure (o_not rfl) ?_
    | refine wG_pure (e_ia_vw0 rfl rfl (by omega) rfl) ?_
    | refine wG_pure (e_ia_vwp rfl rfl (by omega) rfl) ?_
    | refine wG_pure (e_ia_vwm rfl rfl (by omega) (by omega) rfl) ?_
    | refine wG_pure (e_ia_vwi rfl rfl (by omega) rfl) ?_
    | refine wG_pure (e_ia_vwn rfl rfl (by omega) (by omega) rfl) ?_
    | refine wG_n rfl rfl ?_
    | refine wG_u rfl rfl ?_
    | refine wG_new (o_mks rfl rfl (by omega) (by decide)) ?_))
  refine wC_cond_d rfl (fun h => ?_) (fun h => ?_)
  · repeat (first
    | refine wC_a rfl ?_
    | refine q_s rfl ?_
    | refine q_b rfl ?_
    | refine wG_nil ?_
    | refine wG_g rfl ?_
    | refine wG_pure (o_len_vwm rfl) ?_
    | refine wG_pure (o_not_d rfl) ?_
    | refine wG_p rfl (by first | exact rfl | omega) ?_
    | refine wG_pure (o_str2 rfl rfl rfl) ?_
    | refine wG_pure (e_istr rfl rfl (by omega)) ?_
    | refine wG_pure (e_istr0 rfl rfl (by omega)) ?_
    | refine wG_pure (o_not rfl) ?_
    | refine wG_pure (e_ia_vw0 rfl rfl (by omega) rfl) ?_
    | refine wG_pure (e_ia_vwp rfl rfl (by omega) rfl) ?_
    | refine wG_pure (e_ia_vwm rfl rfl (by omega) (by omega) rfl) ?_
    | refine wG_pure (e_ia_vwi rfl rfl (by omega) rfl) ?_
    | refine wG_pure (e_ia_vwn rfl rfl (by omega) (by omega) rfl) ?_
    | refine wG_n rfl rfl ?_
    | refine wG_u rfl rfl ?_
    | refine wG_new (o_mks rfl rfl (by omega) (by decide)) ?_)
    exact ret_boolE (.inr rfl) ⟨_, retV_mv rfl, rfl⟩
  obtain ⟨s1, s2, s3⟩ := szR_ok (Int.not_lt.1 h)
  have h1' : r.cs.length ≤ 1048576 := by omega
  have h2' : r.xs.length ≤ 1048576 := by omega
  have cT := con14 a b r h1' h2'
  have cE := con16 true true true true r h1' h2'
  have sR := fun h nr q1 q2 => @sh31 r 1 h1' h2' (by decide) (by decide) h nr q1 q2
  have hdi : (∃ vs : List Int, vs.length ≤ 10 ∧ Con Try.prog 34 true [.agg (rRow true true r), .int .i64 x] (.tup [.sl 0 1 0 vs.length, .bool true]) [vs.map iRow] ∧ Con Try.prog 35 true [.agg (rRow true true r), .int .i64 x] (.tup [.sl 0 1 0 vs.length, .bool true]) [vs.map iRow]) ∨ (Con Try.prog 34 true [.agg (rRow true true r), .int .i64 x] (.tup [.sl 0 1 0 0, .bool false]) [([] : List Int).map iRow] ∧ Con Try.prog 35 true [.agg (rRow true true r), .int .i64 x] (.tup [.nilS, .bool false]) []) := by
    by_cases hk : GoodC r ∧ inR r x
    · obtain ⟨x', rfl⟩ : ∃ x' : Nat, x = x' := ⟨_, (Int.toNat_of_nonneg hk.2.1).symm⟩
      have hx : x' < cnt r.cs.length (later r) 0 := by have := hk.2.2; omega
      have hlen := atL_len r x' r.cs.length
      have e : AV.sl 0 1 0 r.cs.length = AV.sl 0 1 0 (atL r x' r.cs.length).length := by rw [hlen]
      have g1 := con34_yes true true r x' h1' h2' hk.1 hx
      have g2 := con35_yes true true r x' h1' h2' hk.1 hx
      rw [e] at g1 g2
      exact .inl ⟨_, by rw [hlen]; exact hk.1.1.1, g1, g2⟩
    · exact .inr ⟨con34_no true true r x h1' h2' hk, con35_no true true r x h1' h2' hk⟩
  rcases hdi with ⟨vs, hv10, cS, cI⟩ | ⟨cS, cI⟩
  · have cQ := con24_same true true vs (by omega)
    have cH := con33 true vs.length 1 (by omega) (by decide) (by decide)
    have sV := fun h nr q => @sh32 vs 1 (by omega) (by decide) (by decide) h nr q
    repeat' (first
      | refine wC_dregE ?_ | refine wG_call2 cT rfl rfl ?_ | refine wE_call2 cT rfl rfl rfl ?_ | refine wG_call1 cS (ag_rec rfl rfl rfl (ag_int rfl ag_nil)) rfl ?_ | refine wE_call1 cS (ag_rec rfl rfl rfl (ag_int rfl ag_nil)) rfl rfl ?_ | refine wG_call1 cI (ag_rec rfl rfl rfl (ag_int rfl ag_nil)) rfl ?_ | refine wE_call1 cI (ag_rec rfl rfl rfl (ag_int rfl ag_nil)) rfl rfl ?_ | refine wG_call cE (ag_rec rfl rfl rfl (ag_rec rfl rfl rfl ag_nil)) rfl ?_ | refine wE_call cE (ag_rec rfl rfl rfl (ag_rec rfl rfl rfl ag_nil)) rfl rfl ?_ | refine wG_call cQ (ag_sl rfl rfl rfl iRow_plain (ag_sl rfl rfl rfl iRow_plain ag_nil)) rfl ?_ | refine wG_call cH (ag_sl rfl rfl (mks_len _ _).symm iRow_plain (ag_int rfl ag_nil)) rfl ?_
      | (refine wG_callS (f := 31) (sR _ _ _ _ rfl rfl (by decide) ?_) rfl ?_ <;> (repeat' (first | exact ltrI _ _ | exact ltrK _ _ | exact ltrX _ _ | exact wfH_nil | refine wfH_cons (by decide) ?_ ?_ | exact ltr_dec rfl)))
      | (refine wG_callS (f := 32) (sV _ _ _ rfl ?_) rfl ?_ <;> (repeat' (first | exact ltrI _ _ | exact ltrK _ _ | exact ltrX _ _ | exact wfH_nil | refine wfH_cons (by decide) ?_ ?_ | exact ltr_dec rfl)))
      | (first
    | refine wC_a rfl ?_
    | refine q_s rfl ?_
    | refine q_b rfl ?_
    | refine wG_nil ?_
    | refine wG_g rfl ?_
    | refine wG_pure (o_len_vwm rfl) ?_
    | refine wG_pure (o_not_d rfl) ?_
    | refine wG_p rfl (by first | exact rfl | omega) ?_
    | refine wG_pure (o_str2 rfl rfl rfl) ?_
    | refine wG_pure (e_istr rfl rfl (by omega)) ?_
    | refine wG_pure (e_istr0 rfl rfl (by omega)) ?_
    | refine wG_pure (o_not rfl) ?_
    | refine wG_pure (e_ia_vw0 rfl rfl (by omega) rfl) ?_
    | refine wG_pure (e_ia_vwp rfl rfl (by omega) rfl) ?_
    | refine wG_pure (e_ia_vwm rfl rfl (by omega) (by omega) rfl) ?_
    | refine wG_pure (e_ia_vwi rfl rfl (by omega) rfl) ?_
    | refine wG_pure (e_ia_vwn rfl rfl (by omega) (by omega) rfl) ?_
    | refine wG_n rfl rfl ?_
    | refine wG_u rfl rfl ?_
    | refine wG_new (o_mks rfl rfl (by omega) (by decide)) ?_) | (first
    | refine wE_nil (by kernel_rfl) ?_
    | refine wE_gy rfl ?_
    | refine wE_gn rfl rfl rfl ?_
    | refine wE_gu rfl rfl ?_
    | refine wE_gnn rfl rfl rfl ?_
    | refine wE_v (o_len_vwm rfl) rfl ?_
    | refine wE_v (o_not_d rfl) rfl ?_
    | refine wE_p rfl (by first | exact rfl | omega) rfl ?_
    | refine wE_v (o_str2 rfl rfl rfl) rfl ?_
    | refine wE_v (e_istr rfl rfl (by omega)) rfl ?_
    | refine wE_v (e_istr0 rfl rfl (by omega)) rfl ?_
    | refine wE_v (o_not rfl) rfl ?_
    | refine wE_v (e_ia_vw0 rfl rfl (by omega) rfl) rfl ?_
    | refine wE_v (e_ia_vwp rfl rfl (by omega) rfl) rfl ?_
    | refine wE_v (e_ia_vwm rfl rfl (by omega) (by omega) rfl) rfl ?_
    | refine wE_v (e_ia_vwi rfl rfl (by omega) rfl) rfl ?_
    | refine wE_v (e_ia_vwn rfl rfl (by omega) (by omega) rfl) rfl ?_
    | refine wE_n rfl rfl rfl ?_
    | refine wE_u rfl rfl rfl ?_
    | refine wE_new (o_mks rfl rfl (by omega) (by decide)) rfl ?_) | (refine wG_gd rfl (fun hgt => ?_) (fun hgf => ?_) <;> (first | simp only [eq_true hgt, decide_true] | simp only [eq_false hgf, decide_false])) | refine wC_cond_d rfl (fun hg => ?_) (fun hg => ?_))
    all_goals (first | exact ret_boolE (.inr rfl) ⟨_, retV_mv rfl, rfl⟩ | (exfalso; omega) | trace_state)
  · have cQ : Con Try.prog 24 true [.nilS, .vw true (([] : List Int).map iRow)] (.bool true) [] := con_nil (con24_same false true [] (by decide))
    have cH : Con Try.prog 33 true [.nilS, .int .i64 1] (.int .i64 1) [] := con_nil (con33 false 0 1 (by decide) (by decide) (by decide))
    have cM := con32_nil 1
    repeat' (first
      | refine wC_dregE ?_ | refine wG_call2 cT rfl rfl ?_ | refine wE_call2 cT rfl rfl rfl ?_ | refine wG_call1 cS (ag_rec rfl rfl rfl (ag_int rfl ag_nil)) rfl ?_ | refine wE_call1 cS (ag_rec rfl rfl rfl (ag_int rfl ag_nil)) rfl rfl ?_ | refine wG_call cI (ag_rec rfl rfl rfl (ag_int rfl ag_nil)) rfl ?_ | refine wE_call cI (ag_rec rfl rfl rfl (ag_int rfl ag_nil)) rfl rfl ?_ | refine wG_call cE (ag_rec rfl rfl rfl (ag_rec rfl rfl rfl ag_nil)) rfl ?_ | refine wE_call cE (ag_rec rfl rfl rfl (ag_rec rfl rfl rfl ag_nil)) rfl rfl ?_ | refine wG_call cQ (ag_any rfl (ag_sl rfl rfl rfl iRow_plain ag_nil)) rfl ?_ | refine wG_call cH rfl rfl ?_ | refine wG_call cM rfl rfl ?_
      | (refine wG_callS (f := 31) (sR _ _ _ _ rfl rfl (by decide) ?_) rfl ?_ <;> (repeat' (first | exact ltrI _ _ | exact ltrK _ _ | exact ltrX _ _ | exact ltrI [] _ | exact wfH_nil | refine wfH_cons (by decide) ?_ ?_ | exact ltr_dec rfl)))
      | (first
    | refine wC_a rfl ?_
    | refine q_s rfl ?_
    | refine q_b rfl ?_
    | refine wG_nil ?_
    | refine wG_g rfl ?_
    | refine wG_pure (o_len_vwm rfl) ?_
    | refine wG_pure (o_not_d rfl) ?_
    | refine wG_p rfl (by first | exact rfl | omega) ?_
    | refine wG_pure (o_str2 rfl rfl rfl) ?_
    | refine wG_pure (e_istr rfl rfl (by omega)) ?_
    | refine wG_pure (e_istr0 rfl rfl (by omega)) ?_
    | refine wG_pure (o_not rfl) ?_
    | refine wG_pure (e_ia_vw0 rfl rfl (by omega) rfl) ?_
    | refine wG_pure (e_ia_vwp rfl rfl (by omega) rfl) ?_
    | refine wG_pure (e_ia_vwm rfl rfl (by omega) (by omega) rfl) ?_
    | refine wG_pure (e_ia_vwi rfl rfl (by omega) rfl) ?_
    | refine wG_pure (e_ia_vwn rfl rfl (by omega) (by omega) rfl) ?_
    | refine wG_n rfl rfl ?_
    | refine wG_u rfl rfl ?_
    | refine wG_new (o_mks rfl rfl (by omega) (by decide)) ?_) | (first
    | refine wE_nil (by kernel_rfl) ?_
    | refine wE_gy rfl ?_
    | refine wE_gn rfl rfl rfl ?_
    | refine wE_gu rfl rfl ?_
    | refine wE_gnn rfl rfl rfl ?_
    | refine wE_v (o_len_vwm rfl) rfl ?_
    | refine wE_v (o_not_d rfl) rfl ?_
    | refine wE_p rfl (by first | exact rfl | omega) rfl ?_
    | refine wE_v (o_str2 rfl rfl rfl) rfl ?_
    | refine wE_v (e_istr rfl rfl (by omega)) rfl ?_
    | refine wE_v (e_istr0 rfl rfl (by omega)) rfl ?_
    | refine wE_v (o_not rfl) rfl ?_
    | refine wE_v (e_ia_vw0 rfl rfl (by omega) rfl) rfl ?_
    | refine wE_v (e_ia_vwp rfl rfl (by omega) rfl) rfl ?_
    | refine wE_v (e_ia_vwm rfl rfl (by omega) (by omega) rfl) rfl ?_
    | refine wE_v (e_ia_vwi rfl rfl (by omega) rfl) rfl ?_
    | refine wE_v (e_ia_vwn rfl rfl (by omega) (by omega) rfl) rfl ?_
    | refine wE_n rfl rfl rfl ?_
    | refine wE_u rfl rfl rfl ?_
    | refine wE_new (o_mks rfl rfl (by omega) (by decide)) rfl ?_) | (refine wG_gd rfl (fun hgt => ?_) (fun hgf => ?_) <;> (first | simp only [eq_true hgt, decide_true] | simp only [eq_false hgf, decide_false])) | refine wC_cond_d rfl (fun hg => ?_) (fun hg => ?_))
    all_goals (first | exact ret_boolE (.inr rfl) ⟨_, retV_mv rfl, rfl⟩ | (exfalso; omega) | trace_state)
theorem con11 (a b nn : Bool) (r : Rc) (ls : List Int) (h1 : r.cs.length ≤ 9223372036854775807) (h2 : r.xs.length ≤ 9223372036854775807) (h3 : ls.length ≤ 9223372036854775807) : Con Try.prog 11 true [.agg (rRow a b r), .vw nn (ls.map iRow)] (.bool true) [] := by
  refine con_of_wp mixed fun11 (by simp) [] plain_nil ?_
  unfold ac11 ro11
  simp only [zipT]
  have c1 := con12 a b r h1 h2 1048576 (by decide) (by decide)
  repeat (first
    | refine wC_a rfl ?_
    | refine q_s rfl ?_
    | refine q_b rfl ?_
    | refine wG_nil ?_
    | refine wG_g rfl ?_
    | refine wG_pure (o_len_vwm rfl) ?_
    | refine wG_pure (o_not_d rfl) ?_
    | refine wG_p rfl (by first | exact rfl | omega) ?_
    | refine wG_pure (o_str2 rfl rfl rfl) ?_
    | refine wG_pure (e_istr rfl rfl (by omega)) ?_
    | refine wG_pure (e_istr0 rfl rfl (by omega)) ?_
    | refine wG_pure (o_not rfl) ?_
    | refine wG_pure (e_ia_vw0 rfl rfl (by omega) rfl) ?_
    | refine wG_pure (e_ia_vwp rfl rfl (by omega) rfl) ?_
    | refine wG_pure (e_ia_vwm rfl rfl (by omega) (by omega) rfl) ?_
    | refine wG_pure (e_ia_vwi rfl rfl (by omega) rfl) ?_
    | refine wG_pure (e_ia_vwn rfl rfl (by omega) (by omega) rfl) ?_
    | refine wG_n rfl rfl ?_
    | refine wG_u rfl rfl ?_
    | refine wG_new (o_mks rfl rfl (by omega) (by decide)) ?_)
  refine wC_cond_d rfl (fun hd => ?_) (fun hd => ?_)
  · repeat (first
    | refine wC_a rfl ?_
    | refine q_s rfl ?_
    | refine q_b rfl ?_
    | refine wG_nil ?_
    | refine wG_g rfl ?_
    | refine wG_pure (o_len_vwm rfl) ?_
    | refine wG_pure (o_not_d rfl) ?_
    | refine wG_p rfl (by first | exact rfl | omega) ?_
    | refine wG_pure (o_str2 rfl rfl rfl) ?_
    | refine wG_pure (e_istr rfl rfl (by omega)) ?_
    | refine wG_pure (e_istr0 rfl rfl (by omega)) ?_
    | refine wG_pure (o_not rfl) ?_
    | refine wG_pure (e_ia_vw0 rfl rfl (by omega) rfl) ?_
    | refine wG_pure (e_ia_vwp rfl rfl (by omega) rfl) ?_
    | refine wG_pure (e_ia_vwm rfl rfl (by omega) (by omega) rfl) ?_
    | refine wG_pure (e_ia_vwi rfl rfl (by omega) rfl) ?_
    | refine wG_pure (e_ia_vwn rfl rfl (by omega) (by omega) rfl) ?_
    | refine wG_n rfl rfl ?_
    | refine wG_u rfl rfl ?_
    | refine wG_new (o_mks rfl rfl (by omega) (by decide)) ?_)
    exact ret_boolE (.inr rfl) ⟨_, retV_mv rfl, rfl⟩
  have h3' : ls.length ≤ 1048576 := by omega
  repeat (first | refine wG_call c1 rfl rfl ?_ | (first
    | refine wC_a rfl ?_
    | refine q_s rfl ?_
    | refine q_b rfl ?_
    | refine wG_nil ?_
    | refine wG_g rfl ?_
    | refine wG_pure (o_len_vwm rfl) ?_
    | refine wG_pure (o_not_d rfl) ?_
    | refine wG_p rfl (by first | exact rfl | omega) ?_
    | refine wG_pure (o_str2 rfl rfl rfl) ?_
    | refine wG_pure (e_istr rfl rfl (by omega)) ?_
    | refine wG_pure (e_istr0 rfl rfl (by omega)) ?_
    | refine wG_pure (o_not rfl) ?_
    | refine wG_pure (e_ia_vw0 rfl rfl (by omega) rfl) ?_
    | refine wG_pure (e_ia_vwp rfl rfl (by omega) rfl) ?_
    | refine wG_pure (e_ia_vwm rfl rfl (by omega) (by omega) rfl) ?_
    | refine wG_pure (e_ia_vwi rfl rfl (by omega) rfl) ?_
    | refine wG_pure (e_ia_vwn rfl rfl (by omega) (by omega) rfl) ?_
    | refine wG_n rfl rfl ?_
    | refine wG_u rfl rfl ?_
    | refine wG_new (o_mks rfl rfl (by omega) (by decide)) ?_))
  refine wC_cond_d rfl (fun h => ?_) (fun h => ?_)
  · repeat (first
    | refine wC_a rfl ?_
    | refine q_s rfl ?_
    | refine q_b rfl ?_
    | refine wG_nil ?_
    | refine wG_g rfl ?_
    | refine wG_pure (o_len_vwm rfl) ?_
    | refine wG_pure (o_not_d rfl) ?_
    | refine wG_p rfl (by first | exact rfl | omega) ?_
    | refine wG_pure (o_str2 rfl rfl rfl) ?_
    | refine wG_pure (e_istr rfl rfl (by omega)) ?_
    | refine wG_pure (e_istr0 rfl rfl (by omega)) ?_
    | refine wG_pure (o_not rfl) ?_
    | refine wG_pure (e_ia_vw0 rfl rfl (by omega) rfl) ?_
    | refine wG_pure (e_ia_vwp rfl rfl (by omega) rfl) ?_
    | refine wG_pure (e_ia_vwm rfl rfl (by omega) (by omega) rfl) ?_
    | refine wG_pure (e_ia_vwi rfl rfl (by omega) rfl) ?_
    | refine wG_pure (e_ia_vwn rfl rfl (by omega) (by omega) rfl) ?_
    | refine wG_n rfl rfl ?_
    | refine wG_u rfl rfl ?_
    | refine wG_new (o_mks rfl rfl (by omega) (by decide)) ?_)
    exact ret_boolE (.inr rfl) ⟨_, retV_mv rfl, rfl⟩
  obtain ⟨s1, s2, s3⟩ := szR_ok (Int.not_lt.1 h)
  have h1' : r.cs.length ≤ 1048576 := by omega
  have h2' : r.xs.length ≤ 1048576 := by omega
  have cT := con14 a b r h1' h2'
  have cE := con16 true true true true r h1' h2'
  have cZ := con22 nn ls h3'
  have cF := con24_same true true ls h3'
  have sR := fun h nr q1 q2 => @sh31 r 1 h1' h2' (by decide) (by decide) h nr q1 q2
  have sL := fun k h0 h1 h nr q => @sh32 ls k (by omega) h0 h1 h nr q
  have hdi : (∃ vs : List Int, vs.length ≤ 10 ∧ Con Try.prog 36 true [.agg (rRow true true r), .vw true (ls.map iRow)] (.tup [.sl 0 1 0 vs.length, .bool true, .bool true]) [vs.map iRow] ∧ Con Try.prog 37 true [.agg (rRow true true r), .vw true (ls.map iRow)] (.tup [.sl 0 1 0 vs.length, .bool true, .bool true]) [vs.map iRow]) ∨ ∃ p, Con Try.prog 36 true [.agg (rRow true true r), .vw true (ls.map iRow)] (.tup [.sl 0 1 0 0, .bool false, .bool p]) [([] : List Int).map iRow] ∧ Con Try.prog 37 true [.agg (rRow true true r), .vw true (ls.map iRow)] (.tup [.nilS, .bool false, .bool p]) [] := by
    by_cases hk : okS r ls
    · by_cases hx : rk r ls r.cs.length + 1 < cnt r.cs.length (later r) 0
      · have hlen := atL_len r (rk r ls r.cs.length + 1) r.cs.length
        have e : AV.sl 0 1 0 r.cs.length = AV.sl 0 1 0 (atL r (rk r ls r.cs.length + 1) r.cs.length).length := by rw [hlen]
        have g1 := con36_yes true true true r ls h1' h2' h3' hk hx
        have g2 := con37_yes true true true r ls h1' h2' h3' hk hx
        rw [e] at g1 g2
        exact .inl ⟨_, by rw [hlen]; exact hk.1.1.1, g1, g2⟩
      · exact .inr ⟨true, con36_end true true true r ls h1' h2' h3' hk hx, con37_end true true true r ls h1' h2' h3' hk hx⟩
    · exact .inr ⟨false, con36_no true true true r ls h1' h2' h3' hk, con37_no true true true r ls h1' h2' h3' hk⟩
  rcases hdi with ⟨vs, hv10, cS, cI⟩ | ⟨p, cS, cI⟩
  · have cQ := con24_same true true vs (by omega)
    have cH := con33 true vs.length 1 (by omega) (by decide) (by decide)
    have sV := fun h nr q => @sh32 vs 1 (by omega) (by decide) (by decide) h nr q
    repeat' (first
      | refine wC_dregE ?_ | refine wG_call2 cT rfl rfl ?_ | refine wE_call2 cT rfl rfl rfl ?_ | refine wG_call1 cZ rfl rfl ?_ | refine wE_call1 cZ rfl rfl rfl ?_ | refine wG_call1 cS (ag_rec rfl rfl rfl (ag_sl rfl rfl rfl iRow_plain ag_nil)) rfl ?_ | refine wG_call1 cI (ag_rec rfl rfl rfl (ag_sl rfl rfl rfl iRow_plain ag_nil)) rfl ?_ | refine wG_call cE (ag_rec rfl rfl rfl (ag_rec rfl rfl rfl ag_nil)) rfl ?_ | refine wE_call cE (ag_rec rfl rfl rfl (ag_rec rfl rfl rfl ag_nil)) rfl rfl ?_ | refine wG_call cQ (ag_sl rfl rfl rfl iRow_plain (ag_sl rfl rfl rfl iRow_plain ag_nil)) rfl ?_ | refine wG_call cF (ag_sl rfl rfl rfl iRow_plain (ag_sl rfl rfl rfl iRow_plain ag_nil)) rfl ?_ | refine wE_call cF (ag_sl rfl rfl rfl iRow_plain (ag_sl rfl rfl rfl iRow_plain ag_nil)) rfl rfl ?_ | refine wG_call cH (ag_sl rfl rfl (mks_len _ _).symm iRow_plain (ag_int rfl ag_nil)) rfl ?_
      | (refine wG_callS (f := 31) (sR _ _ _ _ rfl rfl (by decide) ?_) rfl ?_ <;> (repeat' (first | exact ltrI _ _ | exact ltrK _ _ | exact ltrX _ _ | exact wfH_nil | refine wfH_cons (by decide) ?_ ?_ | exact ltr_dec rfl)))
      | (refine wG_callS (f := 32) (sV _ _ _ rfl ?_) rfl ?_ <;> (repeat' (first | exact ltrI _ _ | exact ltrK _ _ | exact ltrX _ _ | exact wfH_nil | refine wfH_cons (by decide) ?_ ?_ | exact ltr_dec rfl)))
      | (refine wG_callS (f := 32) (sL _ (by omega) (by omega) _ _ _ rfl ?_) rfl ?_ <;> (repeat' (first | exact ltrI _ _ | exact ltrK _ _ | exact ltrX _ _ | exact wfH_nil | refine wfH_cons (by decide) ?_ ?_ | exact ltr_dec rfl)))
      | (first
    | refine wC_a rfl ?_
    | refine q_s rfl ?_
    | refine q_b rfl ?_
    | refine wG_nil ?_
    | refine wG_g rfl ?_
    | refine wG_pure (o_len_vwm rfl) ?_
    | refine wG_pure (o_not_d rfl) ?_
    | refine wG_p rfl (by first | exact rfl | omega) ?_
    | refine wG_pure (o_str2 rfl rfl rfl) ?_
    | refine wG_pure (e_istr rfl rfl (by omega)) ?_
    | refine wG_pure (e_istr0 rfl rfl (by omega)) ?_
    | refine wG_pure (o_not rfl) ?_
    | refine wG_pure (e_ia_vw0 rfl rfl (by omega) rfl) ?_
    | refine wG_pure (e_ia_vwp rfl rfl (by omega) rfl) ?_
    | refine wG_pure (e_ia_vwm rfl rfl (by omega) (by omega) rfl) ?_
    | refine wG_pure (e_ia_vwi rfl rfl (by omega) rfl) ?_
    | refine wG_pure (e_ia_vwn rfl rfl (by omega) (by omega) rfl) ?_
    | refine wG_n rfl rfl ?_
    | refine wG_u rfl rfl ?_
    | refine wG_new (o_mks rfl rfl (by omega) (by decide)) ?_) | (first
    | refine wE_nil (by kernel_rfl) ?_
    | refine wE_gy rfl ?_
    | refine wE_gn rfl rfl rfl ?_
    | refine wE_gu rfl rfl ?_
    | refine wE_gnn rfl rfl rfl ?_
    | refine wE_v (o_len_vwm rfl) rfl ?_
    | refine wE_v (o_not_d rfl) rfl ?_
    | refine wE_p rfl (by first | exact rfl | omega) rfl ?_
    | refine wE_v (o_str2 rfl rfl rfl) rfl ?_
    | refine wE_v (e_istr rfl rfl (by omega)) rfl ?_
    | refine wE_v (e_istr0 rfl rfl (by omega)) rfl ?_
    | refine wE_v (o_not rfl) rfl ?_
    | refine wE_v (e_ia_vw0 rfl rfl (by omega) rfl) rfl ?_
    | refine wE_v (e_ia_vwp rfl rfl (by omega) rfl) rfl ?_
    | refine wE_v (e_ia_vwm rfl rfl (by omega) (by omega) rfl) rfl ?_
    | refine wE_v (e_ia_vwi rfl rfl (by omega) rfl) rfl ?_
    | refine wE_v (e_ia_vwn rfl rfl (by omega) (by omega) rfl) rfl ?_
    | refine wE_n rfl rfl rfl ?_
    | refine wE_u rfl rfl rfl ?_
    | refine wE_new (o_mks rfl rfl (by omega) (by decide)) rfl ?_) | (refine wG_gd rfl (fun hgt => ?_) (fun hgf => ?_) <;> (first | simp only [eq_true hgt, decide_true] | simp only [eq_false hgf, decide_false])) | refine wC_cond_d rfl (fun hg => ?_) (fun hg => ?_))
    all_goals (first | exact ret_boolE (.inr rfl) ⟨_, retV_mv rfl, rfl⟩ | (exfalso; omega) | trace_state)
  · have cQ : Con Try.prog 24 true [.nilS, .vw true (([] : List Int).map iRow)] (.bool true) [] := con_nil (con24_same false true [] (by decide))
    have cH : Con Try.prog 33 true [.nilS, .int .i64 1] (.int .i64 1) [] := con_nil (con33 false 0 1 (by decide) (by decide) (by decide))
    have cM := con32_nil 1
    cases p
    all_goals (repeat' (first
      | refine wC_dregE ?_ | refine wG_call2 cT rfl rfl ?_ | refine wE_call2 cT rfl rfl rfl ?_ | refine wG_call1 cZ rfl rfl ?_ | refine wE_call1 cZ rfl rfl rfl ?_ | refine wG_call1 cS (ag_rec rfl rfl rfl (ag_sl rfl rfl rfl iRow_plain ag_nil)) rfl ?_ | refine wG_call cI (ag_rec rfl rfl rfl (ag_sl rfl rfl rfl iRow_plain ag_nil)) rfl ?_ | refine wG_call cE (ag_rec rfl rfl rfl (ag_rec rfl rfl rfl ag_nil)) rfl ?_ | refine wE_call cE (ag_rec rfl rfl rfl (ag_rec rfl rfl rfl ag_nil)) rfl rfl ?_ | refine wG_call cQ (ag_any rfl (ag_sl rfl rfl rfl iRow_plain ag_nil)) rfl ?_ | refine wG_call cF (ag_sl rfl rfl rfl iRow_plain (ag_sl rfl rfl rfl iRow_plain ag_nil)) rfl ?_ | refine wE_call cF (ag_sl rfl rfl rfl iRow_plain (ag_sl rfl rfl rfl iRow_plain ag_nil)) rfl rfl ?_ | refine wG_call cH rfl rfl ?_ | refine wG_call cM rfl rfl ?_
      | (refine wG_callS (f := 31) (sR _ _ _ _ rfl rfl (by decide) ?_) rfl ?_ <;> (repeat' (first | exact ltrI _ _ | exact ltrK _ _ | exact ltrX _ _ | exact ltrI [] _ | exact wfH_nil | refine wfH_cons (by decide) ?_ ?_ | exact ltr_dec rfl)))
      | (refine wG_callS (f := 32) (sL _ (by omega) (by omega) _ _ _ rfl ?_) rfl ?_ <;> (repeat' (first | exact ltrI _ _ | exact ltrK _ _ | exact ltrX _ _ | exact ltrI [] _ | exact wfH_nil | refine wfH_cons (by decide) ?_ ?_ | exact ltr_dec rfl)))
      | (first
    | refine wC_a rfl ?_
    | refine q_s rfl ?_
    | refine q_b rfl ?_
    | refine wG_nil ?_
    | refine wG_g rfl ?_
    | refine wG_pure (o_len_vwm rfl) ?_
    | refine wG_pure (o_not_d rfl) ?_
    | refine wG_p rfl (by first | exact rfl | omega) ?_
    | refine wG_pure (o_str2 rfl rfl rfl) ?_
    | refine wG_pure (e_istr rfl rfl (by omega)) ?_
    | refine wG_pure (e_istr0 rfl rfl (by omega)) ?_
    | refine wG_pure (o_not rfl) ?_
    | refine wG_pure (e_ia_vw0 rfl rfl (by omega) rfl) ?_
    | refine wG_pure (e_ia_vwp rfl rfl (by omega) rfl) ?_
    | refine wG_pure (e_ia_vwm rfl rfl (by omega) (by omega) rfl) ?_
    | refine wG_pure (e_ia_vwi rfl rfl (by omega) rfl) ?_
    | refine wG_pure (e_ia_vwn rfl rfl (by omega) (by omega) rfl) ?_
    | refine wG_n rfl rfl ?_
    | refine wG_u rfl rfl ?_
    | refine wG_new (o_mks rfl rfl (by omega) (by decide)) ?_) | (first
    | refine wE_nil (by kernel_rfl) ?_
    | refine wE_gy rfl ?_
    | refine wE_gn rfl rfl rfl ?_
    | refine wE_gu rfl rfl ?_
    | refine wE_gnn rfl rfl rfl ?_
    | refine wE_v (o_len_vwm rfl) rfl ?_
    | refine wE_v (o_not_d rfl) rfl ?_
    | refine wE_p rfl (by first | exact rfl | omega) rfl ?_
    | refine wE_v (o_str2 rfl rfl rfl) rfl ?_
    | refine wE_v (e_istr rfl rfl (by omega)) rfl ?_
    | refine wE_v (e_istr0 rfl rfl (by omega)) rfl ?_
    | refine wE_v (o_not rfl) rfl ?_
    | refine wE_v (e_ia_vw0 rfl rfl (by omega) rfl) rfl ?_
    | refine wE_v (e_ia_vwp rfl rfl (by omega) rfl) rfl ?_
    | refine wE_v (e_ia_vwm rfl rfl (by omega) (by omega) rfl) rfl ?_
    | refine wE_v (e_ia_vwi rfl rfl (by omega) rfl) rfl ?_
    | refine wE_v (e_ia_vwn rfl rfl (by omega) (by omega) rfl) rfl ?_
    | refine wE_n rfl rfl rfl ?_
    | refine wE_u rfl rfl rfl ?_
    | refine wE_new (o_mks rfl rfl (by omega) (by decide)) rfl ?_) | (refine wG_gd rfl (fun hgt => ?_) (fun hgf => ?_) <;> (first | simp only [eq_true hgt, decide_true] | simp only [eq_false hgf, decide_false])) | refine wC_cond_d rfl (fun hg => ?_) (fun hg => ?_)))
    all_goals (first | exact ret_boolE (.inr rfl) ⟨_, retV_mv rfl, rfl⟩ | (exfalso; omega) | trace_state)
end Go.Proofs.Ythicnjgdngfbkaa.Rec
