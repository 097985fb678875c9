/- Earliest and latest dates: both sides; the laws on tightened intervals, earliest and latest dates. -/
import Derived.Test.YthbpcnkifgoimaaEvdL
namespace Go.Proofs.Ythbpcnkifgoimaa.Rec
open Go Go.Proofs.Ythbpcnkifgoimaa.Ab Go.Proofs.Ythbpcnkifgoimaa.Il
attribute [local irreducible] wpO wpC wpDr wpQ wpG wpE stepA seqQ blkQ Ret RetG ev
set_option maxRecDepth 10000
set_option maxHeartbeats 8000000
set_option linter.unusedSimpArgs false
set_option linter.unusedVariables false

def ac8 : AC := (.seq (.reg [⟨(some 2), none, (.box 2 true (.t 0))⟩, ⟨(some 4), none, (.mv (.c (.bool false)))⟩]) (.seq (.reg [⟨(some 5), none, (.mv (.c (.int .i64 1048576)))⟩]) (.seq (.reg [⟨(some 17), none, (.ld true 2 (.t 2))⟩, ⟨(some 18), none, (.mv (.t 5))⟩, ⟨(some 19), none, (.call 12 [(.t 17), (.t 18)])⟩, ⟨(some 5), none, (.mv (.t 19))⟩]) (.seq (.seq (.reg [⟨(some 20), none, (.mv (.t 5))⟩, ⟨(some 21), none, (.bin .lss (.t 20) (.c (.int .i64 0)))⟩]) (.cond (.t 21) (.seq (.reg [⟨(some 4), none, (.mv (.c (.bool true)))⟩]) .ret) .skip)) (.seq (.reg [⟨(some 22), none, (.mv (.t 1))⟩, ⟨(some 23), none, (.mv (.t 5))⟩, ⟨(some 24), none, (.call 13 [(.t 22), (.t 23)])⟩, ⟨(some 5), none, (.mv (.t 24))⟩]) (.seq (.seq (.reg [⟨(some 25), none, (.mv (.t 5))⟩, ⟨(some 26), none, (.bin .lss (.t 25) (.c (.int .i64 0)))⟩]) (.cond (.t 26) (.seq (.reg [⟨(some 4), none, (.mv (.c (.bool true)))⟩]) .ret) .skip)) (.seq (.reg [⟨(some 28), none, (.ld true 2 (.t 2))⟩, ⟨(some 29), none, (.call 15 [(.t 28)])⟩, ⟨(some 30), none, (.mv (.t 1))⟩, ⟨(some 31), none, (.call 16 [(.t 30)])⟩, ⟨(some 32), none, (.call 36 [(.t 29), (.t 31)])⟩, ⟨(some 27), none, (.mv (.t 32))⟩, ⟨(some 33), none, (.ext (.t 27) 0)⟩, ⟨(some 34), none, (.ext (.t 27) 1)⟩, ⟨(some 6), none, (.mv (.t 33))⟩, ⟨(some 7), none, (.mv (.t 34))⟩]) (.seq (.reg [⟨(some 35), none, (.ld true 2 (.t 2))⟩, ⟨(some 36), none, (.call 15 [(.t 35)])⟩, ⟨(some 8), none, (.alloc [.nilS, .nilS])⟩, ⟨none, none, (.st 2 (.t 8) (.t 36))⟩]) (.seq (.reg [⟨(some 37), none, (.mv (.t 1))⟩, ⟨(some 38), none, (.call 16 [(.t 37)])⟩, ⟨(some 9), none, (.mv (.t 38))⟩]) (.seq (.reg [⟨(some 40), none, (.ld true 2 (.t 8))⟩, ⟨(some 41), none, (.mv (.t 9))⟩, ⟨(some 42), none, (.call 37 [(.t 40), (.t 41)])⟩, ⟨(some 39), none, (.mv (.t 42))⟩, ⟨(some 43), none, (.ext (.t 39) 0)⟩, ⟨(some 44), none, (.ext (.t 39) 1)⟩, ⟨(some 10), none, (.mv (.t 43))⟩, ⟨(some 11), none, (.mv (.t 44))⟩]) (.seq (.seq (.reg [⟨(some 45), none, (.mv (.t 10))⟩, ⟨(some 46), none, (.mv (.t 6))⟩, ⟨(some 47), none, (.call 38 [(.t 45), (.t 46)])⟩, ⟨(some 48), none, (.un .not (.t 47))⟩, ⟨(some 49), none, (.mv (.t 48))⟩, ⟨(some 50), (some (49, false)), (.mv (.t 11))⟩, ⟨(some 51), (some (49, false)), (.mv (.t 7))⟩, ⟨(some 52), (some (49, false)), (.bool2 true (.t 50) (.t 51))⟩, ⟨(some 53), none, (.pick (.t 49) (.c (.bool true)) (.t 52))⟩]) (.cond (.t 53) (.seq (.reg [⟨(some 4), none, (.mv (.c (.bool false)))⟩]) .ret) .skip)) (.seq (.seq (.dreg [⟨(some 54), none, (.ld true 2 (.t 8))⟩, ⟨(some 55), none, (.ld true 2 (.t 2))⟩, ⟨(some 56), none, (.call 15 [(.t 55)])⟩, ⟨(some 57), none, (.call 19 [(.t 54), (.t 56)])⟩, ⟨(some 58), none, (.un .not (.t 57))⟩] [[], [], [1], [0, 1, 2], [0, 1, 2, 3]]) (.cond (.t 58) (.seq (.reg [⟨(some 4), none, (.mv (.c (.bool false)))⟩]) .ret) .skip)) (.seq (.seq (.reg [⟨(some 59), none, (.mv (.t 9))⟩, ⟨(some 60), none, (.mv (.t 1))⟩, ⟨(some 61), none, (.call 16 [(.t 60)])⟩, ⟨(some 62), none, (.call 20 [(.t 59), (.t 61)])⟩, ⟨(some 63), none, (.un .not (.t 62))⟩]) (.cond (.t 63) (.seq (.reg [⟨(some 4), none, (.mv (.c (.bool false)))⟩]) .ret) .skip)) (.seq (.reg [⟨(some 12), none, (.mv (.c (.int .i64 1)))⟩]) (.seq (.reg [⟨(some 64), none, (.ld true 2 (.t 8))⟩, ⟨(some 65), none, (.mv (.t 12))⟩, ⟨(some 66), none, (.call 21 [(.t 64), (.t 65)])⟩, ⟨(some 12), none, (.mv (.t 66))⟩]) (.seq (.reg [⟨(some 67), none, (.mv (.t 9))⟩, ⟨(some 68), none, (.mv (.t 12))⟩, ⟨(some 69), none, (.call 22 [(.t 67), (.t 68)])⟩, ⟨(some 12), none, (.mv (.t 69))⟩]) (.seq (.seq (.reg [⟨(some 70), none, (.mv (.t 12))⟩, ⟨(some 71), none, (.bin .lss (.t 70) (.c (.int .i64 0)))⟩, ⟨(some 72), none, (.mv (.t 71))⟩, ⟨(some 73), (some (72, false)), (.mv (.t 10))⟩, ⟨(some 74), (some (72, false)), (.mv (.t 6))⟩, ⟨(some 75), (some (72, false)), (.call 38 [(.t 73), (.t 74)])⟩, ⟨(some 76), (some (72, false)), (.un .not (.t 75))⟩, ⟨(some 77), none, (.pick (.t 72) (.c (.bool true)) (.t 76))⟩, ⟨(some 78), none, (.mv (.t 77))⟩, ⟨(some 79), (some (78, false)), (.mv (.t 11))⟩, ⟨(some 80), (some (78, false)), (.mv (.t 7))⟩, ⟨(some 81), (some (78, false)), (.bool2 true (.t 79) (.t 80))⟩, ⟨(some 82), none, (.pick (.t 78) (.c (.bool true)) (.t 81))⟩]) (.cond (.t 82) (.seq (.reg [⟨(some 4), none, (.mv (.c (.bool false)))⟩]) .ret) .skip)) (.seq (.reg [⟨(some 13), none, (.mv (.c (.int .i64 1)))⟩]) (.seq (.reg [⟨(some 83), none, (.mv (.t 10))⟩, ⟨(some 84), none, (.mv (.t 13))⟩, ⟨(some 85), none, (.call 39 [(.t 83), (.t 84)])⟩, ⟨(some 13), none, (.mv (.t 85))⟩]) (.seq (.reg [⟨(some 14), none, (.mv (.c (.int .i64 1)))⟩]) (.seq (.reg [⟨(some 86), none, (.mv (.t 10))⟩, ⟨(some 87), none, (.mv (.t 14))⟩, ⟨(some 88), none, (.call 40 [(.t 86), (.t 87)])⟩, ⟨(some 14), none, (.mv (.t 88))⟩]) (.seq (.seq (.reg [⟨(some 89), none, (.mv (.t 14))⟩, ⟨(some 90), none, (.bin .lss (.t 89) (.c (.int .i64 0)))⟩]) (.cond (.t 90) (.seq (.reg [⟨(some 4), none, (.mv (.c (.bool false)))⟩]) .ret) .skip)) (.seq (.seq (.reg [⟨(some 91), none, (.mv (.t 14))⟩, ⟨(some 92), none, (.mv (.t 13))⟩, ⟨(some 93), none, (.bin .neq (.t 91) (.t 92))⟩]) (.cond (.t 93) (.seq (.reg [⟨(some 4), none, (.mv (.c (.bool false)))⟩]) .ret) .skip)) (.seq (.reg [⟨(some 95), none, (.ld true 2 (.t 2))⟩, ⟨(some 96), none, (.call 15 [(.t 95)])⟩, ⟨(some 97), none, (.mv (.t 1))⟩, ⟨(some 98), none, (.call 16 [(.t 97)])⟩, ⟨(some 99), none, (.call 37 [(.t 96), (.t 98)])⟩, ⟨(some 94), none, (.mv (.t 99))⟩, ⟨(some 100), none, (.ext (.t 94) 0)⟩, ⟨(some 101), none, (.ext (.t 94) 1)⟩, ⟨(some 15), none, (.mv (.t 100))⟩, ⟨(some 16), none, (.mv (.t 101))⟩]) (.seq (.seq (.reg [⟨(some 102), none, (.mv (.t 15))⟩, ⟨(some 103), none, (.mv (.t 6))⟩, ⟨(some 104), none, (.call 38 [(.t 102), (.t 103)])⟩, ⟨(some 105), none, (.un .not (.t 104))⟩, ⟨(some 106), none, (.mv (.t 105))⟩, ⟨(some 107), (some (106, false)), (.mv (.t 16))⟩, ⟨(some 108), (some (106, false)), (.mv (.t 7))⟩, ⟨(some 109), (some (106, false)), (.bool2 true (.t 107) (.t 108))⟩, ⟨(some 110), none, (.pick (.t 106) (.c (.bool true)) (.t 109))⟩]) (.cond (.t 110) (.seq (.reg [⟨(some 4), none, (.mv (.c (.bool false)))⟩]) .ret) .skip)) (.seq (.reg [⟨(some 14), none, (.mv (.c (.int .i64 1)))⟩]) (.seq (.reg [⟨(some 111), none, (.mv (.t 10))⟩, ⟨(some 112), none, (.mv (.t 14))⟩, ⟨(some 113), none, (.call 40 [(.t 111), (.t 112)])⟩, ⟨(some 14), none, (.mv (.t 113))⟩]) (.seq (.seq (.reg [⟨(some 114), none, (.mv (.t 14))⟩, ⟨(some 115), none, (.bin .lss (.t 114) (.c (.int .i64 0)))⟩]) (.cond (.t 115) (.seq (.reg [⟨(some 4), none, (.mv (.c (.bool false)))⟩]) .ret) .skip)) (.seq (.seq (.reg [⟨(some 116), none, (.mv (.t 14))⟩, ⟨(some 117), none, (.mv (.t 13))⟩, ⟨(some 118), none, (.bin .neq (.t 116) (.t 117))⟩]) (.cond (.t 118) (.seq (.reg [⟨(some 4), none, (.mv (.c (.bool false)))⟩]) .ret) .skip)) (.seq (.reg [⟨(some 4), none, (.mv (.c (.bool true)))⟩]) .ret))))))))))))))))))))))))))))))
def ro8 : List AOp := [(.mv (.t 4))]
theorem fun8 : Fun Try.prog 8 119 ac8 ro8 := ⟨Try.f8, _, Try.func8, by kernel_rfl, rfl, rfl, by kernel_rfl, by kernel_rfl, by decide⟩
def ac10 : AC := (.seq (.reg [⟨(some 2), none, (.box 2 true (.t 0))⟩, ⟨(some 4), none, (.mv (.c (.bool false)))⟩]) (.seq (.reg [⟨(some 5), none, (.mv (.c (.int .i64 1048576)))⟩]) (.seq (.reg [⟨(some 17), none, (.ld true 2 (.t 2))⟩, ⟨(some 18), none, (.mv (.t 5))⟩, ⟨(some 19), none, (.call 12 [(.t 17), (.t 18)])⟩, ⟨(some 5), none, (.mv (.t 19))⟩]) (.seq (.seq (.reg [⟨(some 20), none, (.mv (.t 5))⟩, ⟨(some 21), none, (.bin .lss (.t 20) (.c (.int .i64 0)))⟩]) (.cond (.t 21) (.seq (.reg [⟨(some 4), none, (.mv (.c (.bool true)))⟩]) .ret) .skip)) (.seq (.reg [⟨(some 22), none, (.mv (.t 1))⟩, ⟨(some 23), none, (.mv (.t 5))⟩, ⟨(some 24), none, (.call 13 [(.t 22), (.t 23)])⟩, ⟨(some 5), none, (.mv (.t 24))⟩]) (.seq (.seq (.reg [⟨(some 25), none, (.mv (.t 5))⟩, ⟨(some 26), none, (.bin .lss (.t 25) (.c (.int .i64 0)))⟩]) (.cond (.t 26) (.seq (.reg [⟨(some 4), none, (.mv (.c (.bool true)))⟩]) .ret) .skip)) (.seq (.reg [⟨(some 28), none, (.ld true 2 (.t 2))⟩, ⟨(some 29), none, (.call 15 [(.t 28)])⟩, ⟨(some 30), none, (.mv (.t 1))⟩, ⟨(some 31), none, (.call 16 [(.t 30)])⟩, ⟨(some 32), none, (.call 43 [(.t 29), (.t 31)])⟩, ⟨(some 27), none, (.mv (.t 32))⟩, ⟨(some 33), none, (.ext (.t 27) 0)⟩, ⟨(some 34), none, (.ext (.t 27) 1)⟩, ⟨(some 6), none, (.mv (.t 33))⟩, ⟨(some 7), none, (.mv (.t 34))⟩]) (.seq (.reg [⟨(some 35), none, (.ld true 2 (.t 2))⟩, ⟨(some 36), none, (.call 15 [(.t 35)])⟩, ⟨(some 8), none, (.alloc [.nilS, .nilS])⟩, ⟨none, none, (.st 2 (.t 8) (.t 36))⟩]) (.seq (.reg [⟨(some 37), none, (.mv (.t 1))⟩, ⟨(some 38), none, (.call 16 [(.t 37)])⟩, ⟨(some 9), none, (.mv (.t 38))⟩]) (.seq (.reg [⟨(some 40), none, (.ld true 2 (.t 8))⟩, ⟨(some 41), none, (.mv (.t 9))⟩, ⟨(some 42), none, (.call 44 [(.t 40), (.t 41)])⟩, ⟨(some 39), none, (.mv (.t 42))⟩, ⟨(some 43), none, (.ext (.t 39) 0)⟩, ⟨(some 44), none, (.ext (.t 39) 1)⟩, ⟨(some 10), none, (.mv (.t 43))⟩, ⟨(some 11), none, (.mv (.t 44))⟩]) (.seq (.seq (.reg [⟨(some 45), none, (.mv (.t 10))⟩, ⟨(some 46), none, (.mv (.t 6))⟩, ⟨(some 47), none, (.call 18 [(.t 45), (.t 46)])⟩, ⟨(some 48), none, (.un .not (.t 47))⟩, ⟨(some 49), none, (.mv (.t 48))⟩, ⟨(some 50), (some (49, false)), (.mv (.t 11))⟩, ⟨(some 51), (some (49, false)), (.mv (.t 7))⟩, ⟨(some 52), (some (49, false)), (.bool2 true (.t 50) (.t 51))⟩, ⟨(some 53), none, (.pick (.t 49) (.c (.bool true)) (.t 52))⟩]) (.cond (.t 53) (.seq (.reg [⟨(some 4), none, (.mv (.c (.bool false)))⟩]) .ret) .skip)) (.seq (.seq (.dreg [⟨(some 54), none, (.ld true 2 (.t 8))⟩, ⟨(some 55), none, (.ld true 2 (.t 2))⟩, ⟨(some 56), none, (.call 15 [(.t 55)])⟩, ⟨(some 57), none, (.call 19 [(.t 54), (.t 56)])⟩, ⟨(some 58), none, (.un .not (.t 57))⟩] [[], [], [1], [0, 1, 2], [0, 1, 2, 3]]) (.cond (.t 58) (.seq (.reg [⟨(some 4), none, (.mv (.c (.bool false)))⟩]) .ret) .skip)) (.seq (.seq (.reg [⟨(some 59), none, (.mv (.t 9))⟩, ⟨(some 60), none, (.mv (.t 1))⟩, ⟨(some 61), none, (.call 16 [(.t 60)])⟩, ⟨(some 62), none, (.call 20 [(.t 59), (.t 61)])⟩, ⟨(some 63), none, (.un .not (.t 62))⟩]) (.cond (.t 63) (.seq (.reg [⟨(some 4), none, (.mv (.c (.bool false)))⟩]) .ret) .skip)) (.seq (.reg [⟨(some 12), none, (.mv (.c (.int .i64 1)))⟩]) (.seq (.reg [⟨(some 64), none, (.ld true 2 (.t 8))⟩, ⟨(some 65), none, (.mv (.t 12))⟩, ⟨(some 66), none, (.call 21 [(.t 64), (.t 65)])⟩, ⟨(some 12), none, (.mv (.t 66))⟩]) (.seq (.reg [⟨(some 67), none, (.mv (.t 9))⟩, ⟨(some 68), none, (.mv (.t 12))⟩, ⟨(some 69), none, (.call 22 [(.t 67), (.t 68)])⟩, ⟨(some 12), none, (.mv (.t 69))⟩]) (.seq (.seq (.reg [⟨(some 70), none, (.mv (.t 12))⟩, ⟨(some 71), none, (.bin .lss (.t 70) (.c (.int .i64 0)))⟩, ⟨(some 72), none, (.mv (.t 71))⟩, ⟨(some 73), (some (72, false)), (.mv (.t 10))⟩, ⟨(some 74), (some (72, false)), (.mv (.t 6))⟩, ⟨(some 75), (some (72, false)), (.call 18 [(.t 73), (.t 74)])⟩, ⟨(some 76), (some (72, false)), (.un .not (.t 75))⟩, ⟨(some 77), none, (.pick (.t 72) (.c (.bool true)) (.t 76))⟩, ⟨(some 78), none, (.mv (.t 77))⟩, ⟨(some 79), (some (78, false)), (.mv (.t 11))⟩, ⟨(some 80), (some (78, false)), (.mv (.t 7))⟩, ⟨(some 81), (some (78, false)), (.bool2 true (.t 79) (.t 80))⟩, ⟨(some 82), none, (.pick (.t 78) (.c (.bool true)) (.t 81))⟩]) (.cond (.t 82) (.seq (.reg [⟨(some 4), none, (.mv (.c (.bool false)))⟩]) .ret) .skip)) (.seq (.reg [⟨(some 13), none, (.mv (.c (.int .i64 1)))⟩]) (.seq (.reg [⟨(some 83), none, (.mv (.t 10))⟩, ⟨(some 84), none, (.mv (.t 13))⟩, ⟨(some 85), none, (.call 23 [(.t 83), (.t 84)])⟩, ⟨(some 13), none, (.mv (.t 85))⟩]) (.seq (.reg [⟨(some 14), none, (.mv (.c (.int .i64 1)))⟩]) (.seq (.reg [⟨(some 86), none, (.mv (.t 10))⟩, ⟨(some 87), none, (.mv (.t 14))⟩, ⟨(some 88), none, (.call 24 [(.t 86), (.t 87)])⟩, ⟨(some 14), none, (.mv (.t 88))⟩]) (.seq (.seq (.reg [⟨(some 89), none, (.mv (.t 14))⟩, ⟨(some 90), none, (.bin .lss (.t 89) (.c (.int .i64 0)))⟩]) (.cond (.t 90) (.seq (.reg [⟨(some 4), none, (.mv (.c (.bool false)))⟩]) .ret) .skip)) (.seq (.seq (.reg [⟨(some 91), none, (.mv (.t 14))⟩, ⟨(some 92), none, (.mv (.t 13))⟩, ⟨(some 93), none, (.bin .neq (.t 91) (.t 92))⟩]) (.cond (.t 93) (.seq (.reg [⟨(some 4), none, (.mv (.c (.bool false)))⟩]) .ret) .skip)) (.seq (.reg [⟨(some 95), none, (.ld true 2 (.t 2))⟩, ⟨(some 96), none, (.call 15 [(.t 95)])⟩, ⟨(some 97), none, (.mv (.t 1))⟩, ⟨(some 98), none, (.call 16 [(.t 97)])⟩, ⟨(some 99), none, (.call 44 [(.t 96), (.t 98)])⟩, ⟨(some 94), none, (.mv (.t 99))⟩, ⟨(some 100), none, (.ext (.t 94) 0)⟩, ⟨(some 101), none, (.ext (.t 94) 1)⟩, ⟨(some 15), none, (.mv (.t 100))⟩, ⟨(some 16), none, (.mv (.t 101))⟩]) (.seq (.seq (.reg [⟨(some 102), none, (.mv (.t 15))⟩, ⟨(some 103), none, (.mv (.t 6))⟩, ⟨(some 104), none, (.call 18 [(.t 102), (.t 103)])⟩, ⟨(some 105), none, (.un .not (.t 104))⟩, ⟨(some 106), none, (.mv (.t 105))⟩, ⟨(some 107), (some (106, false)), (.mv (.t 16))⟩, ⟨(some 108), (some (106, false)), (.mv (.t 7))⟩, ⟨(some 109), (some (106, false)), (.bool2 true (.t 107) (.t 108))⟩, ⟨(some 110), none, (.pick (.t 106) (.c (.bool true)) (.t 109))⟩]) (.cond (.t 110) (.seq (.reg [⟨(some 4), none, (.mv (.c (.bool false)))⟩]) .ret) .skip)) (.seq (.reg [⟨(some 14), none, (.mv (.c (.int .i64 1)))⟩]) (.seq (.reg [⟨(some 111), none, (.mv (.t 10))⟩, ⟨(some 112), none, (.mv (.t 14))⟩, ⟨(some 113), none, (.call 24 [(.t 111), (.t 112)])⟩, ⟨(some 14), none, (.mv (.t 113))⟩]) (.seq (.seq (.reg [⟨(some 114), none, (.mv (.t 14))⟩, ⟨(some 115), none, (.bin .lss (.t 114) (.c (.int .i64 0)))⟩]) (.cond (.t 115) (.seq (.reg [⟨(some 4), none, (.mv (.c (.bool false)))⟩]) .ret) .skip)) (.seq (.seq (.reg [⟨(some 116), none, (.mv (.t 14))⟩, ⟨(some 117), none, (.mv (.t 13))⟩, ⟨(some 118), none, (.bin .neq (.t 116) (.t 117))⟩]) (.cond (.t 118) (.seq (.reg [⟨(some 4), none, (.mv (.c (.bool false)))⟩]) .ret) .skip)) (.seq (.reg [⟨(some 4), none, (.mv (.c (.bool true)))⟩]) .ret))))))))))))))))))))))))))))))
def ro10 : List AOp := [(.mv (.t 4))]
theorem fun10 : Fun Try.prog 10 119 ac10 ro10 := ⟨Try.f10, _, Try.func10, by kernel_rfl, rfl, rfl, by kernel_rfl, by kernel_rfl, by decide⟩
def ac11 : AC := (.seq (.reg [⟨(some 2), none, (.box 2 true (.t 0))⟩, ⟨(some 4), none, (.mv (.c (.bool false)))⟩]) (.seq (.reg [⟨(some 5), none, (.mv (.c (.int .i64 1048576)))⟩]) (.seq (.reg [⟨(some 17), none, (.ld true 2 (.t 2))⟩, ⟨(some 18), none, (.mv (.t 5))⟩, ⟨(some 19), none, (.call 12 [(.t 17), (.t 18)])⟩, ⟨(some 5), none, (.mv (.t 19))⟩]) (.seq (.seq (.reg [⟨(some 20), none, (.mv (.t 5))⟩, ⟨(some 21), none, (.bin .lss (.t 20) (.c (.int .i64 0)))⟩]) (.cond (.t 21) (.seq (.reg [⟨(some 4), none, (.mv (.c (.bool true)))⟩]) .ret) .skip)) (.seq (.reg [⟨(some 22), none, (.mv (.t 1))⟩, ⟨(some 23), none, (.mv (.t 5))⟩, ⟨(some 24), none, (.call 13 [(.t 22), (.t 23)])⟩, ⟨(some 5), none, (.mv (.t 24))⟩]) (.seq (.seq (.reg [⟨(some 25), none, (.mv (.t 5))⟩, ⟨(some 26), none, (.bin .lss (.t 25) (.c (.int .i64 0)))⟩]) (.cond (.t 26) (.seq (.reg [⟨(some 4), none, (.mv (.c (.bool true)))⟩]) .ret) .skip)) (.seq (.reg [⟨(some 28), none, (.ld true 2 (.t 2))⟩, ⟨(some 29), none, (.call 15 [(.t 28)])⟩, ⟨(some 30), none, (.mv (.t 1))⟩, ⟨(some 31), none, (.call 16 [(.t 30)])⟩, ⟨(some 32), none, (.call 45 [(.t 29), (.t 31)])⟩, ⟨(some 27), none, (.mv (.t 32))⟩, ⟨(some 33), none, (.ext (.t 27) 0)⟩, ⟨(some 34), none, (.ext (.t 27) 1)⟩, ⟨(some 6), none, (.mv (.t 33))⟩, ⟨(some 7), none, (.mv (.t 34))⟩]) (.seq (.reg [⟨(some 35), none, (.ld true 2 (.t 2))⟩, ⟨(some 36), none, (.call 15 [(.t 35)])⟩, ⟨(some 8), none, (.alloc [.nilS, .nilS])⟩, ⟨none, none, (.st 2 (.t 8) (.t 36))⟩]) (.seq (.reg [⟨(some 37), none, (.mv (.t 1))⟩, ⟨(some 38), none, (.call 16 [(.t 37)])⟩, ⟨(some 9), none, (.mv (.t 38))⟩]) (.seq (.reg [⟨(some 40), none, (.ld true 2 (.t 8))⟩, ⟨(some 41), none, (.mv (.t 9))⟩, ⟨(some 42), none, (.call 46 [(.t 40), (.t 41)])⟩, ⟨(some 39), none, (.mv (.t 42))⟩, ⟨(some 43), none, (.ext (.t 39) 0)⟩, ⟨(some 44), none, (.ext (.t 39) 1)⟩, ⟨(some 10), none, (.mv (.t 43))⟩, ⟨(some 11), none, (.mv (.t 44))⟩]) (.seq (.seq (.reg [⟨(some 45), none, (.mv (.t 10))⟩, ⟨(some 46), none, (.mv (.t 6))⟩, ⟨(some 47), none, (.call 18 [(.t 45), (.t 46)])⟩, ⟨(some 48), none, (.un .not (.t 47))⟩, ⟨(some 49), none, (.mv (.t 48))⟩, ⟨(some 50), (some (49, false)), (.mv (.t 11))⟩, ⟨(some 51), (some (49, false)), (.mv (.t 7))⟩, ⟨(some 52), (some (49, false)), (.bool2 true (.t 50) (.t 51))⟩, ⟨(some 53), none, (.pick (.t 49) (.c (.bool true)) (.t 52))⟩]) (.cond (.t 53) (.seq (.reg [⟨(some 4), none, (.mv (.c (.bool false)))⟩]) .ret) .skip)) (.seq (.seq (.dreg [⟨(some 54), none, (.ld true 2 (.t 8))⟩, ⟨(some 55), none, (.ld true 2 (.t 2))⟩, ⟨(some 56), none, (.call 15 [(.t 55)])⟩, ⟨(some 57), none, (.call 19 [(.t 54), (.t 56)])⟩, ⟨(some 58), none, (.un .not (.t 57))⟩] [[], [], [1], [0, 1, 2], [0, 1, 2, 3]]) (.cond (.t 58) (.seq (.reg [⟨(some 4), none, (.mv (.c (.bool false)))⟩]) .ret) .skip)) (.seq (.seq (.reg [⟨(some 59), none, (.mv (.t 9))⟩, ⟨(some 60), none, (.mv (.t 1))⟩, ⟨(some 61), none, (.call 16 [(.t 60)])⟩, ⟨(some 62), none, (.call 20 [(.t 59), (.t 61)])⟩, ⟨(some 63), none, (.un .not (.t 62))⟩]) (.cond (.t 63) (.seq (.reg [⟨(some 4), none, (.mv (.c (.bool false)))⟩]) .ret) .skip)) (.seq (.reg [⟨(some 12), none, (.mv (.c (.int .i64 1)))⟩]) (.seq (.reg [⟨(some 64), none, (.ld true 2 (.t 8))⟩, ⟨(some 65), none, (.mv (.t 12))⟩, ⟨(some 66), none, (.call 21 [(.t 64), (.t 65)])⟩, ⟨(some 12), none, (.mv (.t 66))⟩]) (.seq (.reg [⟨(some 67), none, (.mv (.t 9))⟩, ⟨(some 68), none, (.mv (.t 12))⟩, ⟨(some 69), none, (.call 22 [(.t 67), (.t 68)])⟩, ⟨(some 12), none, (.mv (.t 69))⟩]) (.seq (.seq (.reg [⟨(some 70), none, (.mv (.t 12))⟩, ⟨(some 71), none, (.bin .lss (.t 70) (.c (.int .i64 0)))⟩, ⟨(some 72), none, (.mv (.t 71))⟩, ⟨(some 73), (some (72, false)), (.mv (.t 10))⟩, ⟨(some 74), (some (72, false)), (.mv (.t 6))⟩, ⟨(some 75), (some (72, false)), (.call 18 [(.t 73), (.t 74)])⟩, ⟨(some 76), (some (72, false)), (.un .not (.t 75))⟩, ⟨(some 77), none, (.pick (.t 72) (.c (.bool true)) (.t 76))⟩, ⟨(some 78), none, (.mv (.t 77))⟩, ⟨(some 79), (some (78, false)), (.mv (.t 11))⟩, ⟨(some 80), (some (78, false)), (.mv (.t 7))⟩, ⟨(some 81), (some (78, false)), (.bool2 true (.t 79) (.t 80))⟩, ⟨(some 82), none, (.pick (.t 78) (.c (.bool true)) (.t 81))⟩]) (.cond (.t 82) (.seq (.reg [⟨(some 4), none, (.mv (.c (.bool false)))⟩]) .ret) .skip)) (.seq (.reg [⟨(some 13), none, (.mv (.c (.int .i64 1)))⟩]) (.seq (.reg [⟨(some 83), none, (.mv (.t 10))⟩, ⟨(some 84), none, (.mv (.t 13))⟩, ⟨(some 85), none, (.call 23 [(.t 83), (.t 84)])⟩, ⟨(some 13), none, (.mv (.t 85))⟩]) (.seq (.reg [⟨(some 14), none, (.mv (.c (.int .i64 1)))⟩]) (.seq (.reg [⟨(some 86), none, (.mv (.t 10))⟩, ⟨(some 87), none, (.mv (.t 14))⟩, ⟨(some 88), none, (.call 24 [(.t 86), (.t 87)])⟩, ⟨(some 14), none, (.mv (.t 88))⟩]) (.seq (.seq (.reg [⟨(some 89), none, (.mv (.t 14))⟩, ⟨(some 90), none, (.bin .lss (.t 89) (.c (.int .i64 0)))⟩]) (.cond (.t 90) (.seq (.reg [⟨(some 4), none, (.mv (.c (.bool false)))⟩]) .ret) .skip)) (.seq (.seq (.reg [⟨(some 91), none, (.mv (.t 14))⟩, ⟨(some 92), none, (.mv (.t 13))⟩, ⟨(some 93), none, (.bin .neq (.t 91) (.t 92))⟩]) (.cond (.t 93) (.seq (.reg [⟨(some 4), none, (.mv (.c (.bool false)))⟩]) .ret) .skip)) (.seq (.reg [⟨(some 95), none, (.ld true 2 (.t 2))⟩, ⟨(some 96), none, (.call 15 [(.t 95)])⟩, ⟨(some 97), none, (.mv (.t 1))⟩, ⟨(some 98), none, (.call 16 [(.t 97)])⟩, ⟨(some 99), none, (.call 46 [(.t 96), (.t 98)])⟩, ⟨(some 94), none, (.mv (.t 99))⟩, ⟨(some 100), none, (.ext (.t 94) 0)⟩, ⟨(some 101), none, (.ext (.t 94) 1)⟩, ⟨(some 15), none, (.mv (.t 100))⟩, ⟨(some 16), none, (.mv (.t 101))⟩]) (.seq (.seq (.reg [⟨(some 102), none, (.mv (.t 15))⟩, ⟨(some 103), none, (.mv (.t 6))⟩, ⟨(some 104), none, (.call 18 [(.t 102), (.t 103)])⟩, ⟨(some 105), none, (.un .not (.t 104))⟩, ⟨(some 106), none, (.mv (.t 105))⟩, ⟨(some 107), (some (106, false)), (.mv (.t 16))⟩, ⟨(some 108), (some (106, false)), (.mv (.t 7))⟩, ⟨(some 109), (some (106, false)), (.bool2 true (.t 107) (.t 108))⟩, ⟨(some 110), none, (.pick (.t 106) (.c (.bool true)) (.t 109))⟩]) (.cond (.t 110) (.seq (.reg [⟨(some 4), none, (.mv (.c (.bool false)))⟩]) .ret) .skip)) (.seq (.reg [⟨(some 14), none, (.mv (.c (.int .i64 1)))⟩]) (.seq (.reg [⟨(some 111), none, (.mv (.t 10))⟩, ⟨(some 112), none, (.mv (.t 14))⟩, ⟨(some 113), none, (.call 24 [(.t 111), (.t 112)])⟩, ⟨(some 14), none, (.mv (.t 113))⟩]) (.seq (.seq (.reg [⟨(some 114), none, (.mv (.t 14))⟩, ⟨(some 115), none, (.bin .lss (.t 114) (.c (.int .i64 0)))⟩]) (.cond (.t 115) (.seq (.reg [⟨(some 4), none, (.mv (.c (.bool false)))⟩]) .ret) .skip)) (.seq (.seq (.reg [⟨(some 116), none, (.mv (.t 14))⟩, ⟨(some 117), none, (.mv (.t 13))⟩, ⟨(some 118), none, (.bin .neq (.t 116) (.t 117))⟩]) (.cond (.t 118) (.seq (.reg [⟨(some 4), none, (.mv (.c (.bool false)))⟩]) .ret) .skip)) (.seq (.reg [⟨(some 4), none, (.mv (.c (.bool true)))⟩]) .ret))))))))))))))))))))))))))))))
def ro11 : List AOp := [(.mv (.t 4))]
theorem fun11 : Fun Try.prog 11 119 ac11 ro11 := ⟨Try.f11, _, Try.func11, by kernel_rfl, rfl, rfl, by kernel_rfl, by kernel_rfl, by decide⟩
def ac43 : AC := (.seq (.reg [⟨(some 2), none, (.box 2 true (.t 0))⟩, ⟨(some 4), none, (.mv (.c .nilS))⟩, ⟨(some 5), none, (.mv (.c (.bool false)))⟩]) (.seq (.reg [⟨(some 10), none, (.bsl 1 [(.int .i64 0)] 0 [])⟩, ⟨(some 6), none, (.mv (.t 10))⟩]) (.seq (.reg [⟨(some 12), none, (.ld true 2 (.t 2))⟩, ⟨(some 13), none, (.mv (.t 1))⟩, ⟨(some 14), none, (.call 36 [(.t 12), (.t 13)])⟩, ⟨(some 11), none, (.mv (.t 14))⟩, ⟨(some 15), none, (.ext (.t 11) 0)⟩, ⟨(some 16), none, (.ext (.t 11) 1)⟩, ⟨(some 7), none, (.mv (.t 15))⟩, ⟨(some 8), none, (.mv (.t 16))⟩]) (.seq (.seq (.reg [⟨(some 9), none, (.mv (.c (.int .i64 0)))⟩]) (.blk 0 (.loop (.seq (.seq (.reg [⟨(some 17), none, (.mv (.t 9))⟩, ⟨(some 18), none, (.mv (.t 7))⟩, ⟨(some 19), none, (.len (.t 18))⟩, ⟨(some 20), none, (.bin .lss (.t 17) (.t 19))⟩]) (.cond (.t 20) .skip (.exit 0))) (.seq (.blk 1 (.reg [⟨(some 23), none, (.mv (.t 6))⟩, ⟨(some 24), none, (.mv (.t 7))⟩, ⟨(some 25), none, (.mv (.t 9))⟩, ⟨(some 26), none, (.ia 2 (.t 24) (.t 25))⟩, ⟨(some 27), none, (.fa 0 (.t 26))⟩, ⟨(some 28), none, (.ld false 1 (.t 27))⟩, ⟨(some 29), none, (.bsl 1 [(.int .i64 0)] 1 [(0, (.t 28))])⟩, ⟨(some 30), none, (.app 1 8 [(.int .i64 0)] (.t 23) (.t 29))⟩, ⟨(some 6), none, (.mv (.t 30))⟩])) (.reg [⟨(some 21), none, (.mv (.t 9))⟩, ⟨(some 22), none, (.bin .add (.t 21) (.c (.int .i64 1)))⟩, ⟨(some 9), none, (.mv (.t 22))⟩])))))) (.seq (.reg [⟨(some 31), none, (.mv (.t 6))⟩, ⟨(some 32), none, (.mv (.t 8))⟩, ⟨(some 4), none, (.mv (.t 31))⟩, ⟨(some 5), none, (.mv (.t 32))⟩]) .ret)))))
def ro43 : List AOp := [(.mv (.t 4)), (.mv (.t 5))]
theorem fun43 : Fun Try.prog 43 33 ac43 ro43 := ⟨Try.f43, _, Try.func43, by kernel_rfl, rfl, rfl, by kernel_rfl, by kernel_rfl, by decide⟩
def ac44 : AC := (.seq (.reg [⟨(some 2), none, (.box 2 true (.t 0))⟩, ⟨(some 4), none, (.mv (.c .nilS))⟩, ⟨(some 5), none, (.mv (.c (.bool false)))⟩]) (.seq (.reg [⟨(some 9), none, (.ld true 2 (.t 2))⟩, ⟨(some 10), none, (.mv (.t 1))⟩, ⟨(some 11), none, (.call 37 [(.t 9), (.t 10)])⟩, ⟨(some 8), none, (.mv (.t 11))⟩, ⟨(some 12), none, (.ext (.t 8) 0)⟩, ⟨(some 13), none, (.ext (.t 8) 1)⟩, ⟨(some 6), none, (.mv (.t 12))⟩, ⟨(some 7), none, (.mv (.t 13))⟩]) (.seq (.seq (.reg [⟨(some 14), none, (.mv (.t 7))⟩, ⟨(some 15), none, (.un .not (.t 14))⟩]) (.cond (.t 15) (.seq (.reg [⟨(some 4), none, (.mv (.c .nilS))⟩, ⟨(some 5), none, (.mv (.c (.bool false)))⟩]) .ret) .skip)) (.seq (.reg [⟨(some 16), none, (.mv (.t 6))⟩, ⟨(some 17), none, (.call 85 [(.t 16), (.c (.fn 86 []))])⟩, ⟨(some 4), none, (.mv (.t 17))⟩, ⟨(some 5), none, (.mv (.c (.bool true)))⟩]) .ret))))
def ro44 : List AOp := [(.mv (.t 4)), (.mv (.t 5))]
theorem fun44 : Fun Try.prog 44 18 ac44 ro44 := ⟨Try.f44, _, Try.func44, by kernel_rfl, rfl, rfl, by kernel_rfl, by kernel_rfl, by decide⟩
def ac45 : AC := (.seq (.reg [⟨(some 2), none, (.box 2 true (.t 0))⟩, ⟨(some 4), none, (.mv (.c .nilS))⟩, ⟨(some 5), none, (.mv (.c (.bool false)))⟩]) (.seq (.reg [⟨(some 10), none, (.bsl 1 [(.int .i64 0)] 0 [])⟩, ⟨(some 6), none, (.mv (.t 10))⟩]) (.seq (.reg [⟨(some 12), none, (.ld true 2 (.t 2))⟩, ⟨(some 13), none, (.mv (.t 1))⟩, ⟨(some 14), none, (.call 36 [(.t 12), (.t 13)])⟩, ⟨(some 11), none, (.mv (.t 14))⟩, ⟨(some 15), none, (.ext (.t 11) 0)⟩, ⟨(some 16), none, (.ext (.t 11) 1)⟩, ⟨(some 7), none, (.mv (.t 15))⟩, ⟨(some 8), none, (.mv (.t 16))⟩]) (.seq (.seq (.reg [⟨(some 9), none, (.mv (.c (.int .i64 0)))⟩]) (.blk 0 (.loop (.seq (.seq (.reg [⟨(some 17), none, (.mv (.t 9))⟩, ⟨(some 18), none, (.mv (.t 7))⟩, ⟨(some 19), none, (.len (.t 18))⟩, ⟨(some 20), none, (.bin .lss (.t 17) (.t 19))⟩]) (.cond (.t 20) .skip (.exit 0))) (.seq (.blk 1 (.reg [⟨(some 23), none, (.mv (.t 6))⟩, ⟨(some 24), none, (.mv (.t 7))⟩, ⟨(some 25), none, (.mv (.t 9))⟩, ⟨(some 26), none, (.ia 2 (.t 24) (.t 25))⟩, ⟨(some 27), none, (.fa 1 (.t 26))⟩, ⟨(some 28), none, (.ld false 1 (.t 27))⟩, ⟨(some 29), none, (.bsl 1 [(.int .i64 0)] 1 [(0, (.t 28))])⟩, ⟨(some 30), none, (.app 1 8 [(.int .i64 0)] (.t 23) (.t 29))⟩, ⟨(some 6), none, (.mv (.t 30))⟩])) (.reg [⟨(some 21), none, (.mv (.t 9))⟩, ⟨(some 22), none, (.bin .add (.t 21) (.c (.int .i64 1)))⟩, ⟨(some 9), none, (.mv (.t 22))⟩])))))) (.seq (.reg [⟨(some 31), none, (.mv (.t 6))⟩, ⟨(some 32), none, (.mv (.t 8))⟩, ⟨(some 4), none, (.mv (.t 31))⟩, ⟨(some 5), none, (.mv (.t 32))⟩]) .ret)))))
def ro45 : List AOp := [(.mv (.t 4)), (.mv (.t 5))]
theorem fun45 : Fun Try.prog 45 33 ac45 ro45 := ⟨Try.f45, _, Try.func45, by kernel_rfl, rfl, rfl, by kernel_rfl, by kernel_rfl, by decide⟩
def ac46 : AC := (.seq (.reg [⟨(some 2), none, (.box 2 true (.t 0))⟩, ⟨(some 4), none, (.mv (.c .nilS))⟩, ⟨(some 5), none, (.mv (.c (.bool false)))⟩]) (.seq (.reg [⟨(some 9), none, (.ld true 2 (.t 2))⟩, ⟨(some 10), none, (.mv (.t 1))⟩, ⟨(some 11), none, (.call 37 [(.t 9), (.t 10)])⟩, ⟨(some 8), none, (.mv (.t 11))⟩, ⟨(some 12), none, (.ext (.t 8) 0)⟩, ⟨(some 13), none, (.ext (.t 8) 1)⟩, ⟨(some 6), none, (.mv (.t 12))⟩, ⟨(some 7), none, (.mv (.t 13))⟩]) (.seq (.seq (.reg [⟨(some 14), none, (.mv (.t 7))⟩, ⟨(some 15), none, (.un .not (.t 14))⟩]) (.cond (.t 15) (.seq (.reg [⟨(some 4), none, (.mv (.c .nilS))⟩, ⟨(some 5), none, (.mv (.c (.bool false)))⟩]) .ret) .skip)) (.seq (.reg [⟨(some 16), none, (.mv (.t 6))⟩, ⟨(some 17), none, (.call 85 [(.t 16), (.c (.fn 87 []))])⟩, ⟨(some 4), none, (.mv (.t 17))⟩, ⟨(some 5), none, (.mv (.c (.bool true)))⟩]) .ret))))
def ro46 : List AOp := [(.mv (.t 4)), (.mv (.t 5))]
theorem fun46 : Fun Try.prog 46 18 ac46 ro46 := ⟨Try.f46, _, Try.func46, by kernel_rfl, rfl, rfl, by kernel_rfl, by kernel_rfl, by decide⟩
def ac85 : AC := (.seq (.reg [⟨(some 4), none, (.mv (.c .nilS))⟩]) (.seq (.reg [⟨(some 8), none, (.bsl 1 [(.int .i64 0)] 0 [])⟩, ⟨(some 5), none, (.mv (.t 8))⟩]) (.seq (.seq (.reg [⟨(some 9), none, (.mv (.t 0))⟩, ⟨(some 10), none, (.len (.t 9))⟩, ⟨(some 11), none, (.mv (.c (.int .i64 0)))⟩]) (.blk 0 (.loop (.seq (.reg [⟨(some 12), none, (.bin .lss (.t 11) (.t 10))⟩]) (.seq (.cond (.t 12) .skip (.exit 0)) (.seq (.blk 1 (.seq (.reg [⟨(some 13), none, (.ia 2 (.t 9) (.t 11))⟩, ⟨(some 14), none, (.ld true 2 (.t 13))⟩, ⟨(some 7), none, (.alloc [(.int .i64 0), (.int .i64 0)])⟩, ⟨none, none, (.st 2 (.t 7) (.t 14))⟩]) (.reg [⟨(some 15), none, (.mv (.t 5))⟩, ⟨(some 16), none, (.mv (.t 1))⟩, ⟨(some 17), none, (.ld true 2 (.t 7))⟩, ⟨(some 18), none, (.callv (.t 16) [(.t 17)])⟩, ⟨(some 19), none, (.bsl 1 [(.int .i64 0)] 1 [(0, (.t 18))])⟩, ⟨(some 20), none, (.app 1 8 [(.int .i64 0)] (.t 15) (.t 19))⟩, ⟨(some 5), none, (.mv (.t 20))⟩]))) (.reg [⟨(some 21), none, (.bin .add (.t 11) (.c (.int .i64 1)))⟩, ⟨(some 11), none, (.mv (.t 21))⟩]))))))) (.seq (.reg [⟨(some 22), none, (.mv (.t 5))⟩, ⟨(some 4), none, (.mv (.t 22))⟩]) .ret))))
def ro85 : List AOp := [(.mv (.t 4))]
theorem fun85 : Fun Try.prog 85 23 ac85 ro85 := ⟨Try.f85, _, Try.func85, by kernel_rfl, rfl, rfl, by kernel_rfl, by kernel_rfl, by decide⟩
def ac86 : AC := (.seq (.reg [⟨(some 1), none, (.box 2 true (.t 0))⟩, ⟨(some 2), none, (.mv (.c (.int .i64 0)))⟩]) (.seq (.reg [⟨(some 3), none, (.fa 0 (.t 1))⟩, ⟨(some 4), none, (.ld false 1 (.t 3))⟩, ⟨(some 2), none, (.mv (.t 4))⟩]) .ret))
def ro86 : List AOp := [(.mv (.t 2))]
theorem fun86 : Fun Try.prog 86 5 ac86 ro86 := ⟨Try.f86, _, Try.func86, by kernel_rfl, rfl, rfl, by kernel_rfl, by kernel_rfl, by decide⟩
def ac87 : AC := (.seq (.reg [⟨(some 1), none, (.box 2 true (.t 0))⟩, ⟨(some 2), none, (.mv (.c (.int .i64 0)))⟩]) (.seq (.reg [⟨(some 3), none, (.fa 1 (.t 1))⟩, ⟨(some 4), none, (.ld false 1 (.t 3))⟩, ⟨(some 2), none, (.mv (.t 4))⟩]) .ret))
def ro87 : List AOp := [(.mv (.t 2))]
theorem fun87 : Fun Try.prog 87 5 ac87 ro87 := ⟨Try.f87, _, Try.func87, by kernel_rfl, rfl, rfl, by kernel_rfl, by kernel_rfl, by decide⟩

theorem ltrT (ws : List Dt) (m : Nat) : ∀ row ∈ ws.map tRow, ∀ x ∈ row, AV.ltr m x = true := by
  refine rows_ltr _ m fun row hr x hx => ?_
  obtain ⟨p, _, rfl⟩ := List.mem_map.1 hr
  exact tRow_plain p x hx
theorem take_g {g : Iv → Int} {ws : List Iv} {i : Nat} (h : i < ws.length) : (ws.take (i + 1)).map g = (ws.take i).map g ++ [g (ws.getD i default)] := by
  rw [List.take_add_one, List.map_append, List.getElem?_eq_getElem h]
  simp [List.getD_eq_getElem?_getD, List.getElem?_eq_getElem h]
theorem take_l {g : Iv → Int} {ws : List Iv} {i : Nat} (h : i ≤ ws.length) : ((ws.take i).map g).length = i := by simp; omega
theorem vGet {ws : List Iv} {i : Nat} (h : i < ws.length) : (ws.map vRow)[i]? = some (vRow (ws.getD i default)) := by
  simp [List.getElem?_map, List.getElem?_eq_getElem h, List.getD_eq_getElem?_getD]
theorem con43 (a b nn p : Bool) (r : Rc) (es : List Dt) (ws : List Iv) (hl : ws.length ≤ 1048576) (cP : Con Try.prog 36 true [.agg (rRow a b r), .vw nn (es.map tRow)] (.tup [.sl 0 2 0 ws.length, .bool p]) [ws.map vRow]) : Con Try.prog 43 true [.agg (rRow a b r), .vw nn (es.map tRow)] (.tup [.sl 0 1 0 ws.length, .bool p]) [(ws.map fun x => x.f).map iRow] := by
  refine con_of_wp mixed fun43 (by simp) [1] (plain_map iRow_plain _) ?_
  unfold ac43 ro43
  simp only [zipT]
  have e0 : ∀ n : Nat, 0 + ((n : Int)).toNat = n := fun n => by simp
  repeat (first | refine wG_call1 cP rfl rfl ?_ | (first
    | refine wC_a rfl ?_
    | refine q_s rfl ?_
    | refine q_b rfl ?_
    | refine wG_nil ?_
    | refine wG_g rfl ?_
    | refine wG_pure (o_len_vwm rfl) ?_
    | refine wG_pure (o_not_d rfl) ?_
    | refine wG_p rfl (by first | exact rfl | omega) ?_
    | refine wG_pure (o_str2 rfl rfl rfl) ?_
    | refine wG_pure (e_istr rfl rfl (by omega)) ?_
    | refine wG_pure (e_istr0 rfl rfl (by omega)) ?_
    | refine wG_pure (o_not rfl) ?_
    | refine wG_pure (e_ia_vw0 rfl rfl (by omega) rfl) ?_
    | refine wG_pure (e_ia_vwp rfl rfl (by omega) rfl) ?_
    | refine wG_pure (e_ia_vwm rfl rfl (by omega) (by omega) rfl) ?_
    | refine wG_pure (e_ia_vwi rfl rfl (by omega) rfl) ?_
    | refine wG_pure (e_ia_vwn rfl rfl (by omega) (by omega) rfl) ?_
    | refine wG_n rfl rfl ?_
    | refine wG_u rfl rfl ?_
    | refine wG_new (o_mks rfl rfl (by omega) (by decide)) ?_))
  refine wC_loopR Nat (fun i => ⟨[(6, .sl 1 1 0 ((ws.take i).map fun x => x.f).length), (7, .sl 0 2 0 ws.length), (8, .bool p), (9, .int .i64 (i : Int))], [(1, some (((ws.take i).map fun x => x.f).map iRow)), (0, some (ws.map vRow))], 2⟩) (fun i => i ≤ ws.length) (fun i => ws.length - i) 0 (Nat.zero_le _) ⟨[2, 1], ?_⟩ ?_
  · exact ⟨⟨⟨rfl, rfl⟩, ⟨rfl, rfl⟩, ⟨rfl, rfl⟩, ⟨rfl, rfl⟩, trivial⟩, ⟨⟨⟨_, rfl, rfl⟩, (by show 1 < 2; decide), ltrI _ _⟩, ⟨⟨_, rfl, rn_rows (vRows_plain _)⟩, (by show 0 < 2; decide), ltrV _ _⟩, trivial⟩, rfl, by decide⟩
  intro i hi
  have hli := take_l (g := fun x => x.f) hi
  repeat (first
    | refine wC_a rfl ?_
    | refine q_s rfl ?_
    | refine q_b rfl ?_
    | refine wG_nil ?_
    | refine wG_g rfl ?_
    | refine wG_pure (o_len_vwm rfl) ?_
    | refine wG_pure (o_not_d rfl) ?_
    | refine wG_p rfl (by first | exact rfl | omega) ?_
    | refine wG_pure (o_str2 rfl rfl rfl) ?_
    | refine wG_pure (e_istr rfl rfl (by omega)) ?_
    | refine wG_pure (e_istr0 rfl rfl (by omega)) ?_
    | refine wG_pure (o_not rfl) ?_
    | refine wG_pure (e_ia_vw0 rfl rfl (by omega) rfl) ?_
    | refine wG_pure (e_ia_vwp rfl rfl (by omega) rfl) ?_
    | refine wG_pure (e_ia_vwm rfl rfl (by omega) (by omega) rfl) ?_
    | refine wG_pure (e_ia_vwi rfl rfl (by omega) rfl) ?_
    | refine wG_pure (e_ia_vwn rfl rfl (by omega) (by omega) rfl) ?_
    | refine wG_n rfl rfl ?_
    | refine wG_u rfl rfl ?_
    | refine wG_new (o_mks rfl rfl (by omega) (by decide)) ?_)
  refine wC_cond_d rfl (fun h2 => ?_) (fun h2 => ?_)
  · have hi2 : i < ws.length := by omega
    have hgi := vGet hi2
    have hs := take_g (g := fun x => x.f) hi2
    repeat (first | refine wG_app rfl rfl (by simp) (rows_sl rfl rfl rfl) (by simp) (by simp; omega) (by decide) ?_ | (refine wG_pure (e_ia_sl rfl rfl (by omega) (by omega)) ?_; simp only [e0]) | refine wG_pure (o_ldf_pt rfl rfl hgi rfl) ?_ | (first
    | refine wC_a rfl ?_
    | refine q_s rfl ?_
    | refine q_b rfl ?_
    | refine wG_nil ?_
    | refine wG_g rfl ?_
    | refine wG_pure (o_len_vwm rfl) ?_
    | refine wG_pure (o_not_d rfl) ?_
    | refine wG_p rfl (by first | exact rfl | omega) ?_
    | refine wG_pure (o_str2 rfl rfl rfl) ?_
    | refine wG_pure (e_istr rfl rfl (by omega)) ?_
    | refine wG_pure (e_istr0 rfl rfl (by omega)) ?_
    | refine wG_pure (o_not rfl) ?_
    | refine wG_pure (e_ia_vw0 rfl rfl (by omega) rfl) ?_
    | refine wG_pure (e_ia_vwp rfl rfl (by omega) rfl) ?_
    | refine wG_pure (e_ia_vwm rfl rfl (by omega) (by omega) rfl) ?_
    | refine wG_pure (e_ia_vwi rfl rfl (by omega) rfl) ?_
    | refine wG_pure (e_ia_vwn rfl rfl (by omega) (by omega) rfl) ?_
    | refine wG_n rfl rfl ?_
    | refine wG_u rfl rfl ?_
    | refine wG_new (o_mks rfl rfl (by omega) (by decide)) ?_))
    refine ⟨i + 1, hi2, by omega, [0, 3], ?_⟩
    simp only [hs]
    refine ⟨⟨⟨by simp [lk, rn, πof], rfl⟩, ⟨rfl, rfl⟩, ⟨rfl, rfl⟩, ⟨rfl, rfl⟩, trivial⟩, ⟨⟨⟨_, rfl, ?_⟩, (by show 1 < 2; decide), ltrI _ _⟩, ⟨⟨_, rfl, rn_rows (vRows_plain _)⟩, (by show 0 < 2; decide), ltrV _ _⟩, trivial⟩, rfl, by decide⟩
    rw [← rn_rows (rowsP _), List.map_append]; rfl
  · have hi3 : i = ws.length := by omega
    subst hi3
    have hl2 : (ws.map fun x => x.f).length = ws.length := by simp
    simp only [List.take_length]
    repeat (first
    | refine wC_a rfl ?_
    | refine q_s rfl ?_
    | refine q_b rfl ?_
    | refine wG_nil ?_
    | refine wG_g rfl ?_
    | refine wG_pure (o_len_vwm rfl) ?_
    | refine wG_pure (o_not_d rfl) ?_
    | refine wG_p rfl (by first | exact rfl | omega) ?_
    | refine wG_pure (o_str2 rfl rfl rfl) ?_
    | refine wG_pure (e_istr rfl rfl (by omega)) ?_
    | refine wG_pure (e_istr0 rfl rfl (by omega)) ?_
    | refine wG_pure (o_not rfl) ?_
    | refine wG_pure (e_ia_vw0 rfl rfl (by omega) rfl) ?_
    | refine wG_pure (e_ia_vwp rfl rfl (by omega) rfl) ?_
    | refine wG_pure (e_ia_vwm rfl rfl (by omega) (by omega) rfl) ?_
    | refine wG_pure (e_ia_vwi rfl rfl (by omega) rfl) ?_
    | refine wG_pure (e_ia_vwn rfl rfl (by omega) (by omega) rfl) ?_
    | refine wG_n rfl rfl ?_
    | refine wG_u rfl rfl ?_
    | refine wG_new (o_mks rfl rfl (by omega) (by decide)) ?_)
    rw [hl2]
    exact ret_sb (.inr rfl) rfl ⟨_, retV_mv rfl, retV_mv rfl, rfl⟩ rfl
theorem con45 (a b nn p : Bool) (r : Rc) (es : List Dt) (ws : List Iv) (hl : ws.length ≤ 1048576) (cP : Con Try.prog 36 true [.agg (rRow a b r), .vw nn (es.map tRow)] (.tup [.sl 0 2 0 ws.length, .bool p]) [ws.map vRow]) : Con Try.prog 45 true [.agg (rRow a b r), .vw nn (es.map tRow)] (.tup [.sl 0 1 0 ws.length, .bool p]) [(ws.map fun x => x.t).map iRow] := by
  refine con_of_wp mixed fun45 (by simp) [1] (plain_map iRow_plain _) ?_
  unfold ac45 ro45
  simp only [zipT]
  have e0 : ∀ n : Nat, 0 + ((n : Int)).toNat = n := fun n => by simp
  repeat (first | refine wG_call1 cP rfl rfl ?_ | (first
    | refine wC_a rfl ?_
    | refine q_s rfl ?_
    | refine q_b rfl ?_
    | refine wG_nil ?_
    | refine wG_g rfl ?_
    | refine wG_pure (o_len_vwm rfl) ?_
    | refine wG_pure (o_not_d rfl) ?_
    | refine wG_p rfl (by first | exact rfl | omega) ?_
    | refine wG_pure (o_str2 rfl rfl rfl) ?_
    | refine wG_pure (e_istr rfl rfl (by omega)) ?_
    | refine wG_pure (e_istr0 rfl rfl (by omega)) ?_
    | refine wG_pure (o_not rfl) ?_
    | refine wG_pure (e_ia_vw0 rfl rfl (by omega) rfl) ?_
    | refine wG_pure (e_ia_vwp rfl rfl (by omega) rfl) ?_
    | refine wG_pure (e_ia_vwm rfl rfl (by omega) (by omega) rfl) ?_
    | refine wG_pure (e_ia_vwi rfl rfl (by omega) rfl) ?_
    | refine wG_pure (e_ia_vwn rfl rfl (by omega) (by omega) rfl) ?_
    | refine wG_n rfl rfl ?_
    | refine wG_u rfl rfl ?_
    | refine wG_new (o_mks rfl rfl (by omega) (by decide)) ?_))
  refine wC_loopR Nat (fun i => ⟨[(6, .sl 1 1 0 ((ws.take i).map fun x => x.t).length), (7, .sl 0 2 0 ws.length), (8, .bool p), (9, .int .i64 (i : Int))], [(1, some (((ws.take i).map fun x => x.t).map iRow)), (0, some (ws.map vRow))], 2⟩) (fun i => i ≤ ws.length) (fun i => ws.length - i) 0 (Nat.zero_le _) ⟨[2, 1], ?_⟩ ?_
  · exact ⟨⟨⟨rfl, rfl⟩, ⟨rfl, rfl⟩, ⟨rfl, rfl⟩, ⟨rfl, rfl⟩, trivial⟩, ⟨⟨⟨_, rfl, rfl⟩, (by show 1 < 2; decide), ltrI _ _⟩, ⟨⟨_, rfl, rn_rows (vRows_plain _)⟩, (by show 0 < 2; decide), ltrV _ _⟩, trivial⟩, rfl, by decide⟩
  intro i hi
  have hli := take_l (g := fun x => x.t) hi
  repeat (first
    | refine wC_a rfl ?_
    | refine q_s rfl ?_
    | refine q_b rfl ?_
    | refine wG_nil ?_
    | refine wG_g rfl ?_
    | refine wG_pure (o_len_vwm rfl) ?_
    | refine wG_pure (o_not_d rfl) ?_
    | refine wG_p rfl (by first | exact rfl | omega) ?_
    | refine wG_pure (o_str2 rfl rfl rfl) ?_
    | refine wG_pure (e_istr rfl rfl (by omega)) ?_
    | refine wG_pure (e_istr0 rfl rfl (by omega)) ?_
    | refine wG_pure (o_not rfl) ?_
    | refine wG_pure (e_ia_vw0 rfl rfl (by omega) rfl) ?_
    | refine wG_pure (e_ia_vwp rfl rfl (by omega) rfl) ?_
    | refine wG_pure (e_ia_vwm rfl rfl (by omega) (by omega) rfl) ?_
    | refine wG_pure (e_ia_vwi rfl rfl (by omega) rfl) ?_
    | refine wG_pure (e_ia_vwn rfl rfl (by omega) (by omega) rfl) ?_
    | refine wG_n rfl rfl ?_
    | refine wG_u rfl rfl ?_
    | refine wG_new (o_mks rfl rfl (by omega) (by decide)) ?_)
  refine wC_cond_d rfl (fun h2 => ?_) (fun h2 => ?_)
  · have hi2 : i < ws.length := by omega
    have hgi := vGet hi2
    have hs := take_g (g := fun x => x.t) hi2
    repeat (first | refine wG_app rfl rfl (by simp) (rows_sl rfl rfl rfl) (by simp) (by simp; omega) (by decide) ?_ | (refine wG_pure (e_ia_sl rfl rfl (by omega) (by omega)) ?_; simp only [e0]) | refine wG_pure (o_ldf_pt rfl rfl hgi rfl) ?_ | (first
    | refine wC_a rfl ?_
    | refine q_s rfl ?_
    | refine q_b rfl ?_
    | refine wG_nil ?_
    | refine wG_g rfl ?_
    | refine wG_pure (o_len_vwm rfl) ?_
    | refine wG_pure (o_not_d rfl) ?_
    | refine wG_p rfl (by first | exact rfl | omega) ?_
    | refine wG_pure (o_str2 rfl rfl rfl) ?_
    | refine wG_pure (e_istr rfl rfl (by omega)) ?_
    | refine wG_pure (e_istr0 rfl rfl (by omega)) ?_
    | refine wG_pure (o_not rfl) ?_
    | refine wG_pure (e_ia_vw0 rfl rfl (by omega) rfl) ?_
    | refine wG_pure (e_ia_vwp rfl rfl (by omega) rfl) ?_
    | refine wG_pure (e_ia_vwm rfl rfl (by omega) (by omega) rfl) ?_
    | refine wG_pure (e_ia_vwi rfl rfl (by omega) rfl) ?_
    | refine wG_pure (e_ia_vwn rfl rfl (by omega) (by omega) rfl) ?_
    | refine wG_n rfl rfl ?_
    | refine wG_u rfl rfl ?_
    | refine wG_new (o_mks rfl rfl (by omega) (by decide)) ?_))
    refine ⟨i + 1, hi2, by omega, [0, 3], ?_⟩
    simp only [hs]
    refine ⟨⟨⟨by simp [lk, rn, πof], rfl⟩, ⟨rfl, rfl⟩, ⟨rfl, rfl⟩, ⟨rfl, rfl⟩, trivial⟩, ⟨⟨⟨_, rfl, ?_⟩, (by show 1 < 2; decide), ltrI _ _⟩, ⟨⟨_, rfl, rn_rows (vRows_plain _)⟩, (by show 0 < 2; decide), ltrV _ _⟩, trivial⟩, rfl, by decide⟩
    rw [← rn_rows (rowsP _), List.map_append]; rfl
  · have hi3 : i = ws.length := by omega
    subst hi3
    have hl2 : (ws.map fun x => x.t).length = ws.length := by simp
    simp only [List.take_length]
    repeat (first
    | refine wC_a rfl ?_
    | refine q_s rfl ?_
    | refine q_b rfl ?_
    | refine wG_nil ?_
    | refine wG_g rfl ?_
    | refine wG_pure (o_len_vwm rfl) ?_
    | refine wG_pure (o_not_d rfl) ?_
    | refine wG_p rfl (by first | exact rfl | omega) ?_
    | refine wG_pure (o_str2 rfl rfl rfl) ?_
    | refine wG_pure (e_istr rfl rfl (by omega)) ?_
    | refine wG_pure (e_istr0 rfl rfl (by omega)) ?_
    | refine wG_pure (o_not rfl) ?_
    | refine wG_pure (e_ia_vw0 rfl rfl (by omega) rfl) ?_
    | refine wG_pure (e_ia_vwp rfl rfl (by omega) rfl) ?_
    | refine wG_pure (e_ia_vwm rfl rfl (by omega) (by omega) rfl) ?_
    | refine wG_pure (e_ia_vwi rfl rfl (by omega) rfl) ?_
    | refine wG_pure (e_ia_vwn rfl rfl (by omega) (by omega) rfl) ?_
    | refine wG_n rfl rfl ?_
    | refine wG_u rfl rfl ?_
    | refine wG_new (o_mks rfl rfl (by omega) (by decide)) ?_)
    rw [hl2]
    exact ret_sb (.inr rfl) rfl ⟨_, retV_mv rfl, retV_mv rfl, rfl⟩ rfl
theorem con86 (x : Iv) : Con Try.prog 86 true [.agg (vRow x)] (.int .i64 x.f) [] := by
  refine con_of_wp mixed fun86 (by simp) [] plain_nil ?_
  unfold ac86 ro86
  simp only [zipT]
  repeat (first
    | refine wC_a rfl ?_
    | refine q_s rfl ?_
    | refine q_b rfl ?_
    | refine wG_nil ?_
    | refine wG_g rfl ?_
    | refine wG_pure (o_len_vwm rfl) ?_
    | refine wG_pure (o_not_d rfl) ?_
    | refine wG_p rfl (by first | exact rfl | omega) ?_
    | refine wG_pure (o_str2 rfl rfl rfl) ?_
    | refine wG_pure (e_istr rfl rfl (by omega)) ?_
    | refine wG_pure (e_istr0 rfl rfl (by omega)) ?_
    | refine wG_pure (o_not rfl) ?_
    | refine wG_pure (e_ia_vw0 rfl rfl (by omega) rfl) ?_
    | refine wG_pure (e_ia_vwp rfl rfl (by omega) rfl) ?_
    | refine wG_pure (e_ia_vwm rfl rfl (by omega) (by omega) rfl) ?_
    | refine wG_pure (e_ia_vwi rfl rfl (by omega) rfl) ?_
    | refine wG_pure (e_ia_vwn rfl rfl (by omega) (by omega) rfl) ?_
    | refine wG_n rfl rfl ?_
    | refine wG_u rfl rfl ?_
    | refine wG_new (o_mks rfl rfl (by omega) (by decide)) ?_)
  exact ret_intE (.inr rfl) ⟨_, retV_mv rfl, rfl⟩
theorem con87 (x : Iv) : Con Try.prog 87 true [.agg (vRow x)] (.int .i64 x.t) [] := by
  refine con_of_wp mixed fun87 (by simp) [] plain_nil ?_
  unfold ac87 ro87
  simp only [zipT]
  repeat (first
    | refine wC_a rfl ?_
    | refine q_s rfl ?_
    | refine q_b rfl ?_
    | refine wG_nil ?_
    | refine wG_g rfl ?_
    | refine wG_pure (o_len_vwm rfl) ?_
    | refine wG_pure (o_not_d rfl) ?_
    | refine wG_p rfl (by first | exact rfl | omega) ?_
    | refine wG_pure (o_str2 rfl rfl rfl) ?_
    | refine wG_pure (e_istr rfl rfl (by omega)) ?_
    | refine wG_pure (e_istr0 rfl rfl (by omega)) ?_
    | refine wG_pure (o_not rfl) ?_
    | refine wG_pure (e_ia_vw0 rfl rfl (by omega) rfl) ?_
    | refine wG_pure (e_ia_vwp rfl rfl (by omega) rfl) ?_
    | refine wG_pure (e_ia_vwm rfl rfl (by omega) (by omega) rfl) ?_
    | refine wG_pure (e_ia_vwi rfl rfl (by omega) rfl) ?_
    | refine wG_pure (e_ia_vwn rfl rfl (by omega) (by omega) rfl) ?_
    | refine wG_n rfl rfl ?_
    | refine wG_u rfl rfl ?_
    | refine wG_new (o_mks rfl rfl (by omega) (by decide)) ?_)
  exact ret_intE (.inr rfl) ⟨_, retV_mv rfl, rfl⟩
theorem con85 (nn : Bool) (ws : List Iv) (hl : ws.length ≤ 1048576) {F : Nat} (g : Iv → Int) (hf : ∀ x, Con Try.prog F true [.agg (vRow x)] (.int .i64 (g x)) []) : Con Try.prog 85 true [.vw nn (ws.map vRow), .fn F []] (.sl 0 1 0 ws.length) [(ws.map g).map iRow] := by
  refine con_of_wp mixed fun85 (by simp) [0] (plain_map iRow_plain _) ?_
  unfold ac85 ro85
  simp only [zipT]
  repeat (first
    | refine wC_a rfl ?_
    | refine q_s rfl ?_
    | refine q_b rfl ?_
    | refine wG_nil ?_
    | refine wG_g rfl ?_
    | refine wG_pure (o_len_vwm rfl) ?_
    | refine wG_pure (o_not_d rfl) ?_
    | refine wG_p rfl (by first | exact rfl | omega) ?_
    | refine wG_pure (o_str2 rfl rfl rfl) ?_
    | refine wG_pure (e_istr rfl rfl (by omega)) ?_
    | refine wG_pure (e_istr0 rfl rfl (by omega)) ?_
    | refine wG_pure (o_not rfl) ?_
    | refine wG_pure (e_ia_vw0 rfl rfl (by omega) rfl) ?_
    | refine wG_pure (e_ia_vwp rfl rfl (by omega) rfl) ?_
    | refine wG_pure (e_ia_vwm rfl rfl (by omega) (by omega) rfl) ?_
    | refine wG_pure (e_ia_vwi rfl rfl (by omega) rfl) ?_
    | refine wG_pure (e_ia_vwn rfl rfl (by omega) (by omega) rfl) ?_
    | refine wG_n rfl rfl ?_
    | refine wG_u rfl rfl ?_
    | refine wG_new (o_mks rfl rfl (by omega) (by decide)) ?_)
  refine wC_loopR Nat (fun i => ⟨[(1, .fn F []), (5, .sl 0 1 0 ((ws.take i).map g).length), (9, .vw nn (ws.map vRow)), (10, .int .i64 (ws.length : Int)), (11, .int .i64 (i : Int))], [(0, some (((ws.take i).map g).map iRow))], 1⟩) (fun i => i ≤ ws.length) (fun i => ws.length - i) 0 (Nat.zero_le _) ⟨[0], ?_⟩ ?_
  · exact ⟨⟨⟨rfl, rfl⟩, ⟨rfl, rfl⟩, ⟨rfl, rfl⟩, ⟨rfl, rfl⟩, ⟨rfl, rfl⟩, trivial⟩, ⟨⟨⟨_, rfl, rfl⟩, (by show 0 < 1; decide), ltrI _ _⟩, trivial⟩, rfl, by decide⟩
  intro i hi
  have hli := take_l (g := g) hi
  repeat (first
    | refine wC_a rfl ?_
    | refine q_s rfl ?_
    | refine q_b rfl ?_
    | refine wG_nil ?_
    | refine wG_g rfl ?_
    | refine wG_pure (o_len_vwm rfl) ?_
    | refine wG_pure (o_not_d rfl) ?_
    | refine wG_p rfl (by first | exact rfl | omega) ?_
    | refine wG_pure (o_str2 rfl rfl rfl) ?_
    | refine wG_pure (e_istr rfl rfl (by omega)) ?_
    | refine wG_pure (e_istr0 rfl rfl (by omega)) ?_
    | refine wG_pure (o_not rfl) ?_
    | refine wG_pure (e_ia_vw0 rfl rfl (by omega) rfl) ?_
    | refine wG_pure (e_ia_vwp rfl rfl (by omega) rfl) ?_
    | refine wG_pure (e_ia_vwm rfl rfl (by omega) (by omega) rfl) ?_
    | refine wG_pure (e_ia_vwi rfl rfl (by omega) rfl) ?_
    | refine wG_pure (e_ia_vwn rfl rfl (by omega) (by omega) rfl) ?_
    | refine wG_n rfl rfl ?_
    | refine wG_u rfl rfl ?_
    | refine wG_new (o_mks rfl rfl (by omega) (by decide)) ?_)
  refine wC_cond_d rfl (fun h2 => ?_) (fun h2 => ?_)
  · have hi2 : i < ws.length := by omega
    have hs := take_g (g := g) hi2
    have c := hf (ws.getD i default)
    repeat (first | refine wG_callv rfl c rfl rfl ?_ | refine wG_app rfl rfl (by simp) (rows_sl rfl rfl rfl) (by simp) (by simp; omega) (by decide) ?_ | (first
    | refine wC_a rfl ?_
    | refine q_s rfl ?_
    | refine q_b rfl ?_
    | refine wG_nil ?_
    | refine wG_g rfl ?_
    | refine wG_pure (o_len_vwm rfl) ?_
    | refine wG_pure (o_not_d rfl) ?_
    | refine wG_p rfl (by first | exact rfl | omega) ?_
    | refine wG_pure (o_str2 rfl rfl rfl) ?_
    | refine wG_pure (e_istr rfl rfl (by omega)) ?_
    | refine wG_pure (e_istr0 rfl rfl (by omega)) ?_
    | refine wG_pure (o_not rfl) ?_
    | refine wG_pure (e_ia_vw0 rfl rfl (by omega) rfl) ?_
    | refine wG_pure (e_ia_vwp rfl rfl (by omega) rfl) ?_
    | refine wG_pure (e_ia_vwm rfl rfl (by omega) (by omega) rfl) ?_
    | refine wG_pure (e_ia_vwi rfl rfl (by omega) rfl) ?_
    | refine wG_pure (e_ia_vwn rfl rfl (by omega) (by omega) rfl) ?_
    | refine wG_n rfl rfl ?_
    | refine wG_u rfl rfl ?_
    | refine wG_new (o_mks rfl rfl (by omega) (by decide)) ?_))
    refine ⟨i + 1, hi2, by omega, [3], ?_⟩
    simp only [hs]
    refine ⟨⟨⟨rfl, rfl⟩, ⟨by simp [lk, rn, πof], rfl⟩, ⟨rfl, rfl⟩, ⟨rfl, rfl⟩, ⟨rfl, rfl⟩, trivial⟩, ⟨⟨⟨_, rfl, ?_⟩, (by show 0 < 1; decide), ltrI _ _⟩, trivial⟩, rfl, by decide⟩
    rw [← rn_rows (rowsP _), List.map_append]; rfl
  · have hi3 : i = ws.length := by omega
    subst hi3
    have hl2 : (ws.map g).length = ws.length := by simp
    simp only [List.take_length]
    repeat (first
    | refine wC_a rfl ?_
    | refine q_s rfl ?_
    | refine q_b rfl ?_
    | refine wG_nil ?_
    | refine wG_g rfl ?_
    | refine wG_pure (o_len_vwm rfl) ?_
    | refine wG_pure (o_not_d rfl) ?_
    | refine wG_p rfl (by first | exact rfl | omega) ?_
    | refine wG_pure (o_str2 rfl rfl rfl) ?_
    | refine wG_pure (e_istr rfl rfl (by omega)) ?_
    | refine wG_pure (e_istr0 rfl rfl (by omega)) ?_
    | refine wG_pure (o_not rfl) ?_
    | refine wG_pure (e_ia_vw0 rfl rfl (by omega) rfl) ?_
    | refine wG_pure (e_ia_vwp rfl rfl (by omega) rfl) ?_
    | refine wG_pure (e_ia_vwm rfl rfl (by omega) (by omega) rfl) ?_
    | refine wG_pure (e_ia_vwi rfl rfl (by omega) rfl) ?_
    | refine wG_pure (e_ia_vwn rfl rfl (by omega) (by omega) rfl) ?_
    | refine wG_n rfl rfl ?_
    | refine wG_u rfl rfl ?_
    | refine wG_new (o_mks rfl rfl (by omega) (by decide)) ?_)
    rw [hl2]
    exact ret_sl (.inr rfl) (retV_mv rfl) rfl
theorem con44_yes (a b nn : Bool) (r : Rc) (es : List Dt) (ws : List Iv) (hl : ws.length ≤ 1048576) (cP : Con Try.prog 37 true [.agg (rRow a b r), .vw nn (es.map tRow)] (.tup [.sl 0 2 0 ws.length, .bool true]) [ws.map vRow]) : Con Try.prog 44 true [.agg (rRow a b r), .vw nn (es.map tRow)] (.tup [.sl 0 1 0 ws.length, .bool true]) [(ws.map fun x => x.f).map iRow] := by
  refine con_of_wp mixed fun44 (by simp) [2] (plain_map iRow_plain _) ?_
  unfold ac44 ro44
  simp only [zipT]
  have cY := con85 true ws hl (F := 86) (fun x => x.f) (fun x => con86 x)
  repeat (first | refine wG_call1 cP rfl rfl ?_ | refine wG_call1 cY (ag_sl rfl rfl rfl vRow_plain (ag_fn rfl (fun _ _ => rfl) ag_nil)) rfl ?_ | (first
    | refine wC_a rfl ?_
    | refine q_s rfl ?_
    | refine q_b rfl ?_
    | refine wG_nil ?_
    | refine wG_g rfl ?_
    | refine wG_pure (o_len_vwm rfl) ?_
    | refine wG_pure (o_not_d rfl) ?_
    | refine wG_p rfl (by first | exact rfl | omega) ?_
    | refine wG_pure (o_str2 rfl rfl rfl) ?_
    | refine wG_pure (e_istr rfl rfl (by omega)) ?_
    | refine wG_pure (e_istr0 rfl rfl (by omega)) ?_
    | refine wG_pure (o_not rfl) ?_
    | refine wG_pure (e_ia_vw0 rfl rfl (by omega) rfl) ?_
    | refine wG_pure (e_ia_vwp rfl rfl (by omega) rfl) ?_
    | refine wG_pure (e_ia_vwm rfl rfl (by omega) (by omega) rfl) ?_
    | refine wG_pure (e_ia_vwi rfl rfl (by omega) rfl) ?_
    | refine wG_pure (e_ia_vwn rfl rfl (by omega) (by omega) rfl) ?_
    | refine wG_n rfl rfl ?_
    | refine wG_u rfl rfl ?_
    | refine wG_new (o_mks rfl rfl (by omega) (by decide)) ?_))
  exact ret_sb (.inr rfl) rfl ⟨_, retV_mv rfl, retV_mv rfl, rfl⟩ rfl
theorem con44_no (a b nn : Bool) (r : Rc) (es : List Dt) (cP : Con Try.prog 37 true [.agg (rRow a b r), .vw nn (es.map tRow)] (.tup [.nilS, .bool false]) []) : Con Try.prog 44 true [.agg (rRow a b r), .vw nn (es.map tRow)] (.tup [.nilS, .bool false]) [] := by
  refine con_of_wp mixed fun44 (by simp) [] plain_nil ?_
  unfold ac44 ro44
  simp only [zipT]
  repeat (first | refine wG_call cP rfl rfl ?_ | (first
    | refine wC_a rfl ?_
    | refine q_s rfl ?_
    | refine q_b rfl ?_
    | refine wG_nil ?_
    | refine wG_g rfl ?_
    | refine wG_pure (o_len_vwm rfl) ?_
    | refine wG_pure (o_not_d rfl) ?_
    | refine wG_p rfl (by first | exact rfl | omega) ?_
    | refine wG_pure (o_str2 rfl rfl rfl) ?_
    | refine wG_pure (e_istr rfl rfl (by omega)) ?_
    | refine wG_pure (e_istr0 rfl rfl (by omega)) ?_
    | refine wG_pure (o_not rfl) ?_
    | refine wG_pure (e_ia_vw0 rfl rfl (by omega) rfl) ?_
    | refine wG_pure (e_ia_vwp rfl rfl (by omega) rfl) ?_
    | refine wG_pure (e_ia_vwm rfl rfl (by omega) (by omega) rfl) ?_
    | refine wG_pure (e_ia_vwi rfl rfl (by omega) rfl) ?_
    | refine wG_pure (e_ia_vwn rfl rfl (by omega) (by omega) rfl) ?_
    | refine wG_n rfl rfl ?_
    | refine wG_u rfl rfl ?_
    | refine wG_new (o_mks rfl rfl (by omega) (by decide)) ?_))
  exact ret_pl (.inr rfl) (retVs_2 (retV_mv rfl) (retV_mv rfl)) rfl rfl (by simp)
theorem con46_yes (a b nn : Bool) (r : Rc) (es : List Dt) (ws : List Iv) (hl : ws.length ≤ 1048576) (cP : Con Try.prog 37 true [.agg (rRow a b r), .vw nn (es.map tRow)] (.tup [.sl 0 2 0 ws.length, .bool true]) [ws.map vRow]) : Con Try.prog 46 true [.agg (rRow a b r), .vw nn (es.map tRow)] (.tup [.sl 0 1 0 ws.length, .bool true]) [(ws.map fun x => x.t).map iRow] := by
  refine con_of_wp mixed fun46 (by simp) [2] (plain_map iRow_plain _) ?_
  unfold ac46 ro46
  simp only [zipT]
  have cY := con85 true ws hl (F := 87) (fun x => x.t) (fun x => con87 x)
  repeat (first | refine wG_call1 cP rfl rfl ?_ | refine wG_call1 cY (ag_sl rfl rfl rfl vRow_plain (ag_fn rfl (fun _ _ => rfl) ag_nil)) rfl ?_ | (first
    | refine wC_a rfl ?_
    | refine q_s rfl ?_
    | refine q_b rfl ?_
    | refine wG_nil ?_
    | refine wG_g rfl ?_
    | refine wG_pure (o_len_vwm rfl) ?_
    | refine wG_pure (o_not_d rfl) ?_
    | refine wG_p rfl (by first | exact rfl | omega) ?_
    | refine wG_pure (o_str2 rfl rfl rfl) ?_
    | refine wG_pure (e_istr rfl rfl (by omega)) ?_
    | refine wG_pure (e_istr0 rfl rfl (by omega)) ?_
    | refine wG_pure (o_not rfl) ?_
    | refine wG_pure (e_ia_vw0 rfl rfl (by omega) rfl) ?_
    | refine wG_pure (e_ia_vwp rfl rfl (by omega) rfl) ?_
    | refine wG_pure (e_ia_vwm rfl rfl (by omega) (by omega) rfl) ?_
    | refine wG_pure (e_ia_vwi rfl rfl (by omega) rfl) ?_
    | refine wG_pure (e_ia_vwn rfl rfl (by omega) (by omega) rfl) ?_
    | refine wG_n rfl rfl ?_
    | refine wG_u rfl rfl ?_
    | refine wG_new (o_mks rfl rfl (by omega) (by decide)) ?_))
  exact ret_sb (.inr rfl) rfl ⟨_, retV_mv rfl, retV_mv rfl, rfl⟩ rfl
theorem con46_no (a b nn : Bool) (r : Rc) (es : List Dt) (cP : Con Try.prog 37 true [.agg (rRow a b r), .vw nn (es.map tRow)] (.tup [.nilS, .bool false]) []) : Con Try.prog 46 true [.agg (rRow a b r), .vw nn (es.map tRow)] (.tup [.nilS, .bool false]) [] := by
  refine con_of_wp mixed fun46 (by simp) [] plain_nil ?_
  unfold ac46 ro46
  simp only [zipT]
  repeat (first | refine wG_call cP rfl rfl ?_ | (first
    | refine wC_a rfl ?_
    | refine q_s rfl ?_
    | refine q_b rfl ?_
    | refine wG_nil ?_
    | refine wG_g rfl ?_
    | refine wG_pure (o_len_vwm rfl) ?_
    | refine wG_pure (o_not_d rfl) ?_
    | refine wG_p rfl (by first | exact rfl | omega) ?_
    | refine wG_pure (o_str2 rfl rfl rfl) ?_
    | refine wG_pure (e_istr rfl rfl (by omega)) ?_
    | refine wG_pure (e_istr0 rfl rfl (by omega)) ?_
    | refine wG_pure (o_not rfl) ?_
    | refine wG_pure (e_ia_vw0 rfl rfl (by omega) rfl) ?_
    | refine wG_pure (e_ia_vwp rfl rfl (by omega) rfl) ?_
    | refine wG_pure (e_ia_vwm rfl rfl (by omega) (by omega) rfl) ?_
    | refine wG_pure (e_ia_vwi rfl rfl (by omega) rfl) ?_
    | refine wG_pure (e_ia_vwn rfl rfl (by omega) (by omega) rfl) ?_
    | refine wG_n rfl rfl ?_
    | refine wG_u rfl rfl ?_
    | refine wG_new (o_mks rfl rfl (by omega) (by decide)) ?_))
  exact ret_pl (.inr rfl) (retVs_2 (retV_mv rfl) (retV_mv rfl)) rfl rfl (by simp)

/-! ### The laws -/
theorem con8 (a b nn : Bool) (r : Rc) (es : List Dt) (h1 : r.cs.length ≤ 9223372036854775807) (h2 : r.xs.length ≤ 9223372036854775807) (h3 : es.length ≤ 9223372036854775807) : Con Try.prog 8 true [.agg (rRow a b r), .vw nn (es.map tRow)] (.bool true) [] := by
  refine con_of_wp mixed fun8 (by simp) [] plain_nil ?_
  unfold ac8 ro8
  simp only [zipT]
  have c1 := con12 a b r h1 h2 1048576 (by decide) (by decide)
  repeat (first | refine wG_call c1 rfl rfl ?_ | (first
    | refine wC_a rfl ?_
    | refine q_s rfl ?_
    | refine q_b rfl ?_
    | refine wG_nil ?_
    | refine wG_g rfl ?_
    | refine wG_pure (o_len_vwm rfl) ?_
    | refine wG_pure (o_not_d rfl) ?_
    | refine wG_p rfl (by first | exact rfl | omega) ?_
    | refine wG_pure (o_str2 rfl rfl rfl) ?_
    | refine wG_pure (e_istr rfl rfl (by omega)) ?_
    | refine wG_pure (e_istr0 rfl rfl (by omega)) ?_
    | refine wG_pure (o_not rfl) ?_
    | refine wG_pure (e_ia_vw0 rfl rfl (by omega) rfl) ?_
    | refine wG_pure (e_ia_vwp rfl rfl (by omega) rfl) ?_
    | refine wG_pure (e_ia_vwm rfl rfl (by omega) (by omega) rfl) ?_
    | refine wG_pure (e_ia_vwi rfl rfl (by omega) rfl) ?_
    | refine wG_pure (e_ia_vwn rfl rfl (by omega) (by omega) rfl) ?_
    | refine wG_n rfl rfl ?_
    | refine wG_u rfl rfl ?_
    | refine wG_new (o_mks rfl rfl (by omega) (by decide)) ?_))
  refine wC_cond_d rfl (fun h => ?_) (fun h => ?_)
  · repeat (first
    | refine wC_a rfl ?_
    | refine q_s rfl ?_
    | refine q_b rfl ?_
    | refine wG_nil ?_
    | refine wG_g rfl ?_
    | refine wG_pure (o_len_vwm rfl) ?_
    | refine wG_pure (o_not_d rfl) ?_
    | refine wG_p rfl (by first | exact rfl | omega) ?_
    | refine wG_pure (o_str2 rfl rfl rfl) ?_
    | refine wG_pure (e_istr rfl rfl (by omega)) ?_
    | refine wG_pure (e_istr0 rfl rfl (by omega)) ?_
    | refine wG_pure (o_not rfl) ?_
    | refine wG_pure (e_ia_vw0 rfl rfl (by omega) rfl) ?_
    | refine wG_pure (e_ia_vwp rfl rfl (by omega) rfl) ?_
    | refine wG_pure (e_ia_vwm rfl rfl (by omega) (by omega) rfl) ?_
    | refine wG_pure (e_ia_vwi rfl rfl (by omega) rfl) ?_
    | refine wG_pure (e_ia_vwn rfl rfl (by omega) (by omega) rfl) ?_
    | refine wG_n rfl rfl ?_
    | refine wG_u rfl rfl ?_
    | refine wG_new (o_mks rfl rfl (by omega) (by decide)) ?_)
    exact ret_boolE (.inr rfl) ⟨_, retV_mv rfl, rfl⟩
  obtain ⟨s1, s2, s3⟩ := szR_ok (Int.not_lt.1 h)
  have c2 := con13 nn es h3 (szR 1048576 r) (Int.not_lt.1 h) s3
  by_cases hs : szR 1048576 r - (es.length : Int) < 0
  · rw [if_pos hs] at c2
    repeat (first | refine wG_call c2 rfl rfl ?_ | (first
    | refine wC_a rfl ?_
    | refine q_s rfl ?_
    | refine q_b rfl ?_
    | refine wG_nil ?_
    | refine wG_g rfl ?_
    | refine wG_pure (o_len_vwm rfl) ?_
    | refine wG_pure (o_not_d rfl) ?_
    | refine wG_p rfl (by first | exact rfl | omega) ?_
    | refine wG_pure (o_str2 rfl rfl rfl) ?_
    | refine wG_pure (e_istr rfl rfl (by omega)) ?_
    | refine wG_pure (e_istr0 rfl rfl (by omega)) ?_
    | refine wG_pure (o_not rfl) ?_
    | refine wG_pure (e_ia_vw0 rfl rfl (by omega) rfl) ?_
    | refine wG_pure (e_ia_vwp rfl rfl (by omega) rfl) ?_
    | refine wG_pure (e_ia_vwm rfl rfl (by omega) (by omega) rfl) ?_
    | refine wG_pure (e_ia_vwi rfl rfl (by omega) rfl) ?_
    | refine wG_pure (e_ia_vwn rfl rfl (by omega) (by omega) rfl) ?_
    | refine wG_n rfl rfl ?_
    | refine wG_u rfl rfl ?_
    | refine wG_new (o_mks rfl rfl (by omega) (by decide)) ?_))
    exact ret_boolE (.inr rfl) ⟨_, retV_mv rfl, rfl⟩
  · rw [if_neg hs] at c2
    have h1' : r.cs.length ≤ 1048576 := by omega
    have h2' : r.xs.length ≤ 1048576 := by omega
    have h3' : es.length ≤ 1048576 := by omega
    have cT := con15 a b r h1' h2'
    have cD := con16 nn es h3'
    have cE := con19 true true true true r h1' h2'
    have cF := con20 true true es h3'
    have sR := fun h nr q1 q2 => @sh21 r 1 h1' h2' (by decide) (by decide) h nr q1 q2
    have sD := fun k h0 h1 h nr q => @sh22 es k (by omega) h0 h1 h nr q
    by_cases hk : prOK r es
    · have cS0 := con36_yes true true true r es h1' h2' h3' hk
      have cI0 := con37_yes true true true r es h1' h2' h3' hk
      have hn := hk.1.1.1.1
      have hlT := tgL_len r es r.cs.length
      obtain ⟨n, hn2⟩ : ∃ n, r.cs.length = n := ⟨_, rfl⟩
      have hwl : (tgL r es r.cs.length).length ≤ 10 := by omega
      have cS1 : Con Try.prog 36 true [.agg (rRow true true r), .vw true (es.map tRow)] (.tup [.sl 0 2 0 (tgL r es r.cs.length).length, .bool true]) [(tgL r es r.cs.length).map vRow] := by rw [hlT]; exact cS0
      have cI1 : Con Try.prog 37 true [.agg (rRow true true r), .vw true (es.map tRow)] (.tup [.sl 0 2 0 (tgL r es r.cs.length).length, .bool true]) [(tgL r es r.cs.length).map vRow] := by rw [hlT]; exact cI0
      clear cS0 cI0 hlT
      generalize tgL r es r.cs.length = ws at *
      have cS : Con Try.prog 36 true [.agg (rRow true true r), .vw true (es.map tRow)] (.tup [.sl 0 2 0 ws.length, .bool true]) [(ws.map fun x => (x)).map vRow] := by
        first
          | (have e : (ws.map fun x => (x)) = ws := List.map_id'' (fun _ => rfl) ws; rw [e]; exact cS1)
          | exact con36 true true true true r es ws (by omega) cS1
      have cI : Con Try.prog 37 true [.agg (rRow true true r), .vw true (es.map tRow)] (.tup [.sl 0 2 0 ws.length, .bool true]) [(ws.map fun x => (x)).map vRow] := by
        first
          | (have e : (ws.map fun x => (x)) = ws := List.map_id'' (fun _ => rfl) ws; rw [e]; exact cI1)
          | exact con37_yes true true true r es ws (by omega) cI1
      have hvl : ws.length = (ws.map fun x => (x)).length := by simp
      rw [hvl] at cS cI
      have hv10 : (ws.map fun x => (x)).length ≤ 10 := by simp; omega
      clear cS1 cI1 hvl
      generalize (ws.map fun x => (x)) = vs at *
      have cQ := con38 true true vs (by omega)
      have cH := con40 true vs.length 1 (by omega) (by decide) (by decide)
      have sV := fun h nr q => @sh39 vs 1 (by omega) (by decide) (by decide) h nr q
      clear hk hn
      repeat' (first
        | refine wC_dregE ?_ | refine wG_call c2 rfl rfl ?_ | refine wG_call2 cT rfl rfl ?_ | refine wE_call2 cT rfl rfl rfl ?_ | refine wG_call1 cD rfl rfl ?_ | refine wG_call1 cS (ag_rec rfl rfl rfl (ag_sl rfl rfl rfl tRow_plain ag_nil)) rfl ?_ | refine wG_call1 cI (ag_rec rfl rfl rfl (ag_sl rfl rfl rfl tRow_plain ag_nil)) rfl ?_ | refine wG_call cE (ag_rec rfl rfl rfl (ag_rec rfl rfl rfl ag_nil)) rfl ?_ | refine wE_call cE (ag_rec rfl rfl rfl (ag_rec rfl rfl rfl ag_nil)) rfl rfl ?_ | refine wG_call cF (ag_sl rfl rfl rfl tRow_plain (ag_sl rfl rfl rfl tRow_plain ag_nil)) rfl ?_ | refine wG_call cQ (ag_sl rfl rfl rfl vRow_plain (ag_sl rfl rfl rfl vRow_plain ag_nil)) rfl ?_ | refine wG_call cH (ag_sl rfl rfl (mkIv_len _ _).symm vRow_plain (ag_int rfl ag_nil)) rfl ?_
        | (refine wG_callS (f := 21) (sR _ _ _ _ rfl rfl (by decide) ?_) rfl ?_ <;> (repeat' (first | exact ltrI _ _ | exact ltrK _ _ | exact ltrX _ _ | exact ltrV _ _ | exact ltrT _ _ | exact wfH_nil | refine wfH_cons (by decide) ?_ ?_ | exact ltr_dec rfl)))
        | (refine wG_callS (f := 22) (sD _ (by omega) (by omega) _ _ _ rfl ?_) rfl ?_ <;> (repeat' (first | exact ltrI _ _ | exact ltrK _ _ | exact ltrX _ _ | exact ltrV _ _ | exact ltrT _ _ | exact wfH_nil | refine wfH_cons (by decide) ?_ ?_ | exact ltr_dec rfl)))
        | (refine wG_callS (f := 39) (sV _ _ _ rfl ?_) rfl ?_ <;> (repeat' (first | exact ltrI _ _ | exact ltrK _ _ | exact ltrX _ _ | exact ltrV _ _ | exact ltrT _ _ | exact wfH_nil | refine wfH_cons (by decide) ?_ ?_ | exact ltr_dec rfl)))
        | (first
    | refine wC_a rfl ?_
    | refine q_s rfl ?_
    | refine q_b rfl ?_
    | refine wG_nil ?_
    | refine wG_g rfl ?_
    | refine wG_pure (o_len_vwm rfl) ?_
    | refine wG_pure (o_not_d rfl) ?_
    | refine wG_p rfl (by first | exact rfl | omega) ?_
    | refine wG_pure (o_str2 rfl rfl rfl) ?_
    | refine wG_pure (e_istr rfl rfl (by omega)) ?_
    | refine wG_pure (e_istr0 rfl rfl (by omega)) ?_
    | refine wG_pure (o_not rfl) ?_
    | refine wG_pure (e_ia_vw0 rfl rfl (by omega) rfl) ?_
    | refine wG_pure (e_ia_vwp rfl rfl (by omega) rfl) ?_
    | refine wG_pure (e_ia_vwm rfl rfl (by omega) (by omega) rfl) ?_
    | refine wG_pure (e_ia_vwi rfl rfl (by omega) rfl) ?_
    | refine wG_pure (e_ia_vwn rfl rfl (by omega) (by omega) rfl) ?_
    | refine wG_n rfl rfl ?_
    | refine wG_u rfl rfl ?_
    | refine wG_new (o_mks rfl rfl (by omega) (by decide)) ?_) | (first
    | refine wE_nil (by kernel_rfl) ?_
    | refine wE_gy rfl ?_
    | refine wE_gn rfl rfl rfl ?_
    | refine wE_gu rfl rfl ?_
    | refine wE_gnn rfl rfl rfl ?_
    | refine wE_v (o_len_vwm rfl) rfl ?_
    | refine wE_v (o_not_d rfl) rfl ?_
    | refine wE_p rfl (by first | exact rfl | omega) rfl ?_
    | refine wE_v (o_str2 rfl rfl rfl) rfl ?_
    | refine wE_v (e_istr rfl rfl (by omega)) rfl ?_
    | refine wE_v (e_istr0 rfl rfl (by omega)) rfl ?_
    | refine wE_v (o_not rfl) rfl ?_
    | refine wE_v (e_ia_vw0 rfl rfl (by omega) rfl) rfl ?_
    | refine wE_v (e_ia_vwp rfl rfl (by omega) rfl) rfl ?_
    | refine wE_v (e_ia_vwm rfl rfl (by omega) (by omega) rfl) rfl ?_
    | refine wE_v (e_ia_vwi rfl rfl (by omega) rfl) rfl ?_
    | refine wE_v (e_ia_vwn rfl rfl (by omega) (by omega) rfl) rfl ?_
    | refine wE_n rfl rfl rfl ?_
    | refine wE_u rfl rfl rfl ?_
    | refine wE_new (o_mks rfl rfl (by omega) (by decide)) rfl ?_) | (refine wG_gd rfl (fun hgt => ?_) (fun hgf => ?_) <;> (first | simp only [eq_true hgt, decide_true] | simp only [eq_false hgf, decide_false])) | refine wC_cond_d rfl (fun hg => ?_) (fun hg => ?_))
      all_goals (first | exact ret_boolE (.inr rfl) ⟨_, retV_mv rfl, rfl⟩ | (exfalso; omega) | trace_state)
    · have cS1 := con36_no true true true r es h1' h2' h3' hk
      have cI1 := con37_no true true true r es h1' h2' h3' hk
      have cS : Con Try.prog 36 true [.agg (rRow true true r), .vw true (es.map tRow)] (.tup [.sl 0 2 0 0, .bool false]) [([] : List Iv).map vRow] := by
        first
          | exact cS1
          | exact con36 true true true false r es [] (by decide) cS1
      have cI : Con Try.prog 37 true [.agg (rRow true true r), .vw true (es.map tRow)] (.tup [.nilS, .bool false]) [] := by
        first
          | exact cI1
          | exact con37_no true true true r es cI1
      have cQ : Con Try.prog 38 true [.nilS, .vw true (([] : List Iv).map vRow)] (.bool true) [] := con_nil (con38 false true [] (by decide))
      have cH : Con Try.prog 40 true [.nilS, .int .i64 1] (.int .i64 1) [] := con_nil (con40 false 0 1 (by decide) (by decide) (by decide))
      have cM := con39_nil 1
      clear hk cS1 cI1
      repeat' (first
        | refine wC_dregE ?_ | refine wG_call c2 rfl rfl ?_ | refine wG_call2 cT rfl rfl ?_ | refine wE_call2 cT rfl rfl rfl ?_ | refine wG_call1 cD rfl rfl ?_ | refine wG_call1 cS (ag_rec rfl rfl rfl (ag_sl rfl rfl rfl tRow_plain ag_nil)) rfl ?_ | refine wG_call cI (ag_rec rfl rfl rfl (ag_sl rfl rfl rfl tRow_plain ag_nil)) rfl ?_ | refine wG_call cE (ag_rec rfl rfl rfl (ag_rec rfl rfl rfl ag_nil)) rfl ?_ | refine wE_call cE (ag_rec rfl rfl rfl (ag_rec rfl rfl rfl ag_nil)) rfl rfl ?_ | refine wG_call cF (ag_sl rfl rfl rfl tRow_plain (ag_sl rfl rfl rfl tRow_plain ag_nil)) rfl ?_ | refine wG_call cQ (ag_any rfl (ag_sl rfl rfl rfl vRow_plain ag_nil)) rfl ?_ | refine wG_call cH rfl rfl ?_ | refine wG_call cM rfl rfl ?_
        | (refine wG_callS (f := 21) (sR _ _ _ _ rfl rfl (by decide) ?_) rfl ?_ <;> (repeat' (first | exact ltrI _ _ | exact ltrK _ _ | exact ltrX _ _ | exact ltrV _ _ | exact ltrT _ _ | exact ltrI [] _ | exact ltrV [] _ | exact wfH_nil | refine wfH_cons (by decide) ?_ ?_ | exact ltr_dec rfl)))
        | (refine wG_callS (f := 22) (sD _ (by omega) (by omega) _ _ _ rfl ?_) rfl ?_ <;> (repeat' (first | exact ltrI _ _ | exact ltrK _ _ | exact ltrX _ _ | exact ltrV _ _ | exact ltrT _ _ | exact ltrI [] _ | exact ltrV [] _ | exact wfH_nil | refine wfH_cons (by decide) ?_ ?_ | exact ltr_dec rfl)))
        | (first
    | refine wC_a rfl ?_
    | refine q_s rfl ?_
    | refine q_b rfl ?_
    | refine wG_nil ?_
    | refine wG_g rfl ?_
    | refine wG_pure (o_len_vwm rfl) ?_
    | refine wG_pure (o_not_d rfl) ?_
    | refine wG_p rfl (by first | exact rfl | omega) ?_
    | refine wG_pure (o_str2 rfl rfl rfl) ?_
    | refine wG_pure (e_istr rfl rfl (by omega)) ?_
    | refine wG_pure (e_istr0 rfl rfl (by omega)) ?_
    | refine wG_pure (o_not rfl) ?_
    | refine wG_pure (e_ia_vw0 rfl rfl (by omega) rfl) ?_
    | refine wG_pure (e_ia_vwp rfl rfl (by omega) rfl) ?_
    | refine wG_pure (e_ia_vwm rfl rfl (by omega) (by omega) rfl) ?_
    | refine wG_pure (e_ia_vwi rfl rfl (by omega) rfl) ?_
    | refine wG_pure (e_ia_vwn rfl rfl (by omega) (by omega) rfl) ?_
    | refine wG_n rfl rfl ?_
    | refine wG_u rfl rfl ?_
    | refine wG_new (o_mks rfl rfl (by omega) (by decide)) ?_) | (first
    | refine wE_nil (by kernel_rfl) ?_
    | refine wE_gy rfl ?_
    | refine wE_gn rfl rfl rfl ?_
    | refine wE_gu rfl rfl ?_
    | refine wE_gnn rfl rfl rfl ?_
    | refine wE_v (o_len_vwm rfl) rfl ?_
    | refine wE_v (o_not_d rfl) rfl ?_
    | refine wE_p rfl (by first | exact rfl | omega) rfl ?_
    | refine wE_v (o_str2 rfl rfl rfl) rfl ?_
    | refine wE_v (e_istr rfl rfl (by omega)) rfl ?_
    | refine wE_v (e_istr0 rfl rfl (by omega)) rfl ?_
    | refine wE_v (o_not rfl) rfl ?_
    | refine wE_v (e_ia_vw0 rfl rfl (by omega) rfl) rfl ?_
    | refine wE_v (e_ia_vwp rfl rfl (by omega) rfl) rfl ?_
    | refine wE_v (e_ia_vwm rfl rfl (by omega) (by omega) rfl) rfl ?_
    | refine wE_v (e_ia_vwi rfl rfl (by omega) rfl) rfl ?_
    | refine wE_v (e_ia_vwn rfl rfl (by omega) (by omega) rfl) rfl ?_
    | refine wE_n rfl rfl rfl ?_
    | refine wE_u rfl rfl rfl ?_
    | refine wE_new (o_mks rfl rfl (by omega) (by decide)) rfl ?_) | (refine wG_gd rfl (fun hgt => ?_) (fun hgf => ?_) <;> (first | simp only [eq_true hgt, decide_true] | simp only [eq_false hgf, decide_false])) | refine wC_cond_d rfl (fun hg => ?_) (fun hg => ?_))
      all_goals (first | exact ret_boolE (.inr rfl) ⟨_, retV_mv rfl, rfl⟩ | (exfalso; omega) | trace_state)
theorem con10 (a b nn : Bool) (r : Rc) (es : List Dt) (h1 : r.cs.length ≤ 9223372036854775807) (h2 : r.xs.length ≤ 9223372036854775807) (h3 : es.length ≤ 9223372036854775807) : Con Try.prog 10 true [.agg (rRow a b r), .vw nn (es.map tRow)] (.bool true) [] := by
  refine con_of_wp mixed fun10 (by simp) [] plain_nil ?_
  unfold ac10 ro10
  simp only [zipT]
  have c1 := con12 a b r h1 h2 1048576 (by decide) (by decide)
  repeat (first | refine wG_call c1 rfl rfl ?_ | (first
    | refine wC_a rfl ?_
    | refine q_s rfl ?_
    | refine q_b rfl ?_
    | refine wG_nil ?_
    | refine wG_g rfl ?_
    | refine wG_pure (o_len_vwm rfl) ?_
    | refine wG_pure (o_not_d rfl) ?_
    | refine wG_p rfl (by first | exact rfl | omega) ?_
    | refine wG_pure (o_str2 rfl rfl rfl) ?_
    | refine wG_pure (e_istr rfl rfl (by omega)) ?_
    | refine wG_pure (e_istr0 rfl rfl (by omega)) ?_
    | refine wG_pure (o_not rfl) ?_
    | refine wG_pure (e_ia_vw0 rfl rfl (by omega) rfl) ?_
    | refine wG_pure (e_ia_vwp rfl rfl (by omega) rfl) ?_
    | refine wG_pure (e_ia_vwm rfl rfl (by omega) (by omega) rfl) ?_
    | refine wG_pure (e_ia_vwi rfl rfl (by omega) rfl) ?_
    | refine wG_pure (e_ia_vwn rfl rfl (by omega) (by omega) rfl) ?_
    | refine wG_n rfl rfl ?_
    | refine wG_u rfl rfl ?_
    | refine wG_new (o_mks rfl rfl (by omega) (by decide)) ?_))
  refine wC_cond_d rfl (fun h => ?_) (fun h => ?_)
  · repeat (first
    | refine wC_a rfl ?_
    | refine q_s rfl ?_
    | refine q_b rfl ?_
    | refine wG_nil ?_
    | refine wG_g rfl ?_
    | refine wG_pure (o_len_vwm rfl) ?_
    | refine wG_pure (o_not_d rfl) ?_
    | refine wG_p rfl (by first | exact rfl | omega) ?_
    | refine wG_pure (o_str2 rfl rfl rfl) ?_
    | refine wG_pure (e_istr rfl rfl (by omega)) ?_
    | refine wG_pure (e_istr0 rfl rfl (by omega)) ?_
    | refine wG_pure (o_not rfl) ?_
    | refine wG_pure (e_ia_vw0 rfl rfl (by omega) rfl) ?_
    | refine wG_pure (e_ia_vwp rfl rfl (by omega) rfl) ?_
    | refine wG_pure (e_ia_vwm rfl rfl (by omega) (by omega) rfl) ?_
    | refine wG_pure (e_ia_vwi rfl rfl (by omega) rfl) ?_
    | refine wG_pure (e_ia_vwn rfl rfl (by omega) (by omega) rfl) ?_
    | refine wG_n rfl rfl ?_
    | refine wG_u rfl rfl ?_
    | refine wG_new (o_mks rfl rfl (by omega) (by decide)) ?_)
    exact ret_boolE (.inr rfl) ⟨_, retV_mv rfl, rfl⟩
  obtain ⟨s1, s2, s3⟩ := szR_ok (Int.not_lt.1 h)
  have c2 := con13 nn es h3 (szR 1048576 r) (Int.not_lt.1 h) s3
  by_cases hs : szR 1048576 r - (es.length : Int) < 0
  · rw [if_pos hs] at c2
    repeat (first | refine wG_call c2 rfl rfl ?_ | (first
    | refine wC_a rfl ?_
    | refine q_s rfl ?_
    | refine q_b rfl ?_
    | refine wG_nil ?_
    | refine wG_g rfl ?_
    | refine wG_pure (o_len_vwm rfl) ?_
    | refine wG_pure (o_not_d rfl) ?_
    | refine wG_p rfl (by first | exact rfl | omega) ?_
    | refine wG_pure (o_str2 rfl rfl rfl) ?_
    | refine wG_pure (e_istr rfl rfl (by omega)) ?_
    | refine wG_pure (e_istr0 rfl rfl (by omega)) ?_
    | refine wG_pure (o_not rfl) ?_
    | refine wG_pure (e_ia_vw0 rfl rfl (by omega) rfl) ?_
    | refine wG_pure (e_ia_vwp rfl rfl (by omega) rfl) ?_
    | refine wG_pure (e_ia_vwm rfl rfl (by omega) (by omega) rfl) ?_
    | refine wG_pure (e_ia_vwi rfl rfl (by omega) rfl) ?_
    | refine wG_pure (e_ia_vwn rfl rfl (by omega) (by omega) rfl) ?_
    | refine wG_n rfl rfl ?_
    | refine wG_u rfl rfl ?_
    | refine wG_new (o_mks rfl rfl (by omega) (by decide)) ?_))
    exact ret_boolE (.inr rfl) ⟨_, retV_mv rfl, rfl⟩
  · rw [if_neg hs] at c2
    have h1' : r.cs.length ≤ 1048576 := by omega
    have h2' : r.xs.length ≤ 1048576 := by omega
    have h3' : es.length ≤ 1048576 := by omega
    have cT := con15 a b r h1' h2'
    have cD := con16 nn es h3'
    have cE := con19 true true true true r h1' h2'
    have cF := con20 true true es h3'
    have sR := fun h nr q1 q2 => @sh21 r 1 h1' h2' (by decide) (by decide) h nr q1 q2
    have sD := fun k h0 h1 h nr q => @sh22 es k (by omega) h0 h1 h nr q
    by_cases hk : prOK r es
    · have cS0 := con36_yes true true true r es h1' h2' h3' hk
      have cI0 := con37_yes true true true r es h1' h2' h3' hk
      have hn := hk.1.1.1.1
      have hlT := tgL_len r es r.cs.length
      obtain ⟨n, hn2⟩ : ∃ n, r.cs.length = n := ⟨_, rfl⟩
      have hwl : (tgL r es r.cs.length).length ≤ 10 := by omega
      have cS1 : Con Try.prog 36 true [.agg (rRow true true r), .vw true (es.map tRow)] (.tup [.sl 0 2 0 (tgL r es r.cs.length).length, .bool true]) [(tgL r es r.cs.length).map vRow] := by rw [hlT]; exact cS0
      have cI1 : Con Try.prog 37 true [.agg (rRow true true r), .vw true (es.map tRow)] (.tup [.sl 0 2 0 (tgL r es r.cs.length).length, .bool true]) [(tgL r es r.cs.length).map vRow] := by rw [hlT]; exact cI0
      clear cS0 cI0 hlT
      generalize tgL r es r.cs.length = ws at *
      have cS : Con Try.prog 43 true [.agg (rRow true true r), .vw true (es.map tRow)] (.tup [.sl 0 1 0 ws.length, .bool true]) [(ws.map fun x => (x.f)).map iRow] := by
        first
          | (have e : (ws.map fun x => (x.f)) = ws := List.map_id'' (fun _ => rfl) ws; rw [e]; exact cS1)
          | exact con43 true true true true r es ws (by omega) cS1
      have cI : Con Try.prog 44 true [.agg (rRow true true r), .vw true (es.map tRow)] (.tup [.sl 0 1 0 ws.length, .bool true]) [(ws.map fun x => (x.f)).map iRow] := by
        first
          | (have e : (ws.map fun x => (x.f)) = ws := List.map_id'' (fun _ => rfl) ws; rw [e]; exact cI1)
          | exact con44_yes true true true r es ws (by omega) cI1
      have hvl : ws.length = (ws.map fun x => (x.f)).length := by simp
      rw [hvl] at cS cI
      have hv10 : (ws.map fun x => (x.f)).length ≤ 10 := by simp; omega
      clear cS1 cI1 hvl
      generalize (ws.map fun x => (x.f)) = vs at *
      have cQ := con18_same true true vs (by omega)
      have cH := con24 true vs.length 1 (by omega) (by decide) (by decide)
      have sV := fun h nr q => @sh23 vs 1 (by omega) (by decide) (by decide) h nr q
      clear hk hn
      repeat' (first
        | refine wC_dregE ?_ | refine wG_call c2 rfl rfl ?_ | refine wG_call2 cT rfl rfl ?_ | refine wE_call2 cT rfl rfl rfl ?_ | refine wG_call1 cD rfl rfl ?_ | refine wG_call1 cS (ag_rec rfl rfl rfl (ag_sl rfl rfl rfl tRow_plain ag_nil)) rfl ?_ | refine wG_call1 cI (ag_rec rfl rfl rfl (ag_sl rfl rfl rfl tRow_plain ag_nil)) rfl ?_ | refine wG_call cE (ag_rec rfl rfl rfl (ag_rec rfl rfl rfl ag_nil)) rfl ?_ | refine wE_call cE (ag_rec rfl rfl rfl (ag_rec rfl rfl rfl ag_nil)) rfl rfl ?_ | refine wG_call cF (ag_sl rfl rfl rfl tRow_plain (ag_sl rfl rfl rfl tRow_plain ag_nil)) rfl ?_ | refine wG_call cQ (ag_sl rfl rfl rfl iRow_plain (ag_sl rfl rfl rfl iRow_plain ag_nil)) rfl ?_ | refine wG_call cH (ag_sl rfl rfl (mks_len _ _).symm iRow_plain (ag_int rfl ag_nil)) rfl ?_
        | (refine wG_callS (f := 21) (sR _ _ _ _ rfl rfl (by decide) ?_) rfl ?_ <;> (repeat' (first | exact ltrI _ _ | exact ltrK _ _ | exact ltrX _ _ | exact ltrV _ _ | exact ltrT _ _ | exact wfH_nil | refine wfH_cons (by decide) ?_ ?_ | exact ltr_dec rfl)))
        | (refine wG_callS (f := 22) (sD _ (by omega) (by omega) _ _ _ rfl ?_) rfl ?_ <;> (repeat' (first | exact ltrI _ _ | exact ltrK _ _ | exact ltrX _ _ | exact ltrV _ _ | exact ltrT _ _ | exact wfH_nil | refine wfH_cons (by decide) ?_ ?_ | exact ltr_dec rfl)))
        | (refine wG_callS (f := 23) (sV _ _ _ rfl ?_) rfl ?_ <;> (repeat' (first | exact ltrI _ _ | exact ltrK _ _ | exact ltrX _ _ | exact ltrV _ _ | exact ltrT _ _ | exact wfH_nil | refine wfH_cons (by decide) ?_ ?_ | exact ltr_dec rfl)))
        | (first
    | refine wC_a rfl ?_
    | refine q_s rfl ?_
    | refine q_b rfl ?_
    | refine wG_nil ?_
    | refine wG_g rfl ?_
    | refine wG_pure (o_len_vwm rfl) ?_
    | refine wG_pure (o_not_d rfl) ?_
    | refine wG_p rfl (by first | exact rfl | omega) ?_
    | refine wG_pure (o_str2 rfl rfl rfl) ?_
    | refine wG_pure (e_istr rfl rfl (by omega)) ?_
    | refine wG_pure (e_istr0 rfl rfl (by omega)) ?_
    | refine wG_pure (o_not rfl) ?_
    | refine wG_pure (e_ia_vw0 rfl rfl (by omega) rfl) ?_
    | refine wG_pure (e_ia_vwp rfl rfl (by omega) rfl) ?_
    | refine wG_pure (e_ia_vwm rfl rfl (by omega) (by omega) rfl) ?_
    | refine wG_pure (e_ia_vwi rfl rfl (by omega) rfl) ?_
    | refine wG_pure (e_ia_vwn rfl rfl (by omega) (by omega) rfl) ?_
    | refine wG_n rfl rfl ?_
    | refine wG_u rfl rfl ?_
    | refine wG_new (o_mks rfl rfl (by omega) (by decide)) ?_) | (first
    | refine wE_nil (by kernel_rfl) ?_
    | refine wE_gy rfl ?_
    | refine wE_gn rfl rfl rfl ?_
    | refine wE_gu rfl rfl ?_
    | refine wE_gnn rfl rfl rfl ?_
    | refine wE_v (o_len_vwm rfl) rfl ?_
    | refine wE_v (o_not_d rfl) rfl ?_
    | refine wE_p rfl (by first | exact rfl | omega) rfl ?_
    | refine wE_v (o_str2 rfl rfl rfl) rfl ?_
    | refine wE_v (e_istr rfl rfl (by omega)) rfl ?_
    | refine wE_v (e_istr0 rfl rfl (by omega)) rfl ?_
    | refine wE_v (o_not rfl) rfl ?_
    | refine wE_v (e_ia_vw0 rfl rfl (by omega) rfl) rfl ?_
    | refine wE_v (e_ia_vwp rfl rfl (by omega) rfl) rfl ?_
    | refine wE_v (e_ia_vwm rfl rfl (by omega) (by omega) rfl) rfl ?_
    | refine wE_v (e_ia_vwi rfl rfl (by omega) rfl) rfl ?_
    | refine wE_v (e_ia_vwn rfl rfl (by omega) (by omega) rfl) rfl ?_
    | refine wE_n rfl rfl rfl ?_
    | refine wE_u rfl rfl rfl ?_
    | refine wE_new (o_mks rfl rfl (by omega) (by decide)) rfl ?_) | (refine wG_gd rfl (fun hgt => ?_) (fun hgf => ?_) <;> (first | simp only [eq_true hgt, decide_true] | simp only [eq_false hgf, decide_false])) | refine wC_cond_d rfl (fun hg => ?_) (fun hg => ?_))
      all_goals (first | exact ret_boolE (.inr rfl) ⟨_, retV_mv rfl, rfl⟩ | (exfalso; omega) | trace_state)
    · have cS1 := con36_no true true true r es h1' h2' h3' hk
      have cI1 := con37_no true true true r es h1' h2' h3' hk
      have cS : Con Try.prog 43 true [.agg (rRow true true r), .vw true (es.map tRow)] (.tup [.sl 0 1 0 0, .bool false]) [([] : List Int).map iRow] := by
        first
          | exact cS1
          | exact con43 true true true false r es [] (by decide) cS1
      have cI : Con Try.prog 44 true [.agg (rRow true true r), .vw true (es.map tRow)] (.tup [.nilS, .bool false]) [] := by
        first
          | exact cI1
          | exact con44_no true true true r es cI1
      have cQ : Con Try.prog 18 true [.nilS, .vw true (([] : List Int).map iRow)] (.bool true) [] := con_nil (con18_same false true [] (by decide))
      have cH : Con Try.prog 24 true [.nilS, .int .i64 1] (.int .i64 1) [] := con_nil (con24 false 0 1 (by decide) (by decide) (by decide))
      have cM := con23_nil 1
      clear hk cS1 cI1
      repeat' (first
        | refine wC_dregE ?_ | refine wG_call c2 rfl rfl ?_ | refine wG_call2 cT rfl rfl ?_ | refine wE_call2 cT rfl rfl rfl ?_ | refine wG_call1 cD rfl rfl ?_ | refine wG_call1 cS (ag_rec rfl rfl rfl (ag_sl rfl rfl rfl tRow_plain ag_nil)) rfl ?_ | refine wG_call cI (ag_rec rfl rfl rfl (ag_sl rfl rfl rfl tRow_plain ag_nil)) rfl ?_ | refine wG_call cE (ag_rec rfl rfl rfl (ag_rec rfl rfl rfl ag_nil)) rfl ?_ | refine wE_call cE (ag_rec rfl rfl rfl (ag_rec rfl rfl rfl ag_nil)) rfl rfl ?_ | refine wG_call cF (ag_sl rfl rfl rfl tRow_plain (ag_sl rfl rfl rfl tRow_plain ag_nil)) rfl ?_ | refine wG_call cQ (ag_any rfl (ag_sl rfl rfl rfl iRow_plain ag_nil)) rfl ?_ | refine wG_call cH rfl rfl ?_ | refine wG_call cM rfl rfl ?_
        | (refine wG_callS (f := 21) (sR _ _ _ _ rfl rfl (by decide) ?_) rfl ?_ <;> (repeat' (first | exact ltrI _ _ | exact ltrK _ _ | exact ltrX _ _ | exact ltrV _ _ | exact ltrT _ _ | exact ltrI [] _ | exact ltrV [] _ | exact wfH_nil | refine wfH_cons (by decide) ?_ ?_ | exact ltr_dec rfl)))
        | (refine wG_callS (f := 22) (sD _ (by omega) (by omega) _ _ _ rfl ?_) rfl ?_ <;> (repeat' (first | exact ltrI _ _ | exact ltrK _ _ | exact ltrX _ _ | exact ltrV _ _ | exact ltrT _ _ | exact ltrI [] _ | exact ltrV [] _ | exact wfH_nil | refine wfH_cons (by decide) ?_ ?_ | exact ltr_dec rfl)))
        | (first
    | refine wC_a rfl ?_
    | refine q_s rfl ?_
    | refine q_b rfl ?_
    | refine wG_nil ?_
    | refine wG_g rfl ?_
    | refine wG_pure (o_len_vwm rfl) ?_
    | refine wG_pure (o_not_d rfl) ?_
    | refine wG_p rfl (by first | exact rfl | omega) ?_
    | refine wG_pure (o_str2 rfl rfl rfl) ?_
    | refine wG_pure (e_istr rfl rfl (by omega)) ?_
    | refine wG_pure (e_istr0 rfl rfl (by omega)) ?_
    | refine wG_pure (o_not rfl) ?_
    | refine wG_pure (e_ia_vw0 rfl rfl (by omega) rfl) ?_
    | refine wG_pure (e_ia_vwp rfl rfl (by omega) rfl) ?_
    | refine wG_pure (e_ia_vwm rfl rfl (by omega) (by omega) rfl) ?_
    | refine wG_pure (e_ia_vwi rfl rfl (by omega) rfl) ?_
    | refine wG_pure (e_ia_vwn rfl rfl (by omega) (by omega) rfl) ?_
    | refine wG_n rfl rfl ?_
    | refine wG_u rfl rfl ?_
    | refine wG_new (o_mks rfl rfl (by omega) (by decide)) ?_) | (first
    | refine wE_nil (by kernel_rfl) ?_
    | refine wE_gy rfl ?_
    | refine wE_gn rfl rfl rfl ?_
    | refine wE_gu rfl rfl ?_
    | refine wE_gnn rfl rfl rfl ?_
    | refine wE_v (o_len_vwm rfl) rfl ?_
    | refine wE_v (o_not_d rfl) rfl ?_
    | refine wE_p rfl (by first | exact rfl | omega) rfl ?_
    | refine wE_v (o_str2 rfl rfl rfl) rfl ?_
    | refine wE_v (e_istr rfl rfl (by omega)) rfl ?_
    | refine wE_v (e_istr0 rfl rfl (by omega)) rfl ?_
    | refine wE_v (o_not rfl) rfl ?_
    | refine wE_v (e_ia_vw0 rfl rfl (by omega) rfl) rfl ?_
    | refine wE_v (e_ia_vwp rfl rfl (by omega) rfl) rfl ?_
    | refine wE_v (e_ia_vwm rfl rfl (by omega) (by omega) rfl) rfl ?_
    | refine wE_v (e_ia_vwi rfl rfl (by omega) rfl) rfl ?_
    | refine wE_v (e_ia_vwn rfl rfl (by omega) (by omega) rfl) rfl ?_
    | refine wE_n rfl rfl rfl ?_
    | refine wE_u rfl rfl rfl ?_
    | refine wE_new (o_mks rfl rfl (by omega) (by decide)) rfl ?_) | (refine wG_gd rfl (fun hgt => ?_) (fun hgf => ?_) <;> (first | simp only [eq_true hgt, decide_true] | simp only [eq_false hgf, decide_false])) | refine wC_cond_d rfl (fun hg => ?_) (fun hg => ?_))
      all_goals (first | exact ret_boolE (.inr rfl) ⟨_, retV_mv rfl, rfl⟩ | (exfalso; omega) | trace_state)
theorem con11 (a b nn : Bool) (r : Rc) (es : List Dt) (h1 : r.cs.length ≤ 9223372036854775807) (h2 : r.xs.length ≤ 9223372036854775807) (h3 : es.length ≤ 9223372036854775807) : Con Try.prog 11 true [.agg (rRow a b r), .vw nn (es.map tRow)] (.bool true) [] := by
  refine con_of_wp mixed fun11 (by simp) [] plain_nil ?_
  unfold ac11 ro11
  simp only [zipT]
  have c1 := con12 a b r h1 h2 1048576 (by decide) (by decide)
  repeat (first | refine wG_call c1 rfl rfl ?_ | (first
    | refine wC_a rfl ?_
    | refine q_s rfl ?_
    | refine q_b rfl ?_
    | refine wG_nil ?_
    | refine wG_g rfl ?_
    | refine wG_pure (o_len_vwm rfl) ?_
    | refine wG_pure (o_not_d rfl) ?_
    | refine wG_p rfl (by first | exact rfl | omega) ?_
    | refine wG_pure (o_str2 rfl rfl rfl) ?_
    | refine wG_pure (e_istr rfl rfl (by omega)) ?_
    | refine wG_pure (e_istr0 rfl rfl (by omega)) ?_
    | refine wG_pure (o_not rfl) ?_
    | refine wG_pure (e_ia_vw0 rfl rfl (by omega) rfl) ?_
    | refine wG_pure (e_ia_vwp rfl rfl (by omega) rfl) ?_
    | refine wG_pure (e_ia_vwm rfl rfl (by omega) (by omega) rfl) ?_
    | refine wG_pure (e_ia_vwi rfl rfl (by omega) rfl) ?_
    | refine wG_pure (e_ia_vwn rfl rfl (by omega) (by omega) rfl) ?_
    | refine wG_n rfl rfl ?_
    | refine wG_u rfl rfl ?_
    | refine wG_new (o_mks rfl rfl (by omega) (by decide)) ?_))
  refine wC_cond_d rfl (fun h => ?_) (fun h => ?_)
  · repeat (first
    | refine wC_a rfl ?_
    | refine q_s rfl ?_
    | refine q_b rfl ?_
    | refine wG_nil ?_
    | refine wG_g rfl ?_
    | refine wG_pure (o_len_vwm rfl) ?_
    | refine wG_pure (o_not_d rfl) ?_
    | refine wG_p rfl (by first | exact rfl | omega) ?_
    | refine wG_pure (o_str2 rfl rfl rfl) ?_
    | refine wG_pure (e_istr rfl rfl (by omega)) ?_
    | refine wG_pure (e_istr0 rfl rfl (by omega)) ?_
    | refine wG_pure (o_not rfl) ?_
    | refine wG_pure (e_ia_vw0 rfl rfl (by omega) rfl) ?_
    | refine wG_pure (e_ia_vwp rfl rfl (by omega) rfl) ?_
    | refine wG_pure (e_ia_vwm rfl rfl (by omega) (by omega) rfl) ?_
    | refine wG_pure (e_ia_vwi rfl rfl (by omega) rfl) ?_
    | refine wG_pure (e_ia_vwn rfl rfl (by omega) (by omega) rfl) ?_
    | refine wG_n rfl rfl ?_
    | refine wG_u rfl rfl ?_
    | refine wG_new (o_mks rfl rfl (by omega) (by decide)) ?_)
    exact ret_boolE (.inr rfl) ⟨_, retV_mv rfl, rfl⟩
  obtain ⟨s1, s2, s3⟩ := szR_ok (Int.not_lt.1 h)
  have c2 := con13 nn es h3 (szR 1048576 r) (Int.not_lt.1 h) s3
  by_cases hs : szR 1048576 r - (es.length : Int) < 0
  · rw [if_pos hs] at c2
    repeat (first | refine wG_call c2 rfl rfl ?_ | (first
    | refine wC_a rfl ?_
    | refine q_s rfl ?_
    | refine q_b rfl ?_
    | refine wG_nil ?_
    | refine wG_g rfl ?_
    | refine wG_pure (o_len_vwm rfl) ?_
    | refine wG_pure (o_not_d rfl) ?_
    | refine wG_p rfl (by first | exact rfl | omega) ?_
    | refine wG_pure (o_str2 rfl rfl rfl) ?_
    | refine wG_pure (e_istr rfl rfl (by omega)) ?_
    | refine wG_pure (e_istr0 rfl rfl (by omega)) ?_
    | refine wG_pure (o_not rfl) ?_
    | refine wG_pure (e_ia_vw0 rfl rfl (by omega) rfl) ?_
    | refine wG_pure (e_ia_vwp rfl rfl (by omega) rfl) ?_
    | refine wG_pure (e_ia_vwm rfl rfl (by omega) (by omega) rfl) ?_
    | refine wG_pure (e_ia_vwi rfl rfl (by omega) rfl) ?_
    | refine wG_pure (e_ia_vwn rfl rfl (by omega) (by omega) rfl) ?_
    | refine wG_n rfl rfl ?_
    | refine wG_u rfl rfl ?_
    | refine wG_new (o_mks rfl rfl (by omega) (by decide)) ?_))
    exact ret_boolE (.inr rfl) ⟨_, retV_mv rfl, rfl⟩
  · rw [if_neg hs] at c2
    have h1' : r.cs.length ≤ 1048576 := by omega
    have h2' : r.xs.length ≤ 1048576 := by omega
    have h3' : es.length ≤ 1048576 := by omega
    have cT := con15 a b r h1' h2'
    have cD := con16 nn es h3'
    have cE := con19 true true true true r h1' h2'
    have cF := con20 true true es h3'
    have sR := fun h nr q1 q2 => @sh21 r 1 h1' h2' (by decide) (by decide) h nr q1 q2
    have sD := fun k h0 h1 h nr q => @sh22 es k (by omega) h0 h1 h nr q
    by_cases hk : prOK r es
    · have cS0 := con36_yes true true true r es h1' h2' h3' hk
      have cI0 := con37_yes true true true r es h1' h2' h3' hk
      have hn := hk.1.1.1.1
      have hlT := tgL_len r es r.cs.length
      obtain ⟨n, hn2⟩ : ∃ n, r.cs.length = n := ⟨_, rfl⟩
      have hwl : (tgL r es r.cs.length).length ≤ 10 := by omega
      have cS1 : Con Try.prog 36 true [.agg (rRow true true r), .vw true (es.map tRow)] (.tup [.sl 0 2 0 (tgL r es r.cs.length).length, .bool true]) [(tgL r es r.cs.length).map vRow] := by rw [hlT]; exact cS0
      have cI1 : Con Try.prog 37 true [.agg (rRow true true r), .vw true (es.map tRow)] (.tup [.sl 0 2 0 (tgL r es r.cs.length).length, .bool true]) [(tgL r es r.cs.length).map vRow] := by rw [hlT]; exact cI0
      clear cS0 cI0 hlT
      generalize tgL r es r.cs.length = ws at *
      have cS : Con Try.prog 45 true [.agg (rRow true true r), .vw true (es.map tRow)] (.tup [.sl 0 1 0 ws.length, .bool true]) [(ws.map fun x => (x.t)).map iRow] := by
        first
          | (have e : (ws.map fun x => (x.t)) = ws := List.map_id'' (fun _ => rfl) ws; rw [e]; exact cS1)
          | exact con45 true true true true r es ws (by omega) cS1
      have cI : Con Try.prog 46 true [.agg (rRow true true r), .vw true (es.map tRow)] (.tup [.sl 0 1 0 ws.length, .bool true]) [(ws.map fun x => (x.t)).map iRow] := by
        first
          | (have e : (ws.map fun x => (x.t)) = ws := List.map_id'' (fun _ => rfl) ws; rw [e]; exact cI1)
          | exact con46_yes true true true r es ws (by omega) cI1
      have hvl : ws.length = (ws.map fun x => (x.t)).length := by simp
      rw [hvl] at cS cI
      have hv10 : (ws.map fun x => (x.t)).length ≤ 10 := by simp; omega
      clear cS1 cI1 hvl
      generalize (ws.map fun x => (x.t)) = vs at *
      have cQ := con18_same true true vs (by omega)
      have cH := con24 true vs.length 1 (by omega) (by decide) (by decide)
      have sV := fun h nr q => @sh23 vs 1 (by omega) (by decide) (by decide) h nr q
      clear hk hn
      repeat' (first
        | refine wC_dregE ?_ | refine wG_call c2 rfl rfl ?_ | refine wG_call2 cT rfl rfl ?_ | refine wE_call2 cT rfl rfl rfl ?_ | refine wG_call1 cD rfl rfl ?_ | refine wG_call1 cS (ag_rec rfl rfl rfl (ag_sl rfl rfl rfl tRow_plain ag_nil)) rfl ?_ | refine wG_call1 cI (ag_rec rfl rfl rfl (ag_sl rfl rfl rfl tRow_plain ag_nil)) rfl ?_ | refine wG_call cE (ag_rec rfl rfl rfl (ag_rec rfl rfl rfl ag_nil)) rfl ?_ | refine wE_call cE (ag_rec rfl rfl rfl (ag_rec rfl rfl rfl ag_nil)) rfl rfl ?_ | refine wG_call cF (ag_sl rfl rfl rfl tRow_plain (ag_sl rfl rfl rfl tRow_plain ag_nil)) rfl ?_ | refine wG_call cQ (ag_sl rfl rfl rfl iRow_plain (ag_sl rfl rfl rfl iRow_plain ag_nil)) rfl ?_ | refine wG_call cH (ag_sl rfl rfl (mks_len _ _).symm iRow_plain (ag_int rfl ag_nil)) rfl ?_
        | (refine wG_callS (f := 21) (sR _ _ _ _ rfl rfl (by decide) ?_) rfl ?_ <;> (repeat' (first | exact ltrI _ _ | exact ltrK _ _ | exact ltrX _ _ | exact ltrV _ _ | exact ltrT _ _ | exact wfH_nil | refine wfH_cons (by decide) ?_ ?_ | exact ltr_dec rfl)))
        | (refine wG_callS (f := 22) (sD _ (by omega) (by omega) _ _ _ rfl ?_) rfl ?_ <;> (repeat' (first | exact ltrI _ _ | exact ltrK _ _ | exact ltrX _ _ | exact ltrV _ _ | exact ltrT _ _ | exact wfH_nil | refine wfH_cons (by decide) ?_ ?_ | exact ltr_dec rfl)))
        | (refine wG_callS (f := 23) (sV _ _ _ rfl ?_) rfl ?_ <;> (repeat' (first | exact ltrI _ _ | exact ltrK _ _ | exact ltrX _ _ | exact ltrV _ _ | exact ltrT _ _ | exact wfH_nil | refine wfH_cons (by decide) ?_ ?_ | exact ltr_dec rfl)))
        | (first
    | refine wC_a rfl ?_
    | refine q_s rfl ?_
    | refine q_b rfl ?_
    | refine wG_nil ?_
    | refine wG_g rfl ?_
    | refine wG_pure (o_len_vwm rfl) ?_
    | refine wG_pure (o_not_d rfl) ?_
    | refine wG_p rfl (by first | exact rfl | omega) ?_
    | refine wG_pure (o_str2 rfl rfl rfl) ?_
    | refine wG_pure (e_istr rfl rfl (by omega)) ?_
    | refine wG_pure (e_istr0 rfl rfl (by omega)) ?_
    | refine wG_pure (o_not rfl) ?_
    | refine wG_pure (e_ia_vw0 rfl rfl (by omega) rfl) ?_
    | refine wG_pure (e_ia_vwp rfl rfl (by omega) rfl) ?_
    | refine wG_pure (e_ia_vwm rfl rfl (by omega) (by omega) rfl) ?_
    | refine wG_pure (e_ia_vwi rfl rfl (by omega) rfl) ?_
    | refine wG_pure (e_ia_vwn rfl rfl (by omega) (by omega) rfl) ?_
    | refine wG_n rfl rfl ?_
    | refine wG_u rfl rfl ?_
    | refine wG_new (o_mks rfl rfl (by omega) (by decide)) ?_) | (first
    | refine wE_nil (by kernel_rfl) ?_
    | refine wE_gy rfl ?_
    | refine wE_gn rfl rfl rfl ?_
    | refine wE_gu rfl rfl ?_
    | refine wE_gnn rfl rfl rfl ?_
    | refine wE_v (o_len_vwm rfl) rfl ?_
    | refine wE_v (o_not_d rfl) rfl ?_
    | refine wE_p rfl (by first | exact rfl | omega) rfl ?_
    | refine wE_v (o_str2 rfl rfl rfl) rfl ?_
    | refine wE_v (e_istr rfl rfl (by omega)) rfl ?_
    | refine wE_v (e_istr0 rfl rfl (by omega)) rfl ?_
    | refine wE_v (o_not rfl) rfl ?_
    | refine wE_v (e_ia_vw0 rfl rfl (by omega) rfl) rfl ?_
    | refine wE_v (e_ia_vwp rfl rfl (by omega) rfl) rfl ?_
    | refine wE_v (e_ia_vwm rfl rfl (by omega) (by omega) rfl) rfl ?_
    | refine wE_v (e_ia_vwi rfl rfl (by omega) rfl) rfl ?_
    | refine wE_v (e_ia_vwn rfl rfl (by omega) (by omega) rfl) rfl ?_
    | refine wE_n rfl rfl rfl ?_
    | refine wE_u rfl rfl rfl ?_
    | refine wE_new (o_mks rfl rfl (by omega) (by decide)) rfl ?_) | (refine wG_gd rfl (fun hgt => ?_) (fun hgf => ?_) <;> (first | simp only [eq_true hgt, decide_true] | simp only [eq_false hgf, decide_false])) | refine wC_cond_d rfl (fun hg => ?_) (fun hg => ?_))
      all_goals (first | exact ret_boolE (.inr rfl) ⟨_, retV_mv rfl, rfl⟩ | (exfalso; omega) | trace_state)
    · have cS1 := con36_no true true true r es h1' h2' h3' hk
      have cI1 := con37_no true true true r es h1' h2' h3' hk
      have cS : Con Try.prog 45 true [.agg (rRow true true r), .vw true (es.map tRow)] (.tup [.sl 0 1 0 0, .bool false]) [([] : List Int).map iRow] := by
        first
          | exact cS1
          | exact con45 true true true false r es [] (by decide) cS1
      have cI : Con Try.prog 46 true [.agg (rRow true true r), .vw true (es.map tRow)] (.tup [.nilS, .bool false]) [] := by
        first
          | exact cI1
          | exact con46_no true true true r es cI1
      have cQ : Con Try.prog 18 true [.nilS, .vw true (([] : List Int).map iRow)] (.bool true) [] := con_nil (con18_same false true [] (by decide))
      have cH : Con Try.prog 24 true [.nilS, .int .i64 1] (.int .i64 1) [] := con_nil (con24 false 0 1 (by decide) (by decide) (by decide))
      have cM := con23_nil 1
      clear hk cS1 cI1
      repeat' (first
        | refine wC_dregE ?_ | refine wG_call c2 rfl rfl ?_ | refine wG_call2 cT rfl rfl ?_ | refine wE_call2 cT rfl rfl rfl ?_ | refine wG_call1 cD rfl rfl ?_ | refine wG_call1 cS (ag_rec rfl rfl rfl (ag_sl rfl rfl rfl tRow_plain ag_nil)) rfl ?_ | refine wG_call cI (ag_rec rfl rfl rfl (ag_sl rfl rfl rfl tRow_plain ag_nil)) rfl ?_ | refine wG_call cE (ag_rec rfl rfl rfl (ag_rec rfl rfl rfl ag_nil)) rfl ?_ | refine wE_call cE (ag_rec rfl rfl rfl (ag_rec rfl rfl rfl ag_nil)) rfl rfl ?_ | refine wG_call cF (ag_sl rfl rfl rfl tRow_plain (ag_sl rfl rfl rfl tRow_plain ag_nil)) rfl ?_ | refine wG_call cQ (ag_any rfl (ag_sl rfl rfl rfl iRow_plain ag_nil)) rfl ?_ | refine wG_call cH rfl rfl ?_ | refine wG_call cM rfl rfl ?_
        | (refine wG_callS (f := 21) (sR _ _ _ _ rfl rfl (by decide) ?_) rfl ?_ <;> (repeat' (first | exact ltrI _ _ | exact ltrK _ _ | exact ltrX _ _ | exact ltrV _ _ | exact ltrT _ _ | exact ltrI [] _ | exact ltrV [] _ | exact wfH_nil | refine wfH_cons (by decide) ?_ ?_ | exact ltr_dec rfl)))
        | (refine wG_callS (f := 22) (sD _ (by omega) (by omega) _ _ _ rfl ?_) rfl ?_ <;> (repeat' (first | exact ltrI _ _ | exact ltrK _ _ | exact ltrX _ _ | exact ltrV _ _ | exact ltrT _ _ | exact ltrI [] _ | exact ltrV [] _ | exact wfH_nil | refine wfH_cons (by decide) ?_ ?_ | exact ltr_dec rfl)))
        | (first
    | refine wC_a rfl ?_
    | refine q_s rfl ?_
    | refine q_b rfl ?_
    | refine wG_nil ?_
    | refine wG_g rfl ?_
    | refine wG_pure (o_len_vwm rfl) ?_
    | refine wG_pure (o_not_d rfl) ?_
    | refine wG_p rfl (by first | exact rfl | omega) ?_
    | refine wG_pure (o_str2 rfl rfl rfl) ?_
    | refine wG_pure (e_istr rfl rfl (by omega)) ?_
    | refine wG_pure (e_istr0 rfl rfl (by omega)) ?_
    | refine wG_pure (o_not rfl) ?_
    | refine wG_pure (e_ia_vw0 rfl rfl (by omega) rfl) ?_
    | refine wG_pure (e_ia_vwp rfl rfl (by omega) rfl) ?_
    | refine wG_pure (e_ia_vwm rfl rfl (by omega) (by omega) rfl) ?_
    | refine wG_pure (e_ia_vwi rfl rfl (by omega) rfl) ?_
    | refine wG_pure (e_ia_vwn rfl rfl (by omega) (by omega) rfl) ?_
    | refine wG_n rfl rfl ?_
    | refine wG_u rfl rfl ?_
    | refine wG_new (o_mks rfl rfl (by omega) (by decide)) ?_) | (first
    | refine wE_nil (by kernel_rfl) ?_
    | refine wE_gy rfl ?_
    | refine wE_gn rfl rfl rfl ?_
    | refine wE_gu rfl rfl ?_
    | refine wE_gnn rfl rfl rfl ?_
    | refine wE_v (o_len_vwm rfl) rfl ?_
    | refine wE_v (o_not_d rfl) rfl ?_
    | refine wE_p rfl (by first | exact rfl | omega) rfl ?_
    | refine wE_v (o_str2 rfl rfl rfl) rfl ?_
    | refine wE_v (e_istr rfl rfl (by omega)) rfl ?_
    | refine wE_v (e_istr0 rfl rfl (by omega)) rfl ?_
    | refine wE_v (o_not rfl) rfl ?_
    | refine wE_v (e_ia_vw0 rfl rfl (by omega) rfl) rfl ?_
    | refine wE_v (e_ia_vwp rfl rfl (by omega) rfl) rfl ?_
    | refine wE_v (e_ia_vwm rfl rfl (by omega) (by omega) rfl) rfl ?_
    | refine wE_v (e_ia_vwi rfl rfl (by omega) rfl) rfl ?_
    | refine wE_v (e_ia_vwn rfl rfl (by omega) (by omega) rfl) rfl ?_
    | refine wE_n rfl rfl rfl ?_
    | refine wE_u rfl rfl rfl ?_
    | refine wE_new (o_mks rfl rfl (by omega) (by decide)) rfl ?_) | (refine wG_gd rfl (fun hgt => ?_) (fun hgf => ?_) <;> (first | simp only [eq_true hgt, decide_true] | simp only [eq_false hgf, decide_false])) | refine wC_cond_d rfl (fun hg => ?_) (fun hg => ?_))
      all_goals (first | exact ret_boolE (.inr rfl) ⟨_, retV_mv rfl, rfl⟩ | (exfalso; omega) | trace_state)
end Go.Proofs.Ythbpcnkifgoimaa.Rec
