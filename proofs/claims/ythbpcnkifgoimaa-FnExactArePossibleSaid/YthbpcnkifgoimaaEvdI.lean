/- Possible dates: both sides, and the law. -/
import Derived.Test.YthbpcnkifgoimaaEvdF
namespace Go.Proofs.Ythbpcnkifgoimaa.Rec
open Go Go.Proofs.Ythbpcnkifgoimaa.Ab Go.Proofs.Ythbpcnkifgoimaa.Il
attribute [local irreducible] wpO wpC wpDr wpQ wpG wpE stepA seqQ blkQ Ret RetG ev
set_option maxRecDepth 10000
set_option maxHeartbeats 8000000
set_option linter.unusedSimpArgs false
set_option linter.unusedVariables false

def ac7 : AC := (.seq (.reg [⟨(some 3), none, (.box 2 true (.t 0))⟩, ⟨(some 6), none, (.mv (.c (.bool false)))⟩]) (.seq (.seq (.reg [⟨(some 15), none, (.mv (.t 2))⟩, ⟨(some 16), none, (.len (.t 15))⟩, ⟨(some 17), none, (.bin .gtr (.t 16) (.c (.int .i64 1048576)))⟩]) (.cond (.t 17) (.seq (.reg [⟨(some 6), none, (.mv (.c (.bool true)))⟩]) .ret) .skip)) (.seq (.reg [⟨(some 7), none, (.mv (.c (.int .i64 1048576)))⟩]) (.seq (.reg [⟨(some 18), none, (.ld true 2 (.t 3))⟩, ⟨(some 19), none, (.mv (.t 7))⟩, ⟨(some 20), none, (.call 12 [(.t 18), (.t 19)])⟩, ⟨(some 7), none, (.mv (.t 20))⟩]) (.seq (.seq (.reg [⟨(some 21), none, (.mv (.t 7))⟩, ⟨(some 22), none, (.bin .lss (.t 21) (.c (.int .i64 0)))⟩]) (.cond (.t 22) (.seq (.reg [⟨(some 6), none, (.mv (.c (.bool true)))⟩]) .ret) .skip)) (.seq (.reg [⟨(some 23), none, (.mv (.t 1))⟩, ⟨(some 24), none, (.mv (.t 7))⟩, ⟨(some 25), none, (.call 13 [(.t 23), (.t 24)])⟩, ⟨(some 7), none, (.mv (.t 25))⟩]) (.seq (.seq (.reg [⟨(some 26), none, (.mv (.t 7))⟩, ⟨(some 27), none, (.bin .lss (.t 26) (.c (.int .i64 0)))⟩]) (.cond (.t 27) (.seq (.reg [⟨(some 6), none, (.mv (.c (.bool true)))⟩]) .ret) .skip)) (.seq (.reg [⟨(some 29), none, (.ld true 2 (.t 3))⟩, ⟨(some 30), none, (.call 15 [(.t 29)])⟩, ⟨(some 31), none, (.mv (.t 1))⟩, ⟨(some 32), none, (.call 16 [(.t 31)])⟩, ⟨(some 33), none, (.mv (.t 2))⟩, ⟨(some 34), none, (.call 34 [(.t 33)])⟩, ⟨(some 35), none, (.call 33 [(.t 30), (.t 32), (.t 34)])⟩, ⟨(some 28), none, (.mv (.t 35))⟩, ⟨(some 36), none, (.ext (.t 28) 0)⟩, ⟨(some 37), none, (.ext (.t 28) 1)⟩, ⟨(some 8), none, (.mv (.t 36))⟩, ⟨(some 9), none, (.mv (.t 37))⟩]) (.seq (.reg [⟨(some 38), none, (.ld true 2 (.t 3))⟩, ⟨(some 39), none, (.call 15 [(.t 38)])⟩, ⟨(some 10), none, (.alloc [.nilS, .nilS])⟩, ⟨none, none, (.st 2 (.t 10) (.t 39))⟩]) (.seq (.reg [⟨(some 40), none, (.mv (.t 1))⟩, ⟨(some 41), none, (.call 16 [(.t 40)])⟩, ⟨(some 11), none, (.mv (.t 41))⟩]) (.seq (.reg [⟨(some 42), none, (.mv (.t 2))⟩, ⟨(some 43), none, (.call 34 [(.t 42)])⟩, ⟨(some 12), none, (.mv (.t 43))⟩]) (.seq (.reg [⟨(some 45), none, (.ld true 2 (.t 10))⟩, ⟨(some 46), none, (.mv (.t 11))⟩, ⟨(some 47), none, (.mv (.t 12))⟩, ⟨(some 48), none, (.call 35 [(.t 45), (.t 46), (.t 47)])⟩, ⟨(some 44), none, (.mv (.t 48))⟩, ⟨(some 49), none, (.ext (.t 44) 0)⟩, ⟨(some 50), none, (.ext (.t 44) 1)⟩, ⟨(some 13), none, (.mv (.t 49))⟩, ⟨(some 14), none, (.mv (.t 50))⟩]) (.seq (.seq (.reg [⟨(some 51), none, (.mv (.t 13))⟩, ⟨(some 52), none, (.mv (.t 8))⟩, ⟨(some 53), none, (.bool2 true (.t 51) (.t 52))⟩, ⟨(some 54), none, (.mv (.t 53))⟩, ⟨(some 55), (some (54, false)), (.mv (.t 14))⟩, ⟨(some 56), (some (54, false)), (.mv (.t 9))⟩, ⟨(some 57), (some (54, false)), (.bool2 true (.t 55) (.t 56))⟩, ⟨(some 58), none, (.pick (.t 54) (.c (.bool true)) (.t 57))⟩]) (.cond (.t 58) (.seq (.reg [⟨(some 6), none, (.mv (.c (.bool false)))⟩]) .ret) .skip)) (.seq (.seq (.dreg [⟨(some 59), none, (.ld true 2 (.t 10))⟩, ⟨(some 60), none, (.ld true 2 (.t 3))⟩, ⟨(some 61), none, (.call 15 [(.t 60)])⟩, ⟨(some 62), none, (.call 19 [(.t 59), (.t 61)])⟩, ⟨(some 63), none, (.un .not (.t 62))⟩] [[], [], [1], [0, 1, 2], [0, 1, 2, 3]]) (.cond (.t 63) (.seq (.reg [⟨(some 6), none, (.mv (.c (.bool false)))⟩]) .ret) .skip)) (.seq (.seq (.reg [⟨(some 64), none, (.mv (.t 11))⟩, ⟨(some 65), none, (.mv (.t 1))⟩, ⟨(some 66), none, (.call 16 [(.t 65)])⟩, ⟨(some 67), none, (.call 20 [(.t 64), (.t 66)])⟩, ⟨(some 68), none, (.un .not (.t 67))⟩]) (.cond (.t 68) (.seq (.reg [⟨(some 6), none, (.mv (.c (.bool false)))⟩]) .ret) .skip)) (.seq (.seq (.reg [⟨(some 69), none, (.mv (.t 12))⟩, ⟨(some 70), none, (.mv (.t 2))⟩, ⟨(some 71), none, (.call 34 [(.t 70)])⟩, ⟨(some 72), none, (.call 18 [(.t 69), (.t 71)])⟩, ⟨(some 73), none, (.un .not (.t 72))⟩]) (.cond (.t 73) (.seq (.reg [⟨(some 6), none, (.mv (.c (.bool false)))⟩]) .ret) .skip)) (.seq (.reg [⟨(some 6), none, (.mv (.c (.bool true)))⟩]) .ret)))))))))))))))))
def ro7 : List AOp := [(.mv (.t 6))]
theorem fun7 : Fun Try.prog 7 74 ac7 ro7 := ⟨Try.f7, _, Try.func7, by kernel_rfl, rfl, rfl, by kernel_rfl, by kernel_rfl, by decide⟩
def ac33 : AC := (.seq (.reg [⟨(some 3), none, (.box 2 true (.t 0))⟩, ⟨(some 6), none, (.mv (.c (.bool false)))⟩, ⟨(some 7), none, (.mv (.c (.bool false)))⟩]) (.seq (.seq (.reg [⟨(some 13), none, (.ld true 2 (.t 3))⟩, ⟨(some 14), none, (.mv (.t 1))⟩, ⟨(some 15), none, (.call 61 [(.t 13), (.t 14)])⟩, ⟨(some 16), none, (.un .not (.t 15))⟩, ⟨(some 17), none, (.mv (.t 16))⟩, ⟨(some 18), (some (17, false)), (.mv (.t 2))⟩, ⟨(some 19), (some (17, false)), (.len (.t 18))⟩, ⟨(some 20), (some (17, false)), (.fa 0 (.t 3))⟩, ⟨(some 21), (some (17, false)), (.ld false 1 (.t 20))⟩, ⟨(some 22), (some (17, false)), (.len (.t 21))⟩, ⟨(some 23), (some (17, false)), (.bin .neq (.t 19) (.t 22))⟩, ⟨(some 24), none, (.pick (.t 17) (.c (.bool true)) (.t 23))⟩]) (.cond (.t 24) (.seq (.reg [⟨(some 6), none, (.mv (.c (.bool false)))⟩, ⟨(some 7), none, (.mv (.c (.bool false)))⟩]) .ret) .skip)) (.seq (.reg [⟨(some 25), none, (.ld true 2 (.t 3))⟩, ⟨(some 26), none, (.mv (.t 1))⟩, ⟨(some 27), none, (.call 72 [(.t 25), (.t 26)])⟩, ⟨(some 8), none, (.mv (.t 27))⟩]) (.seq (.reg [⟨(some 28), none, (.ld true 2 (.t 3))⟩, ⟨(some 29), none, (.call 73 [(.t 28)])⟩, ⟨(some 9), none, (.mv (.t 29))⟩]) (.seq (.reg [⟨(some 10), none, (.mv (.c (.bool true)))⟩]) (.seq (.seq (.reg [⟨(some 11), none, (.mv (.c (.int .i64 0)))⟩]) (.blk 0 (.loop (.seq (.seq (.reg [⟨(some 30), none, (.mv (.t 11))⟩, ⟨(some 31), none, (.mv (.t 2))⟩, ⟨(some 32), none, (.len (.t 31))⟩, ⟨(some 33), none, (.bin .lss (.t 30) (.t 32))⟩]) (.cond (.t 33) .skip (.exit 0))) (.seq (.blk 1 (.seq (.seq (.reg [⟨(some 36), none, (.mv (.t 2))⟩, ⟨(some 37), none, (.mv (.t 11))⟩, ⟨(some 38), none, (.ia 1 (.t 36) (.t 37))⟩, ⟨(some 39), none, (.ld false 1 (.t 38))⟩, ⟨(some 40), none, (.call 75 [(.t 39)])⟩, ⟨(some 41), none, (.un .not (.t 40))⟩]) (.cond (.t 41) (.seq (.reg [⟨(some 6), none, (.mv (.c (.bool false)))⟩, ⟨(some 7), none, (.mv (.c (.bool false)))⟩]) .ret) .skip)) (.seq (.dreg [⟨(some 42), none, (.mv (.t 10))⟩, ⟨(some 43), none, (.mv (.t 42))⟩, ⟨(some 44), (some (43, true)), (.mv (.t 2))⟩, ⟨(some 45), (some (43, true)), (.mv (.t 11))⟩, ⟨(some 46), (some (43, true)), (.ia 1 (.t 44) (.t 45))⟩, ⟨(some 47), (some (43, true)), (.ld false 1 (.t 46))⟩, ⟨(some 48), (some (43, true)), (.mv (.t 8))⟩, ⟨(some 49), (some (43, true)), (.mv (.t 11))⟩, ⟨(some 50), (some (43, true)), (.ia 2 (.t 48) (.t 49))⟩, ⟨(some 51), (some (43, true)), (.fa 0 (.t 50))⟩, ⟨(some 52), (some (43, true)), (.ld false 1 (.t 51))⟩, ⟨(some 53), (some (43, true)), (.mv (.t 8))⟩, ⟨(some 54), (some (43, true)), (.mv (.t 11))⟩, ⟨(some 55), (some (43, true)), (.ia 2 (.t 53) (.t 54))⟩, ⟨(some 56), (some (43, true)), (.fa 1 (.t 55))⟩, ⟨(some 57), (some (43, true)), (.ld false 1 (.t 56))⟩, ⟨(some 58), (some (43, true)), (.call 76 [(.t 47), (.t 52), (.t 57)])⟩, ⟨(some 59), none, (.pick (.t 43) (.t 58) (.c (.bool false)))⟩, ⟨(some 10), none, (.mv (.t 59))⟩] [[], [0], [0, 1], [0, 1], [0, 1, 2, 3], [0, 1, 2, 3, 4], [0, 1], [0, 1], [0, 1, 6, 7], [0, 1, 6, 7, 8], [0, 1, 6, 7, 8, 9], [0, 1], [0, 1], [0, 1, 11, 12], [0, 1, 11, 12, 13], [0, 1, 11, 12, 13, 14], [0, 1, 2, 3, 4, 5, 6, 7, 8, 9, 10, 11, 12, 13, 14, 15], [0, 1, 2, 3, 4, 5, 6, 7, 8, 9, 10, 11, 12, 13, 14, 15, 16], [0, 1, 2, 3, 4, 5, 6, 7, 8, 9, 10, 11, 12, 13, 14, 15, 16, 17]]) (.seq (.reg [⟨(some 12), none, (.mv (.c (.int .i64 0)))⟩]) (.blk 2 (.loop (.seq (.seq (.reg [⟨(some 60), none, (.mv (.t 12))⟩, ⟨(some 61), none, (.mv (.t 2))⟩, ⟨(some 62), none, (.len (.t 61))⟩, ⟨(some 63), none, (.bin .lss (.t 60) (.t 62))⟩]) (.cond (.t 63) .skip (.exit 2))) (.seq (.blk 3 (.seq (.dreg [⟨(some 66), none, (.mv (.t 9))⟩, ⟨(some 67), none, (.mv (.t 11))⟩, ⟨(some 68), none, (.ia 1 (.t 66) (.t 67))⟩, ⟨(some 69), none, (.ld false 1 (.t 68))⟩, ⟨(some 70), none, (.mv (.t 12))⟩, ⟨(some 71), none, (.call 74 [(.t 69), (.t 70)])⟩, ⟨(some 72), none, (.mv (.t 71))⟩, ⟨(some 73), (some (72, true)), (.mv (.t 2))⟩, ⟨(some 74), (some (72, true)), (.mv (.t 11))⟩, ⟨(some 75), (some (72, true)), (.ia 1 (.t 73) (.t 74))⟩, ⟨(some 76), (some (72, true)), (.ld false 1 (.t 75))⟩, ⟨(some 77), (some (72, true)), (.mv (.t 2))⟩, ⟨(some 78), (some (72, true)), (.mv (.t 12))⟩, ⟨(some 79), (some (72, true)), (.ia 1 (.t 77) (.t 78))⟩, ⟨(some 80), (some (72, true)), (.ld false 1 (.t 79))⟩, ⟨(some 81), (some (72, true)), (.bin .lss (.t 76) (.t 80))⟩, ⟨(some 82), none, (.pick (.t 72) (.t 81) (.c (.bool false)))⟩] [[], [], [0, 1], [0, 1, 2], [], [0, 1, 2, 3, 4], [0, 1, 2, 3, 4, 5], [0, 1, 2, 3, 4, 5, 6], [0, 1, 2, 3, 4, 5, 6], [0, 1, 2, 3, 4, 5, 6, 7, 8], [0, 1, 2, 3, 4, 5, 6, 7, 8, 9], [0, 1, 2, 3, 4, 5, 6], [0, 1, 2, 3, 4, 5, 6], [0, 1, 2, 3, 4, 5, 6, 11, 12], [0, 1, 2, 3, 4, 5, 6, 11, 12, 13], [0, 1, 2, 3, 4, 5, 6, 7, 8, 9, 10, 11, 12, 13, 14], [0, 1, 2, 3, 4, 5, 6, 7, 8, 9, 10, 11, 12, 13, 14, 15]]) (.cond (.t 82) (.reg [⟨(some 10), none, (.mv (.c (.bool false)))⟩]) .skip))) (.reg [⟨(some 64), none, (.mv (.t 12))⟩, ⟨(some 65), none, (.bin .add (.t 64) (.c (.int .i64 1)))⟩, ⟨(some 12), none, (.mv (.t 65))⟩]))))))))) (.reg [⟨(some 34), none, (.mv (.t 11))⟩, ⟨(some 35), none, (.bin .add (.t 34) (.c (.int .i64 1)))⟩, ⟨(some 11), none, (.mv (.t 35))⟩])))))) (.seq (.reg [⟨(some 83), none, (.mv (.t 10))⟩, ⟨(some 6), none, (.mv (.t 83))⟩, ⟨(some 7), none, (.mv (.c (.bool true)))⟩]) .ret)))))))
def ro33 : List AOp := [(.mv (.t 6)), (.mv (.t 7))]
theorem fun33 : Fun Try.prog 33 84 ac33 ro33 := ⟨Try.f33, _, Try.func33, by kernel_rfl, rfl, rfl, by kernel_rfl, by kernel_rfl, by decide⟩
def ac35 : AC := (.seq (.reg [⟨(some 3), none, (.box 2 true (.t 0))⟩, ⟨(some 6), none, (.mv (.c (.bool false)))⟩, ⟨(some 7), none, (.mv (.c (.bool false)))⟩]) (.seq (.reg [⟨(some 16), none, (.ld true 2 (.t 3))⟩, ⟨(some 17), none, (.mv (.t 1))⟩, ⟨(some 18), none, (.call 71 [(.t 16), (.t 17)])⟩, ⟨(some 15), none, (.mv (.t 18))⟩, ⟨(some 19), none, (.ext (.t 15) 0)⟩, ⟨(some 20), none, (.ext (.t 15) 1)⟩, ⟨(some 21), none, (.ext (.t 15) 2)⟩, ⟨(some 8), none, (.mv (.t 19))⟩, ⟨(some 9), none, (.mv (.t 20))⟩, ⟨(some 10), none, (.mv (.t 21))⟩]) (.seq (.seq (.reg [⟨(some 22), none, (.mv (.t 10))⟩, ⟨(some 23), none, (.un .not (.t 22))⟩, ⟨(some 24), none, (.mv (.t 23))⟩, ⟨(some 25), (some (24, false)), (.mv (.t 2))⟩, ⟨(some 26), (some (24, false)), (.len (.t 25))⟩, ⟨(some 27), (some (24, false)), (.mv (.t 9))⟩, ⟨(some 28), (some (24, false)), (.len (.t 27))⟩, ⟨(some 29), (some (24, false)), (.bin .neq (.t 26) (.t 28))⟩, ⟨(some 30), none, (.pick (.t 24) (.c (.bool true)) (.t 29))⟩, ⟨(some 31), none, (.mv (.t 30))⟩, ⟨(some 32), (some (31, false)), (.mv (.t 2))⟩, ⟨(some 33), (some (31, false)), (.call 77 [(.t 32), (.c (.fn 78 []))])⟩, ⟨(some 34), none, (.pick (.t 31) (.c (.bool true)) (.t 33))⟩]) (.cond (.t 34) (.seq (.reg [⟨(some 6), none, (.mv (.c (.bool false)))⟩, ⟨(some 7), none, (.mv (.c (.bool false)))⟩]) .ret) .skip)) (.seq (.seq (.reg [⟨(some 35), none, (.mv (.t 2))⟩, ⟨(some 36), none, (.len (.t 35))⟩, ⟨(some 37), none, (.mv (.c (.int .i64 0)))⟩]) (.blk 0 (.loop (.seq (.reg [⟨(some 38), none, (.bin .lss (.t 37) (.t 36))⟩]) (.seq (.cond (.t 38) .skip (.exit 0)) (.seq (.blk 1 (.seq (.reg [⟨(some 39), none, (.mv (.t 37))⟩, ⟨(some 40), none, (.ia 1 (.t 35) (.t 37))⟩, ⟨(some 41), none, (.ld false 1 (.t 40))⟩, ⟨(some 11), none, (.mv (.t 39))⟩, ⟨(some 12), none, (.mv (.t 41))⟩]) (.seq (.seq (.dreg [⟨(some 42), none, (.mv (.t 12))⟩, ⟨(some 43), none, (.mv (.t 9))⟩, ⟨(some 44), none, (.mv (.t 11))⟩, ⟨(some 45), none, (.ia 2 (.t 43) (.t 44))⟩, ⟨(some 46), none, (.fa 0 (.t 45))⟩, ⟨(some 47), none, (.ld false 1 (.t 46))⟩, ⟨(some 48), none, (.mv (.t 9))⟩, ⟨(some 49), none, (.mv (.t 11))⟩, ⟨(some 50), none, (.ia 2 (.t 48) (.t 49))⟩, ⟨(some 51), none, (.fa 1 (.t 50))⟩, ⟨(some 52), none, (.ld false 1 (.t 51))⟩, ⟨(some 53), none, (.call 80 [(.t 42), (.t 47), (.t 52)])⟩, ⟨(some 54), none, (.un .not (.t 53))⟩] [[], [], [], [1, 2], [1, 2, 3], [1, 2, 3, 4], [], [], [6, 7], [6, 7, 8], [6, 7, 8, 9], [0, 1, 2, 3, 4, 5, 6, 7, 8, 9, 10], [0, 1, 2, 3, 4, 5, 6, 7, 8, 9, 10, 11]]) (.cond (.t 54) (.seq (.reg [⟨(some 6), none, (.mv (.c (.bool false)))⟩, ⟨(some 7), none, (.mv (.c (.bool true)))⟩]) .ret) .skip)) (.seq (.reg [⟨(some 55), none, (.mv (.t 8))⟩, ⟨(some 56), none, (.nck (.t 55))⟩, ⟨(some 57), none, (.fa 2 (.t 56))⟩, ⟨(some 58), none, (.ld false 1 (.t 57))⟩, ⟨(some 59), none, (.mv (.t 11))⟩, ⟨(some 60), none, (.ia 1 (.t 58) (.t 59))⟩, ⟨(some 61), none, (.ld false 1 (.t 60))⟩, ⟨(some 62), none, (.len (.t 61))⟩, ⟨(some 63), none, (.mv (.c (.int .i64 0)))⟩]) (.blk 2 (.loop (.seq (.reg [⟨(some 64), none, (.bin .lss (.t 63) (.t 62))⟩]) (.seq (.cond (.t 64) .skip (.exit 2)) (.seq (.blk 3 (.seq (.reg [⟨(some 65), none, (.mv (.t 63))⟩, ⟨(some 66), none, (.ia 1 (.t 61) (.t 63))⟩, ⟨(some 67), none, (.ld false 1 (.t 66))⟩, ⟨(some 13), none, (.mv (.t 65))⟩, ⟨(some 14), none, (.mv (.t 67))⟩]) (.seq (.reg [⟨(some 68), none, (.mv (.t 14))⟩, ⟨(some 69), none, (.mv (.t 68))⟩, ⟨(some 70), (some (69, true)), (.mv (.t 12))⟩, ⟨(some 71), (some (69, true)), (.mv (.t 2))⟩, ⟨(some 72), (some (69, true)), (.mv (.t 13))⟩, ⟨(some 73), (some (69, true)), (.ia 1 (.t 71) (.t 72))⟩, ⟨(some 74), (some (69, true)), (.ld false 1 (.t 73))⟩, ⟨(some 75), (some (69, true)), (.bin .lss (.t 70) (.t 74))⟩, ⟨(some 76), none, (.pick (.t 69) (.t 75) (.c (.bool false)))⟩]) (.cond (.t 76) (.seq (.reg [⟨(some 6), none, (.mv (.c (.bool false)))⟩, ⟨(some 7), none, (.mv (.c (.bool true)))⟩]) .ret) .skip)))) (.reg [⟨(some 77), none, (.bin .add (.t 63) (.c (.int .i64 1)))⟩, ⟨(some 63), none, (.mv (.t 77))⟩])))))))))) (.reg [⟨(some 78), none, (.bin .add (.t 37) (.c (.int .i64 1)))⟩, ⟨(some 37), none, (.mv (.t 78))⟩]))))))) (.seq (.reg [⟨(some 6), none, (.mv (.c (.bool true)))⟩, ⟨(some 7), none, (.mv (.c (.bool true)))⟩]) .ret)))))
def ro35 : List AOp := [(.mv (.t 6)), (.mv (.t 7))]
theorem fun35 : Fun Try.prog 35 79 ac35 ro35 := ⟨Try.f35, _, Try.func35, by kernel_rfl, rfl, rfl, by kernel_rfl, by kernel_rfl, by decide⟩
def ac78 : AC := (.seq (.reg [⟨(some 2), none, (.mv (.c (.bool false)))⟩]) (.seq (.reg [⟨(some 3), none, (.mv (.t 0))⟩, ⟨(some 4), none, (.call 79 [(.t 3)])⟩, ⟨(some 5), none, (.un .not (.t 4))⟩, ⟨(some 2), none, (.mv (.t 5))⟩]) .ret))
def ro78 : List AOp := [(.mv (.t 2))]
theorem fun78 : Fun Try.prog 78 6 ac78 ro78 := ⟨Try.f78, _, Try.func78, by kernel_rfl, rfl, rfl, by kernel_rfl, by kernel_rfl, by decide⟩

def isY (x : Int) : Prop := -20000 ≤ x ∧ x ≤ 2100
instance (x : Int) : Decidable (isY x) := inferInstanceAs (Decidable (-20000 ≤ x ∧ x ≤ 2100))
noncomputable def inO (r : Rc) (es : List Dt) (ds : List Int) (i : Nat) : Prop := (ownI r es es.length i).f ≤ ds.getD i default ∧ ds.getD i default ≤ (ownI r es es.length i).t
noncomputable def badP (r : Rc) (ds : List Int) (i k : Nat) : Prop := later r i k = true ∧ ds.getD i default < ds.getD k default
noncomputable def okP (r : Rc) (es : List Dt) (ds : List Int) (i : Nat) : Prop := inO r es ds i ∧ ∀ k, k < ds.length → ¬ badP r ds i k
def arG (r : Rc) (es : List Dt) (ds : List Int) : Prop := GoodE r es ∧ ds.length = r.cs.length ∧ ∀ i, i < ds.length → isY (ds.getD i default)
open Classical in
noncomputable def arV (r : Rc) (es : List Dt) (ds : List Int) : AV := .tup [.bool (decide (arG r es ds ∧ ∀ i, i < ds.length → okP r es ds i)), .bool (decide (arG r es ds))]
open Classical in
theorem arV_no {r : Rc} {es : List Dt} {ds : List Int} (h : ¬ arG r es ds) : arV r es ds = .tup [.bool false, .bool false] := by
  unfold arV; rw [decide_eq_false h, decide_eq_false (fun q => h q.1)]
open Classical in
theorem arV_f {r : Rc} {es : List Dt} {ds : List Int} (h : arG r es ds) {i : Nat} (hi : i < ds.length) (h2 : ¬ okP r es ds i) : arV r es ds = .tup [.bool false, .bool true] := by
  unfold arV; rw [decide_eq_true h, decide_eq_false (fun q => h2 (q.2 i hi))]
open Classical in
theorem arV_t {r : Rc} {es : List Dt} {ds : List Int} (h : arG r es ds) (h2 : ∀ i, i < ds.length → okP r es ds i) : arV r es ds = .tup [.bool true, .bool true] := by
  unfold arV; rw [decide_eq_true h, decide_eq_true ⟨h, h2⟩]
theorem ret_bb {x y : AOp} {s : St} {a b : Bool} (h1 : retV s x = some (.bool a)) (h2 : retV s y = some (.bool b)) : Ret [x, y] [] (.tup [.bool a, .bool b]) [] .r s :=
  ret_pl (.inr rfl) (retVs_2 h1 h2) rfl rfl (by simp)
theorem okP_up {r : Rc} {es : List Dt} {ds : List Int} {i : Nat} (h : ∀ j, j < i → okP r es ds j) (h2 : okP r es ds i) : ∀ j, j < i + 1 → okP r es ds j := by
  intro j hj
  rcases Nat.lt_or_ge j i with hji | hji
  · exact h j hji
  · obtain rfl : j = i := by omega
    exact h2
theorem lt_up {P : Nat → Prop} {i : Nat} (h : ∀ j, j < i → P j) (h2 : P i) : ∀ j, j < i + 1 → P j := by
  intro j hj
  rcases Nat.lt_or_ge j i with hji | hji
  · exact h j hji
  · obtain rfl : j = i := by omega
    exact h2
/-- What the specification's flag tells inside the inner loop. -/
def flP (r : Rc) (es : List Dt) (ds : List Int) (i k : Nat) : Prop := (∀ j, j < i → okP r es ds j) ∧ inO r es ds i ∧ ∀ q, q < k → ¬ badP r ds i q
theorem flP_up {r : Rc} {es : List Dt} {ds : List Int} {i k : Nat} (h : ¬ badP r ds i k) : flP r es ds i (k + 1) ↔ flP r es ds i k :=
  ⟨fun ⟨a, b, c⟩ => ⟨a, b, fun q hq => c q (by omega)⟩, fun ⟨a, b, c⟩ => ⟨a, b, lt_up c h⟩⟩
theorem flP_bad {r : Rc} {es : List Dt} {ds : List Int} {i k : Nat} (h : badP r ds i k) : ¬ flP r es ds i (k + 1) := fun ⟨_, _, c⟩ => c k (by omega) h
theorem flP_end {r : Rc} {es : List Dt} {ds : List Int} {i : Nat} : flP r es ds i ds.length ↔ ∀ j, j < i + 1 → okP r es ds j :=
  ⟨fun ⟨a, b, c⟩ => lt_up a ⟨b, c⟩, fun h => ⟨fun j hj => h j (by omega), (h i (by omega)).1, (h i (by omega)).2⟩⟩
theorem con33 (a b nn mm : Bool) (r : Rc) (es : List Dt) (ds : List Int) (h1 : r.cs.length ≤ 1048576) (h2 : r.xs.length ≤ 1048576) (h3 : es.length ≤ 1048576) (h4 : ds.length ≤ 1048576) : Con Try.prog 33 true [.agg (rRow a b r), .vw nn (es.map tRow), .vw mm (ds.map iRow)] (arV r es ds) [] := by
  classical
  refine con_of_wp mixed fun33 (by simp) [] plain_nil ?_
  unfold ac33 ro33
  simp only [zipT]
  have c1 := con61 a b nn r es h1 h2 h3
  by_cases hE : GoodE r es
  · rw [decide_eq_true hE] at c1
    have hG := hE.1.1
    have h10 := hG.1
    have e0 : ∀ n : Nat, 0 + ((n : Int)).toNat = n := fun n => by simp
    repeat (first | refine wG_call c1 rfl rfl ?_ | (first
    | refine wC_a rfl ?_
    | refine q_s rfl ?_
    | refine q_b rfl ?_
    | refine wG_nil ?_
    | refine wG_g rfl ?_
    | refine wG_pure (o_len_vwm rfl) ?_
    | refine wG_pure (o_not_d rfl) ?_
    | refine wG_p rfl (by first | exact rfl | omega) ?_
    | refine wG_pure (o_str2 rfl rfl rfl) ?_
    | refine wG_pure (e_istr rfl rfl (by omega)) ?_
    | refine wG_pure (e_istr0 rfl rfl (by omega)) ?_
    | refine wG_pure (o_not rfl) ?_
    | refine wG_pure (e_ia_vw0 rfl rfl (by omega) rfl) ?_
    | refine wG_pure (e_ia_vwp rfl rfl (by omega) rfl) ?_
    | refine wG_pure (e_ia_vwm rfl rfl (by omega) (by omega) rfl) ?_
    | refine wG_pure (e_ia_vwi rfl rfl (by omega) rfl) ?_
    | refine wG_pure (e_ia_vwn rfl rfl (by omega) (by omega) rfl) ?_
    | refine wG_n rfl rfl ?_
    | refine wG_u rfl rfl ?_
    | refine wG_new (o_mks rfl rfl (by omega) (by decide)) ?_))
    refine wC_cond_d rfl (fun hn => ?_) (fun hn => ?_)
    · rw [arV_no (fun h => hn (by rw [h.2.1]))]
      repeat (first
    | refine wC_a rfl ?_
    | refine q_s rfl ?_
    | refine q_b rfl ?_
    | refine wG_nil ?_
    | refine wG_g rfl ?_
    | refine wG_pure (o_len_vwm rfl) ?_
    | refine wG_pure (o_not_d rfl) ?_
    | refine wG_p rfl (by first | exact rfl | omega) ?_
    | refine wG_pure (o_str2 rfl rfl rfl) ?_
    | refine wG_pure (e_istr rfl rfl (by omega)) ?_
    | refine wG_pure (e_istr0 rfl rfl (by omega)) ?_
    | refine wG_pure (o_not rfl) ?_
    | refine wG_pure (e_ia_vw0 rfl rfl (by omega) rfl) ?_
    | refine wG_pure (e_ia_vwp rfl rfl (by omega) rfl) ?_
    | refine wG_pure (e_ia_vwm rfl rfl (by omega) (by omega) rfl) ?_
    | refine wG_pure (e_ia_vwi rfl rfl (by omega) rfl) ?_
    | refine wG_pure (e_ia_vwn rfl rfl (by omega) (by omega) rfl) ?_
    | refine wG_n rfl rfl ?_
    | refine wG_u rfl rfl ?_
    | refine wG_new (o_mks rfl rfl (by omega) (by decide)) ?_)
      exact ret_bb (retV_mv rfl) (retV_mv rfl)
    have hn2 : ds.length = r.cs.length := by omega
    have cO := con72 a b nn r es h10 h3
    have cL := con73 a b r hG
    repeat (first | refine wG_call c1 rfl rfl ?_ | refine wG_call1 cO rfl rfl ?_ | refine wG_call1 cL rfl rfl ?_ | (first
    | refine wC_a rfl ?_
    | refine q_s rfl ?_
    | refine q_b rfl ?_
    | refine wG_nil ?_
    | refine wG_g rfl ?_
    | refine wG_pure (o_len_vwm rfl) ?_
    | refine wG_pure (o_not_d rfl) ?_
    | refine wG_p rfl (by first | exact rfl | omega) ?_
    | refine wG_pure (o_str2 rfl rfl rfl) ?_
    | refine wG_pure (e_istr rfl rfl (by omega)) ?_
    | refine wG_pure (e_istr0 rfl rfl (by omega)) ?_
    | refine wG_pure (o_not rfl) ?_
    | refine wG_pure (e_ia_vw0 rfl rfl (by omega) rfl) ?_
    | refine wG_pure (e_ia_vwp rfl rfl (by omega) rfl) ?_
    | refine wG_pure (e_ia_vwm rfl rfl (by omega) (by omega) rfl) ?_
    | refine wG_pure (e_ia_vwi rfl rfl (by omega) rfl) ?_
    | refine wG_pure (e_ia_vwn rfl rfl (by omega) (by omega) rfl) ?_
    | refine wG_n rfl rfl ?_
    | refine wG_u rfl rfl ?_
    | refine wG_new (o_mks rfl rfl (by omega) (by decide)) ?_))
    refine wC_loop (Nat × Bool) (fun x => ⟨[(2, .vw mm (ds.map iRow)), (8, .sl 1 2 0 r.cs.length), (9, .sl 2 1 0 r.cs.length), (10, .bool x.2), (11, .int .i64 (x.1 : Int))], [(2, some ((maskL (later r) r.cs.length).map iRow)), (1, some ((ownSL r es r.cs.length).map vRow)), (0, some [[.vw a (r.cs.map cRow), .vw b (r.xs.map xRow)]])], 3⟩) (fun x => x.1 ≤ ds.length ∧ (∀ j, j < x.1 → isY (ds.getD j default)) ∧ (x.2 = true ↔ ∀ j, j < x.1 → okP r es ds j)) (fun x => ds.length - x.1) (0, true) ⟨Nat.zero_le _, fun q hq => absurd hq (Nat.not_lt_zero _), fun _ q hq => absurd hq (Nat.not_lt_zero _), fun _ => rfl⟩ ?_ (fun _ _ => Nat.zero_le _) ?_
    · exact ⟨⟨⟨rfl, rfl⟩, ⟨rfl, rfl⟩, ⟨rfl, rfl⟩, ⟨rfl, rfl⟩, ⟨rfl, rfl⟩, trivial⟩, ⟨rfl, (by show 2 < 3; decide), ltrI _ _⟩, ⟨rfl, (by show 1 < 3; decide), ltrV _ _⟩, ⟨rfl, (by show 0 < 3; decide), by simp [AV.ltr]⟩, trivial⟩
    rintro ⟨i, p⟩ ⟨hi, hy, hp⟩
    simp only at hi hy hp ⊢
    repeat (first
    | refine wC_a rfl ?_
    | refine q_s rfl ?_
    | refine q_b rfl ?_
    | refine wG_nil ?_
    | refine wG_g rfl ?_
    | refine wG_pure (o_len_vwm rfl) ?_
    | refine wG_pure (o_not_d rfl) ?_
    | refine wG_p rfl (by first | exact rfl | omega) ?_
    | refine wG_pure (o_str2 rfl rfl rfl) ?_
    | refine wG_pure (e_istr rfl rfl (by omega)) ?_
    | refine wG_pure (e_istr0 rfl rfl (by omega)) ?_
    | refine wG_pure (o_not rfl) ?_
    | refine wG_pure (e_ia_vw0 rfl rfl (by omega) rfl) ?_
    | refine wG_pure (e_ia_vwp rfl rfl (by omega) rfl) ?_
    | refine wG_pure (e_ia_vwm rfl rfl (by omega) (by omega) rfl) ?_
    | refine wG_pure (e_ia_vwi rfl rfl (by omega) rfl) ?_
    | refine wG_pure (e_ia_vwn rfl rfl (by omega) (by omega) rfl) ?_
    | refine wG_n rfl rfl ?_
    | refine wG_u rfl rfl ?_
    | refine wG_new (o_mks rfl rfl (by omega) (by decide)) ?_)
    refine wC_cond_d rfl (fun h5 => ?_) (fun h5 => ?_)
    · have hi2 : i < ds.length := by omega
      have hi3 : i < r.cs.length := by omega
      have hgm := maskL_get (W := later r) hi3
      have hgi := ownSL_get hE hi3
      by_cases hyi : isY (ds.getD i default)
      · have cy := con75 (ds.getD i default)
        rw [decide_eq_true (by exact hyi)] at cy
        have hy2 := lt_up hy hyi
        have cw := con76 (ds.getD i default) (ownI r es es.length i).f (ownI r es es.length i).t
        cases p
        all_goals (repeat (first | refine wG_call cy rfl rfl ?_ | refine wG_call cw rfl rfl ?_ | (refine wG_pure (e_ia_sl rfl rfl (by omega) (by omega)) ?_; simp only [e0]) | refine wG_pure (o_ldf_pt rfl rfl hgi rfl) ?_ | (first
    | refine wC_a rfl ?_
    | refine q_s rfl ?_
    | refine q_b rfl ?_
    | refine wG_nil ?_
    | refine wG_g rfl ?_
    | refine wG_pure (o_len_vwm rfl) ?_
    | refine wG_pure (o_not_d rfl) ?_
    | refine wG_p rfl (by first | exact rfl | omega) ?_
    | refine wG_pure (o_str2 rfl rfl rfl) ?_
    | refine wG_pure (e_istr rfl rfl (by omega)) ?_
    | refine wG_pure (e_istr0 rfl rfl (by omega)) ?_
    | refine wG_pure (o_not rfl) ?_
    | refine wG_pure (e_ia_vw0 rfl rfl (by omega) rfl) ?_
    | refine wG_pure (e_ia_vwp rfl rfl (by omega) rfl) ?_
    | refine wG_pure (e_ia_vwm rfl rfl (by omega) (by omega) rfl) ?_
    | refine wG_pure (e_ia_vwi rfl rfl (by omega) rfl) ?_
    | refine wG_pure (e_ia_vwn rfl rfl (by omega) (by omega) rfl) ?_
    | refine wG_n rfl rfl ?_
    | refine wG_u rfl rfl ?_
    | refine wG_new (o_mks rfl rfl (by omega) (by decide)) ?_)))
        all_goals (first
          | refine wC_loop (Nat × Bool) (fun x => ⟨[(2, .vw mm (ds.map iRow)), (8, .sl 1 2 0 r.cs.length), (9, .sl 2 1 0 r.cs.length), (10, .bool x.2), (11, .int .i64 (i : Int)), (12, .int .i64 (x.1 : Int))], [(2, some ((maskL (later r) r.cs.length).map iRow)), (1, some ((ownSL r es r.cs.length).map vRow)), (0, some [[.vw a (r.cs.map cRow), .vw b (r.xs.map xRow)]])], 3⟩) (fun x => x.1 ≤ ds.length ∧ (x.2 = true ↔ flP r es ds i x.1)) (fun x => ds.length - x.1) (0, false) ⟨Nat.zero_le _, fun h => by (cases h), fun h => absurd (hp.2 h.1) (by decide)⟩ ⟨⟨⟨rfl, rfl⟩, ⟨rfl, rfl⟩, ⟨rfl, rfl⟩, ⟨rfl, rfl⟩, ⟨rfl, rfl⟩, ⟨rfl, rfl⟩, trivial⟩, ⟨rfl, (by show 2 < 3; decide), ltrI _ _⟩, ⟨rfl, (by show 1 < 3; decide), ltrV _ _⟩, ⟨rfl, (by show 0 < 3; decide), by simp [AV.ltr]⟩, trivial⟩ (fun _ _ => Nat.zero_le _) ?_
          | refine wC_loop (Nat × Bool) (fun x => ⟨[(2, .vw mm (ds.map iRow)), (8, .sl 1 2 0 r.cs.length), (9, .sl 2 1 0 r.cs.length), (10, .bool x.2), (11, .int .i64 (i : Int)), (12, .int .i64 (x.1 : Int))], [(2, some ((maskL (later r) r.cs.length).map iRow)), (1, some ((ownSL r es r.cs.length).map vRow)), (0, some [[.vw a (r.cs.map cRow), .vw b (r.xs.map xRow)]])], 3⟩) (fun x => x.1 ≤ ds.length ∧ (x.2 = true ↔ flP r es ds i x.1)) (fun x => ds.length - x.1) (0, decide ((ownI r es es.length i).f ≤ ds.getD i default ∧ ds.getD i default ≤ (ownI r es es.length i).t)) ⟨Nat.zero_le _, fun h => ⟨hp.1 rfl, by unfold inO; exact of_decide_eq_true h, fun q hq => absurd hq (Nat.not_lt_zero _)⟩, fun h => by have := h.2.1; unfold inO at this; exact decide_eq_true this⟩ ⟨⟨⟨rfl, rfl⟩, ⟨rfl, rfl⟩, ⟨rfl, rfl⟩, ⟨rfl, rfl⟩, ⟨rfl, rfl⟩, ⟨rfl, rfl⟩, trivial⟩, ⟨rfl, (by show 2 < 3; decide), ltrI _ _⟩, ⟨rfl, (by show 1 < 3; decide), ltrV _ _⟩, ⟨rfl, (by show 0 < 3; decide), by simp [AV.ltr]⟩, trivial⟩ (fun _ _ => Nat.zero_le _) ?_)
        all_goals (
          rintro ⟨k, p'⟩ ⟨hk, hp'⟩
          simp only at hk hp' ⊢
          by_cases hk2 : k < ds.length
          · have hmi := mk10 (later r i) h10
            have cb := con74 (mkM (later r i) r.cs.length) k hmi (by omega)
            have hbit : (mkM (later r i) r.cs.length).testBit k = true ↔ later r i k = true := by rw [mkM_bit]; simp [show k < r.cs.length by omega]
            repeat' (first | (refine wG_pure (e_ia_sl rfl rfl (by omega) (by omega)) ?_; simp only [e0]) | refine wG_pure (o_ldf_pt rfl rfl hgm rfl) ?_ | refine wG_call cb rfl rfl ?_ | (first
    | refine wC_a rfl ?_
    | refine q_s rfl ?_
    | refine q_b rfl ?_
    | refine wG_nil ?_
    | refine wG_g rfl ?_
    | refine wG_pure (o_len_vwm rfl) ?_
    | refine wG_pure (o_not_d rfl) ?_
    | refine wG_p rfl (by first | exact rfl | omega) ?_
    | refine wG_pure (o_str2 rfl rfl rfl) ?_
    | refine wG_pure (e_istr rfl rfl (by omega)) ?_
    | refine wG_pure (e_istr0 rfl rfl (by omega)) ?_
    | refine wG_pure (o_not rfl) ?_
    | refine wG_pure (e_ia_vw0 rfl rfl (by omega) rfl) ?_
    | refine wG_pure (e_ia_vwp rfl rfl (by omega) rfl) ?_
    | refine wG_pure (e_ia_vwm rfl rfl (by omega) (by omega) rfl) ?_
    | refine wG_pure (e_ia_vwi rfl rfl (by omega) rfl) ?_
    | refine wG_pure (e_ia_vwn rfl rfl (by omega) (by omega) rfl) ?_
    | refine wG_n rfl rfl ?_
    | refine wG_u rfl rfl ?_
    | refine wG_new (o_mks rfl rfl (by omega) (by decide)) ?_) | (refine wG_gd rfl (fun hgt => ?_) (fun hgf => ?_) <;> (first | simp only [eq_true hgt, decide_true] | simp only [eq_false hgf, decide_false])) | refine wC_cond_d rfl (fun hg => ?_) (fun hg => ?_))
            all_goals (try (exfalso; omega))
            all_goals (first
              | (refine ⟨(k + 1, false), ⟨by omega, fun h => by (cases h), fun h => absurd h (flP_bad ⟨hbit.1 (by assumption), by assumption⟩)⟩, by simp only; omega, ⟨⟨rfl, rfl⟩, ⟨rfl, rfl⟩, ⟨rfl, rfl⟩, ⟨rfl, rfl⟩, ⟨rfl, rfl⟩, ⟨rfl, rfl⟩, trivial⟩, ⟨rfl, (by show 2 < 3; decide), ltrI _ _⟩, ⟨rfl, (by show 1 < 3; decide), ltrV _ _⟩, ⟨rfl, (by show 0 < 3; decide), by simp [AV.ltr]⟩, trivial⟩)
              | (refine ⟨(k + 1, p'), ⟨by omega, hp'.trans (flP_up ?_).symm⟩, by simp only; omega, ⟨⟨rfl, rfl⟩, ⟨rfl, rfl⟩, ⟨rfl, rfl⟩, ⟨rfl, rfl⟩, ⟨rfl, rfl⟩, ⟨rfl, rfl⟩, trivial⟩, ⟨rfl, (by show 2 < 3; decide), ltrI _ _⟩, ⟨rfl, (by show 1 < 3; decide), ltrV _ _⟩, ⟨rfl, (by show 0 < 3; decide), by simp [AV.ltr]⟩, trivial⟩
                 rintro ⟨g1, g2⟩
                 first | exact absurd (hbit.2 g1) (by assumption) | exact absurd g2 (by assumption)))
          · have hk3 : k = ds.length := by omega
            subst hk3
            repeat' (first | (first
    | refine wC_a rfl ?_
    | refine q_s rfl ?_
    | refine q_b rfl ?_
    | refine wG_nil ?_
    | refine wG_g rfl ?_
    | refine wG_pure (o_len_vwm rfl) ?_
    | refine wG_pure (o_not_d rfl) ?_
    | refine wG_p rfl (by first | exact rfl | omega) ?_
    | refine wG_pure (o_str2 rfl rfl rfl) ?_
    | refine wG_pure (e_istr rfl rfl (by omega)) ?_
    | refine wG_pure (e_istr0 rfl rfl (by omega)) ?_
    | refine wG_pure (o_not rfl) ?_
    | refine wG_pure (e_ia_vw0 rfl rfl (by omega) rfl) ?_
    | refine wG_pure (e_ia_vwp rfl rfl (by omega) rfl) ?_
    | refine wG_pure (e_ia_vwm rfl rfl (by omega) (by omega) rfl) ?_
    | refine wG_pure (e_ia_vwi rfl rfl (by omega) rfl) ?_
    | refine wG_pure (e_ia_vwn rfl rfl (by omega) (by omega) rfl) ?_
    | refine wG_n rfl rfl ?_
    | refine wG_u rfl rfl ?_
    | refine wG_new (o_mks rfl rfl (by omega) (by decide)) ?_) | (refine wG_gd rfl (fun hgt => ?_) (fun hgf => ?_) <;> (first | simp only [eq_true hgt, decide_true] | simp only [eq_false hgf, decide_false])) | refine wC_cond_d rfl (fun hg => ?_) (fun hg => ?_))
            all_goals (try (exfalso; omega))
            exact ⟨(i + 1, p'), ⟨by omega, hy2, hp'.trans flP_end⟩, by simp only; omega, ⟨⟨rfl, rfl⟩, ⟨rfl, rfl⟩, ⟨rfl, rfl⟩, ⟨rfl, rfl⟩, ⟨rfl, rfl⟩, trivial⟩, ⟨rfl, (by show 2 < 3; decide), ltrI _ _⟩, ⟨rfl, (by show 1 < 3; decide), ltrV _ _⟩, ⟨rfl, (by show 0 < 3; decide), by simp [AV.ltr]⟩, trivial⟩)
      · have cy := con75 (ds.getD i default)
        rw [decide_eq_false (by exact hyi)] at cy
        rw [arV_no (fun h => hyi (h.2.2 i hi2))]
        repeat (first | refine wG_call cy rfl rfl ?_ | (first
    | refine wC_a rfl ?_
    | refine q_s rfl ?_
    | refine q_b rfl ?_
    | refine wG_nil ?_
    | refine wG_g rfl ?_
    | refine wG_pure (o_len_vwm rfl) ?_
    | refine wG_pure (o_not_d rfl) ?_
    | refine wG_p rfl (by first | exact rfl | omega) ?_
    | refine wG_pure (o_str2 rfl rfl rfl) ?_
    | refine wG_pure (e_istr rfl rfl (by omega)) ?_
    | refine wG_pure (e_istr0 rfl rfl (by omega)) ?_
    | refine wG_pure (o_not rfl) ?_
    | refine wG_pure (e_ia_vw0 rfl rfl (by omega) rfl) ?_
    | refine wG_pure (e_ia_vwp rfl rfl (by omega) rfl) ?_
    | refine wG_pure (e_ia_vwm rfl rfl (by omega) (by omega) rfl) ?_
    | refine wG_pure (e_ia_vwi rfl rfl (by omega) rfl) ?_
    | refine wG_pure (e_ia_vwn rfl rfl (by omega) (by omega) rfl) ?_
    | refine wG_n rfl rfl ?_
    | refine wG_u rfl rfl ?_
    | refine wG_new (o_mks rfl rfl (by omega) (by decide)) ?_))
        exact ret_bb (retV_mv rfl) (retV_mv rfl)
    · have hi3 : i = ds.length := by omega
      subst hi3
      have hg : arG r es ds := ⟨hE, hn2, hy⟩
      cases p with
      | true =>
        rw [arV_t hg (hp.1 rfl)]
        repeat (first
    | refine wC_a rfl ?_
    | refine q_s rfl ?_
    | refine q_b rfl ?_
    | refine wG_nil ?_
    | refine wG_g rfl ?_
    | refine wG_pure (o_len_vwm rfl) ?_
    | refine wG_pure (o_not_d rfl) ?_
    | refine wG_p rfl (by first | exact rfl | omega) ?_
    | refine wG_pure (o_str2 rfl rfl rfl) ?_
    | refine wG_pure (e_istr rfl rfl (by omega)) ?_
    | refine wG_pure (e_istr0 rfl rfl (by omega)) ?_
    | refine wG_pure (o_not rfl) ?_
    | refine wG_pure (e_ia_vw0 rfl rfl (by omega) rfl) ?_
    | refine wG_pure (e_ia_vwp rfl rfl (by omega) rfl) ?_
    | refine wG_pure (e_ia_vwm rfl rfl (by omega) (by omega) rfl) ?_
    | refine wG_pure (e_ia_vwi rfl rfl (by omega) rfl) ?_
    | refine wG_pure (e_ia_vwn rfl rfl (by omega) (by omega) rfl) ?_
    | refine wG_n rfl rfl ?_
    | refine wG_u rfl rfl ?_
    | refine wG_new (o_mks rfl rfl (by omega) (by decide)) ?_)
        exact ret_bb (retV_mv rfl) (retV_mv rfl)
      | false =>
        have : arV r es ds = .tup [.bool false, .bool true] := by
          unfold arV
          rw [decide_eq_true hg, decide_eq_false (fun q => absurd (hp.2 q.2) (by decide))]
        rw [this]
        repeat (first
    | refine wC_a rfl ?_
    | refine q_s rfl ?_
    | refine q_b rfl ?_
    | refine wG_nil ?_
    | refine wG_g rfl ?_
    | refine wG_pure (o_len_vwm rfl) ?_
    | refine wG_pure (o_not_d rfl) ?_
    | refine wG_p rfl (by first | exact rfl | omega) ?_
    | refine wG_pure (o_str2 rfl rfl rfl) ?_
    | refine wG_pure (e_istr rfl rfl (by omega)) ?_
    | refine wG_pure (e_istr0 rfl rfl (by omega)) ?_
    | refine wG_pure (o_not rfl) ?_
    | refine wG_pure (e_ia_vw0 rfl rfl (by omega) rfl) ?_
    | refine wG_pure (e_ia_vwp rfl rfl (by omega) rfl) ?_
    | refine wG_pure (e_ia_vwm rfl rfl (by omega) (by omega) rfl) ?_
    | refine wG_pure (e_ia_vwi rfl rfl (by omega) rfl) ?_
    | refine wG_pure (e_ia_vwn rfl rfl (by omega) (by omega) rfl) ?_
    | refine wG_n rfl rfl ?_
    | refine wG_u rfl rfl ?_
    | refine wG_new (o_mks rfl rfl (by omega) (by decide)) ?_)
        exact ret_bb (retV_mv rfl) (retV_mv rfl)
  · rw [decide_eq_false hE] at c1
    rw [arV_no (fun h => hE h.1)]
    repeat (first | refine wG_call c1 rfl rfl ?_ | (first
    | refine wC_a rfl ?_
    | refine q_s rfl ?_
    | refine q_b rfl ?_
    | refine wG_nil ?_
    | refine wG_g rfl ?_
    | refine wG_pure (o_len_vwm rfl) ?_
    | refine wG_pure (o_not_d rfl) ?_
    | refine wG_p rfl (by first | exact rfl | omega) ?_
    | refine wG_pure (o_str2 rfl rfl rfl) ?_
    | refine wG_pure (e_istr rfl rfl (by omega)) ?_
    | refine wG_pure (e_istr0 rfl rfl (by omega)) ?_
    | refine wG_pure (o_not rfl) ?_
    | refine wG_pure (e_ia_vw0 rfl rfl (by omega) rfl) ?_
    | refine wG_pure (e_ia_vwp rfl rfl (by omega) rfl) ?_
    | refine wG_pure (e_ia_vwm rfl rfl (by omega) (by omega) rfl) ?_
    | refine wG_pure (e_ia_vwi rfl rfl (by omega) rfl) ?_
    | refine wG_pure (e_ia_vwn rfl rfl (by omega) (by omega) rfl) ?_
    | refine wG_n rfl rfl ?_
    | refine wG_u rfl rfl ?_
    | refine wG_new (o_mks rfl rfl (by omega) (by decide)) ?_))
    exact ret_bb (retV_mv rfl) (retV_mv rfl)
theorem con78 (x : Int) : Con Try.prog 78 true [.int .i64 x] (.bool (!decide (isY x))) [] := by
  refine con_of_wp mixed fun78 (by simp) [] plain_nil ?_
  unfold ac78 ro78
  simp only [zipT]
  repeat (first | refine wG_call (con79 _) rfl rfl ?_ | (first
    | refine wC_a rfl ?_
    | refine q_s rfl ?_
    | refine q_b rfl ?_
    | refine wG_nil ?_
    | refine wG_g rfl ?_
    | refine wG_pure (o_len_vwm rfl) ?_
    | refine wG_pure (o_not_d rfl) ?_
    | refine wG_p rfl (by first | exact rfl | omega) ?_
    | refine wG_pure (o_str2 rfl rfl rfl) ?_
    | refine wG_pure (e_istr rfl rfl (by omega)) ?_
    | refine wG_pure (e_istr0 rfl rfl (by omega)) ?_
    | refine wG_pure (o_not rfl) ?_
    | refine wG_pure (e_ia_vw0 rfl rfl (by omega) rfl) ?_
    | refine wG_pure (e_ia_vwp rfl rfl (by omega) rfl) ?_
    | refine wG_pure (e_ia_vwm rfl rfl (by omega) (by omega) rfl) ?_
    | refine wG_pure (e_ia_vwi rfl rfl (by omega) rfl) ?_
    | refine wG_pure (e_ia_vwn rfl rfl (by omega) (by omega) rfl) ?_
    | refine wG_n rfl rfl ?_
    | refine wG_u rfl rfl ?_
    | refine wG_new (o_mks rfl rfl (by omega) (by decide)) ?_))
  refine ret_boolE (.inr rfl) ⟨_, retV_mv rfl, ?_⟩
  exact decide_not
theorem anyY {ds : List Int} : (ds.any fun w => !decide (isY w)) = true ↔ ¬ ∀ i, i < ds.length → isY (ds.getD i default) := by
  rw [List.any_eq_true]
  constructor
  · rintro ⟨x, hx, hn⟩ h
    obtain ⟨j, hj, rfl⟩ := List.getElem_of_mem hx
    have := h j hj
    simp [List.getD_eq_getElem?_getD, List.getElem?_eq_getElem hj] at this
    simp [this] at hn
  · intro h
    obtain ⟨i, hi⟩ := Classical.not_forall.1 h
    obtain ⟨hi1, hi2⟩ := Classical.not_imp.1 hi
    exact ⟨_, getD_mem' ds hi1, by simpa using hi2⟩
theorem con35 (a b nn mm : Bool) (r : Rc) (es : List Dt) (ds : List Int) (h1 : r.cs.length ≤ 1048576) (h2 : r.xs.length ≤ 1048576) (h3 : es.length ≤ 1048576) (h4 : ds.length ≤ 1048576) : Con Try.prog 35 true [.agg (rRow a b r), .vw nn (es.map tRow), .vw mm (ds.map iRow)] (arV r es ds) [] := by
  classical
  refine con_of_wp mixed fun35 (by simp) [] plain_nil ?_
  unfold ac35 ro35
  simp only [zipT]
  by_cases hE : GoodE r es
  · have hG := hE.1.1
    have h10 := hG.1
    have e0 : ∀ n : Nat, 0 + ((n : Int)).toNat = n := fun n => by simp
    obtain ⟨x, hst, hx⟩ := oO_st2 r
    obtain ⟨m, hm⟩ : ∃ m, (oO r).length = m := ⟨_, rfl⟩
    have hm0 : 0 < m := by rw [← hm]; exact ordO_pos _ _ _ _
    have hwf := eT_wf a b r es
    have hown := eT_own (a := a) (b := b) (r := r) (es := es)
    rw [hm] at hwf hown
    have l1 : hg (eT a b r es) 1 = some [[sh 1 x, .sl 3 1 0 r.cs.length, .sl 2 1 0 r.cs.length]] := eT_in (i := 0) hst
    have cA := con77 mm ds h4 (f := 78) (caps := []) (fun w => !decide (isY w)) (fun w => con78 w) (fun _ _ => rfl) rfl
    repeat (first
    | refine wC_a rfl ?_
    | refine q_s rfl ?_
    | refine q_b rfl ?_
    | refine wG_nil ?_
    | refine wG_g rfl ?_
    | refine wG_pure (o_len_vwm rfl) ?_
    | refine wG_pure (o_not_d rfl) ?_
    | refine wG_p rfl (by first | exact rfl | omega) ?_
    | refine wG_pure (o_str2 rfl rfl rfl) ?_
    | refine wG_pure (e_istr rfl rfl (by omega)) ?_
    | refine wG_pure (e_istr0 rfl rfl (by omega)) ?_
    | refine wG_pure (o_not rfl) ?_
    | refine wG_pure (e_ia_vw0 rfl rfl (by omega) rfl) ?_
    | refine wG_pure (e_ia_vwp rfl rfl (by omega) rfl) ?_
    | refine wG_pure (e_ia_vwm rfl rfl (by omega) (by omega) rfl) ?_
    | refine wG_pure (e_ia_vwi rfl rfl (by omega) rfl) ?_
    | refine wG_pure (e_ia_vwn rfl rfl (by omega) (by omega) rfl) ?_
    | refine wG_n rfl rfl ?_
    | refine wG_u rfl rfl ?_
    | refine wG_new (o_mks rfl rfl (by omega) (by decide)) ?_)
    refine wG_callG (v' := .tup [.pt 1 0 0, .sl (1 + m) 2 0 r.cs.length, .bool true]) (con71_yes a b nn r es h1 h2 h3 hE) rfl (by rw [← hm]; rfl) rfl ?_
    rw [show 0 + 1 + (evO r es).length = m + 2 by rw [evO_len]; omega]
    change wpG _ _ _ ⟨_, eT a b r es, _⟩ _
    by_cases hn : ds.length = r.cs.length
    · by_cases hY : ∀ i, i < ds.length → isY (ds.getD i default)
      · have hgood : arG r es ds := ⟨hE, hn, hY⟩
        have hnn : ((ds.length : Int) ≠ (r.cs.length : Int)) = False := eq_false (by omega)
        have hany : (ds.any fun w => !decide (isY w)) = false := Bool.eq_false_iff.2 (fun h => anyY.1 h hY)
        rw [hany] at cA
        repeat (first | (refine wG_call cA (ag_vw rfl (ag_fn rfl (fun _ _ => rfl) ag_nil)) rfl ?_) | (first
    | refine wC_a rfl ?_
    | refine q_s rfl ?_
    | refine q_b rfl ?_
    | refine wG_nil ?_
    | refine wG_g rfl ?_
    | refine wG_pure (o_len_vwm rfl) ?_
    | refine wG_pure (o_not_d rfl) ?_
    | refine wG_p rfl (by first | exact rfl | omega) ?_
    | refine wG_pure (o_str2 rfl rfl rfl) ?_
    | refine wG_pure (e_istr rfl rfl (by omega)) ?_
    | refine wG_pure (e_istr0 rfl rfl (by omega)) ?_
    | refine wG_pure (o_not rfl) ?_
    | refine wG_pure (e_ia_vw0 rfl rfl (by omega) rfl) ?_
    | refine wG_pure (e_ia_vwp rfl rfl (by omega) rfl) ?_
    | refine wG_pure (e_ia_vwm rfl rfl (by omega) (by omega) rfl) ?_
    | refine wG_pure (e_ia_vwi rfl rfl (by omega) rfl) ?_
    | refine wG_pure (e_ia_vwn rfl rfl (by omega) (by omega) rfl) ?_
    | refine wG_n rfl rfl ?_
    | refine wG_u rfl rfl ?_
    | refine wG_new (o_mks rfl rfl (by omega) (by decide)) ?_) | (refine wG_gd rfl (fun hgt => absurd hgt (by omega)) (fun hgf => ?_); simp only [eq_false hgf, decide_false]))
        refine wC_loopX Nat (fun i => ⟨[(2, .vw mm (ds.map iRow)), (8, .pt 1 0 0), (9, .sl (1 + m) 2 0 r.cs.length), (35, .vw mm (ds.map iRow)), (36, .int .i64 (ds.length : Int)), (37, .int .i64 (i : Int))], eT a b r es, m + 2⟩) (fun i => i ≤ ds.length ∧ ∀ j, j < i → okP r es ds j) (fun i => ds.length - i) 0 ⟨Nat.zero_le _, fun q hq => absurd hq (Nat.not_lt_zero _)⟩ ?_ ?_
        · exact .inl (Le_of ⟨⟨rfl, rfl⟩, ⟨rfl, by simp [AV.ltr]⟩, ⟨rfl, by simp [AV.ltr]; omega⟩, ⟨rfl, rfl⟩, ⟨rfl, rfl⟩, ⟨rfl, rfl⟩, trivial⟩ (fun q rows hq => hq) hwf)
        rintro i ⟨hi, hok⟩
        repeat (first
    | refine wC_a rfl ?_
    | refine q_s rfl ?_
    | refine q_b rfl ?_
    | refine wG_nil ?_
    | refine wG_g rfl ?_
    | refine wG_pure (o_len_vwm rfl) ?_
    | refine wG_pure (o_not_d rfl) ?_
    | refine wG_p rfl (by first | exact rfl | omega) ?_
    | refine wG_pure (o_str2 rfl rfl rfl) ?_
    | refine wG_pure (e_istr rfl rfl (by omega)) ?_
    | refine wG_pure (e_istr0 rfl rfl (by omega)) ?_
    | refine wG_pure (o_not rfl) ?_
    | refine wG_pure (e_ia_vw0 rfl rfl (by omega) rfl) ?_
    | refine wG_pure (e_ia_vwp rfl rfl (by omega) rfl) ?_
    | refine wG_pure (e_ia_vwm rfl rfl (by omega) (by omega) rfl) ?_
    | refine wG_pure (e_ia_vwi rfl rfl (by omega) rfl) ?_
    | refine wG_pure (e_ia_vwn rfl rfl (by omega) (by omega) rfl) ?_
    | refine wG_n rfl rfl ?_
    | refine wG_u rfl rfl ?_
    | refine wG_new (o_mks rfl rfl (by omega) (by decide)) ?_)
        refine wC_cond_d rfl (fun h5 => ?_) (fun h5 => ?_)
        · have hi2 : i < ds.length := by omega
          have hi3 : i < r.cs.length := by omega
          have hm5 : r.cs.length + 4 ≤ m := by
            have := (List.getElem?_eq_some_iff.1 (oO_4 (r := r) (i := r.cs.length - 1) (by omega))).1
            omega
          have ltab := eT_tab (a := a) (b := b) (r := r) (es := es) (by omega)
          have hgi := ownL_get (r := r) (es := es) (q := es.length) hi3
          have cw := con80 (ds.getD i default) (ownI r es es.length i).f (ownI r es es.length i).t
          by_cases hin : inO r es ds i
          · rw [decide_eq_true (by exact hin)] at cw
            repeat (first | refine wG_call cw rfl rfl ?_ | (refine wG_pure (e_ia_sl rfl rfl (by omega) (by omega)) ?_; simp only [e0]) | refine wG_pure (o_ldf_pt rfl hown hgi rfl) ?_ | refine wG_pure (o_ldf_pt rfl l1 rfl rfl) ?_ | refine wG_pure (o_ldf_pt rfl ltab (outB_get hi3) rfl) ?_ | (first
    | refine wC_a rfl ?_
    | refine q_s rfl ?_
    | refine q_b rfl ?_
    | refine wG_nil ?_
    | refine wG_g rfl ?_
    | refine wG_pure (o_len_vwm rfl) ?_
    | refine wG_pure (o_not_d rfl) ?_
    | refine wG_p rfl (by first | exact rfl | omega) ?_
    | refine wG_pure (o_str2 rfl rfl rfl) ?_
    | refine wG_pure (e_istr rfl rfl (by omega)) ?_
    | refine wG_pure (e_istr0 rfl rfl (by omega)) ?_
    | refine wG_pure (o_not rfl) ?_
    | refine wG_pure (e_ia_vw0 rfl rfl (by omega) rfl) ?_
    | refine wG_pure (e_ia_vwp rfl rfl (by omega) rfl) ?_
    | refine wG_pure (e_ia_vwm rfl rfl (by omega) (by omega) rfl) ?_
    | refine wG_pure (e_ia_vwi rfl rfl (by omega) rfl) ?_
    | refine wG_pure (e_ia_vwn rfl rfl (by omega) (by omega) rfl) ?_
    | refine wG_n rfl rfl ?_
    | refine wG_u rfl rfl ?_
    | refine wG_new (o_mks rfl rfl (by omega) (by decide)) ?_))
            refine wC_loopX Nat (fun k => ⟨[(2, .vw mm (ds.map iRow)), (8, .pt 1 0 0), (9, .sl (1 + m) 2 0 r.cs.length), (35, .vw mm (ds.map iRow)), (36, .int .i64 (ds.length : Int)), (37, .int .i64 (i : Int)), (12, .int .i64 (ds.getD i default)), (61, .sl (i + 5) 1 0 r.cs.length), (62, .int .i64 (r.cs.length : Int)), (63, .int .i64 (k : Int))], eT a b r es, m + 2⟩) (fun k => k ≤ r.cs.length ∧ ∀ q, q < k → ¬ badP r ds i q) (fun k => r.cs.length - k) 0 ⟨Nat.zero_le _, fun q hq => absurd hq (Nat.not_lt_zero _)⟩ ?_ ?_
            · exact .inl (Le_of ⟨⟨rfl, rfl⟩, ⟨rfl, by simp [AV.ltr]⟩, ⟨rfl, by simp [AV.ltr]; omega⟩, ⟨rfl, rfl⟩, ⟨rfl, rfl⟩, ⟨rfl, rfl⟩, ⟨rfl, rfl⟩, ⟨rfl, by simp [AV.ltr]; omega⟩, ⟨rfl, rfl⟩, ⟨rfl, rfl⟩, trivial⟩ (fun q rows hq => hq) hwf)
            rintro k ⟨hk, hbk⟩
            repeat (first
    | refine wC_a rfl ?_
    | refine q_s rfl ?_
    | refine q_b rfl ?_
    | refine wG_nil ?_
    | refine wG_g rfl ?_
    | refine wG_pure (o_len_vwm rfl) ?_
    | refine wG_pure (o_not_d rfl) ?_
    | refine wG_p rfl (by first | exact rfl | omega) ?_
    | refine wG_pure (o_str2 rfl rfl rfl) ?_
    | refine wG_pure (e_istr rfl rfl (by omega)) ?_
    | refine wG_pure (e_istr0 rfl rfl (by omega)) ?_
    | refine wG_pure (o_not rfl) ?_
    | refine wG_pure (e_ia_vw0 rfl rfl (by omega) rfl) ?_
    | refine wG_pure (e_ia_vwp rfl rfl (by omega) rfl) ?_
    | refine wG_pure (e_ia_vwm rfl rfl (by omega) (by omega) rfl) ?_
    | refine wG_pure (e_ia_vwi rfl rfl (by omega) rfl) ?_
    | refine wG_pure (e_ia_vwn rfl rfl (by omega) (by omega) rfl) ?_
    | refine wG_n rfl rfl ?_
    | refine wG_u rfl rfl ?_
    | refine wG_new (o_mks rfl rfl (by omega) (by decide)) ?_)
            refine wC_cond_d rfl (fun h6 => ?_) (fun h6 => ?_)
            · have hk2 : k < r.cs.length := by omega
              have llat := eT_later (a := a) (b := b) (es := es) hi3
              have hrl := boolR_get (f := later r i) hk2
              cases hb : later r i k with
              | true =>
                rw [hb] at hrl
                repeat' (first | (refine wG_pure (e_ia_sl rfl rfl (by omega) (by omega)) ?_; simp only [e0]) | refine wG_pure (o_ldf_pt rfl llat hrl rfl) ?_ | (first
    | refine wC_a rfl ?_
    | refine q_s rfl ?_
    | refine q_b rfl ?_
    | refine wG_nil ?_
    | refine wG_g rfl ?_
    | refine wG_pure (o_len_vwm rfl) ?_
    | refine wG_pure (o_not_d rfl) ?_
    | refine wG_p rfl (by first | exact rfl | omega) ?_
    | refine wG_pure (o_str2 rfl rfl rfl) ?_
    | refine wG_pure (e_istr rfl rfl (by omega)) ?_
    | refine wG_pure (e_istr0 rfl rfl (by omega)) ?_
    | refine wG_pure (o_not rfl) ?_
    | refine wG_pure (e_ia_vw0 rfl rfl (by omega) rfl) ?_
    | refine wG_pure (e_ia_vwp rfl rfl (by omega) rfl) ?_
    | refine wG_pure (e_ia_vwm rfl rfl (by omega) (by omega) rfl) ?_
    | refine wG_pure (e_ia_vwi rfl rfl (by omega) rfl) ?_
    | refine wG_pure (e_ia_vwn rfl rfl (by omega) (by omega) rfl) ?_
    | refine wG_n rfl rfl ?_
    | refine wG_u rfl rfl ?_
    | refine wG_new (o_mks rfl rfl (by omega) (by decide)) ?_) | refine wC_cond_d rfl (fun hg => ?_) (fun hg => ?_))
                · rw [arV_f hgood hi2 (fun h => h.2 k (by omega) ⟨hb, hg⟩)]
                  exact ret_bb (retV_mv rfl) (retV_mv rfl)
                · exact ⟨k + 1, ⟨by omega, lt_up hbk (fun h => hg h.2)⟩, by omega, .inl (Le_of ⟨⟨rfl, rfl⟩, ⟨rfl, by simp [AV.ltr]⟩, ⟨rfl, by simp [AV.ltr]; omega⟩, ⟨rfl, rfl⟩, ⟨rfl, rfl⟩, ⟨rfl, rfl⟩, ⟨rfl, rfl⟩, ⟨rfl, by simp [AV.ltr]; omega⟩, ⟨rfl, rfl⟩, ⟨rfl, rfl⟩, trivial⟩ (fun q rows hq => hq) hwf)⟩
              | false =>
                rw [hb] at hrl
                repeat (first | (refine wG_pure (e_ia_sl rfl rfl (by omega) (by omega)) ?_; simp only [e0]) | refine wG_pure (o_ldf_pt rfl llat hrl rfl) ?_ | (first
    | refine wC_a rfl ?_
    | refine q_s rfl ?_
    | refine q_b rfl ?_
    | refine wG_nil ?_
    | refine wG_g rfl ?_
    | refine wG_pure (o_len_vwm rfl) ?_
    | refine wG_pure (o_not_d rfl) ?_
    | refine wG_p rfl (by first | exact rfl | omega) ?_
    | refine wG_pure (o_str2 rfl rfl rfl) ?_
    | refine wG_pure (e_istr rfl rfl (by omega)) ?_
    | refine wG_pure (e_istr0 rfl rfl (by omega)) ?_
    | refine wG_pure (o_not rfl) ?_
    | refine wG_pure (e_ia_vw0 rfl rfl (by omega) rfl) ?_
    | refine wG_pure (e_ia_vwp rfl rfl (by omega) rfl) ?_
    | refine wG_pure (e_ia_vwm rfl rfl (by omega) (by omega) rfl) ?_
    | refine wG_pure (e_ia_vwi rfl rfl (by omega) rfl) ?_
    | refine wG_pure (e_ia_vwn rfl rfl (by omega) (by omega) rfl) ?_
    | refine wG_n rfl rfl ?_
    | refine wG_u rfl rfl ?_
    | refine wG_new (o_mks rfl rfl (by omega) (by decide)) ?_))
                exact ⟨k + 1, ⟨by omega, lt_up hbk (fun h => by rw [h.1] at hb; cases hb)⟩, by omega, .inl (Le_of ⟨⟨rfl, rfl⟩, ⟨rfl, by simp [AV.ltr]⟩, ⟨rfl, by simp [AV.ltr]; omega⟩, ⟨rfl, rfl⟩, ⟨rfl, rfl⟩, ⟨rfl, rfl⟩, ⟨rfl, rfl⟩, ⟨rfl, by simp [AV.ltr]; omega⟩, ⟨rfl, rfl⟩, ⟨rfl, rfl⟩, trivial⟩ (fun q rows hq => hq) hwf)⟩
            · have hk3 : k = r.cs.length := by omega
              subst hk3
              repeat (first
    | refine wC_a rfl ?_
    | refine q_s rfl ?_
    | refine q_b rfl ?_
    | refine wG_nil ?_
    | refine wG_g rfl ?_
    | refine wG_pure (o_len_vwm rfl) ?_
    | refine wG_pure (o_not_d rfl) ?_
    | refine wG_p rfl (by first | exact rfl | omega) ?_
    | refine wG_pure (o_str2 rfl rfl rfl) ?_
    | refine wG_pure (e_istr rfl rfl (by omega)) ?_
    | refine wG_pure (e_istr0 rfl rfl (by omega)) ?_
    | refine wG_pure (o_not rfl) ?_
    | refine wG_pure (e_ia_vw0 rfl rfl (by omega) rfl) ?_
    | refine wG_pure (e_ia_vwp rfl rfl (by omega) rfl) ?_
    | refine wG_pure (e_ia_vwm rfl rfl (by omega) (by omega) rfl) ?_
    | refine wG_pure (e_ia_vwi rfl rfl (by omega) rfl) ?_
    | refine wG_pure (e_ia_vwn rfl rfl (by omega) (by omega) rfl) ?_
    | refine wG_n rfl rfl ?_
    | refine wG_u rfl rfl ?_
    | refine wG_new (o_mks rfl rfl (by omega) (by decide)) ?_)
              exact ⟨i + 1, ⟨by omega, lt_up hok ⟨hin, fun q hq => hbk q (by omega)⟩⟩, by omega, .inl (Le_of ⟨⟨rfl, rfl⟩, ⟨rfl, by simp [AV.ltr]⟩, ⟨rfl, by simp [AV.ltr]; omega⟩, ⟨rfl, rfl⟩, ⟨rfl, rfl⟩, ⟨rfl, rfl⟩, trivial⟩ (fun q rows hq => hq) hwf)⟩
          · rw [decide_eq_false (by exact hin)] at cw
            rw [arV_f hgood hi2 (fun h => hin h.1)]
            repeat (first | refine wG_call cw rfl rfl ?_ | (refine wG_pure (e_ia_sl rfl rfl (by omega) (by omega)) ?_; simp only [e0]) | refine wG_pure (o_ldf_pt rfl hown hgi rfl) ?_ | (first
    | refine wC_a rfl ?_
    | refine q_s rfl ?_
    | refine q_b rfl ?_
    | refine wG_nil ?_
    | refine wG_g rfl ?_
    | refine wG_pure (o_len_vwm rfl) ?_
    | refine wG_pure (o_not_d rfl) ?_
    | refine wG_p rfl (by first | exact rfl | omega) ?_
    | refine wG_pure (o_str2 rfl rfl rfl) ?_
    | refine wG_pure (e_istr rfl rfl (by omega)) ?_
    | refine wG_pure (e_istr0 rfl rfl (by omega)) ?_
    | refine wG_pure (o_not rfl) ?_
    | refine wG_pure (e_ia_vw0 rfl rfl (by omega) rfl) ?_
    | refine wG_pure (e_ia_vwp rfl rfl (by omega) rfl) ?_
    | refine wG_pure (e_ia_vwm rfl rfl (by omega) (by omega) rfl) ?_
    | refine wG_pure (e_ia_vwi rfl rfl (by omega) rfl) ?_
    | refine wG_pure (e_ia_vwn rfl rfl (by omega) (by omega) rfl) ?_
    | refine wG_n rfl rfl ?_
    | refine wG_u rfl rfl ?_
    | refine wG_new (o_mks rfl rfl (by omega) (by decide)) ?_))
            exact ret_bb (retV_mv rfl) (retV_mv rfl)
        · have hi3 : i = ds.length := by omega
          subst hi3
          rw [arV_t hgood hok]
          repeat (first
    | refine wC_a rfl ?_
    | refine q_s rfl ?_
    | refine q_b rfl ?_
    | refine wG_nil ?_
    | refine wG_g rfl ?_
    | refine wG_pure (o_len_vwm rfl) ?_
    | refine wG_pure (o_not_d rfl) ?_
    | refine wG_p rfl (by first | exact rfl | omega) ?_
    | refine wG_pure (o_str2 rfl rfl rfl) ?_
    | refine wG_pure (e_istr rfl rfl (by omega)) ?_
    | refine wG_pure (e_istr0 rfl rfl (by omega)) ?_
    | refine wG_pure (o_not rfl) ?_
    | refine wG_pure (e_ia_vw0 rfl rfl (by omega) rfl) ?_
    | refine wG_pure (e_ia_vwp rfl rfl (by omega) rfl) ?_
    | refine wG_pure (e_ia_vwm rfl rfl (by omega) (by omega) rfl) ?_
    | refine wG_pure (e_ia_vwi rfl rfl (by omega) rfl) ?_
    | refine wG_pure (e_ia_vwn rfl rfl (by omega) (by omega) rfl) ?_
    | refine wG_n rfl rfl ?_
    | refine wG_u rfl rfl ?_
    | refine wG_new (o_mks rfl rfl (by omega) (by decide)) ?_)
          exact ret_bb (retV_mv rfl) (retV_mv rfl)
      · have hany : (ds.any fun w => !decide (isY w)) = true := anyY.2 hY
        rw [hany] at cA
        rw [arV_no (fun h => hY h.2.2)]
        repeat (first | (refine wG_call cA (ag_vw rfl (ag_fn rfl (fun _ _ => rfl) ag_nil)) rfl ?_) | (first
    | refine wC_a rfl ?_
    | refine q_s rfl ?_
    | refine q_b rfl ?_
    | refine wG_nil ?_
    | refine wG_g rfl ?_
    | refine wG_pure (o_len_vwm rfl) ?_
    | refine wG_pure (o_not_d rfl) ?_
    | refine wG_p rfl (by first | exact rfl | omega) ?_
    | refine wG_pure (o_str2 rfl rfl rfl) ?_
    | refine wG_pure (e_istr rfl rfl (by omega)) ?_
    | refine wG_pure (e_istr0 rfl rfl (by omega)) ?_
    | refine wG_pure (o_not rfl) ?_
    | refine wG_pure (e_ia_vw0 rfl rfl (by omega) rfl) ?_
    | refine wG_pure (e_ia_vwp rfl rfl (by omega) rfl) ?_
    | refine wG_pure (e_ia_vwm rfl rfl (by omega) (by omega) rfl) ?_
    | refine wG_pure (e_ia_vwi rfl rfl (by omega) rfl) ?_
    | refine wG_pure (e_ia_vwn rfl rfl (by omega) (by omega) rfl) ?_
    | refine wG_n rfl rfl ?_
    | refine wG_u rfl rfl ?_
    | refine wG_new (o_mks rfl rfl (by omega) (by decide)) ?_) | (refine wG_gd rfl (fun hgt => absurd hgt (by omega)) (fun hgf => ?_); simp only [eq_false hgf, decide_false]))
        exact ret_bb (retV_mv rfl) (retV_mv rfl)
    · rw [arV_no (fun h => hn h.2.1)]
      repeat (first | (first
    | refine wC_a rfl ?_
    | refine q_s rfl ?_
    | refine q_b rfl ?_
    | refine wG_nil ?_
    | refine wG_g rfl ?_
    | refine wG_pure (o_len_vwm rfl) ?_
    | refine wG_pure (o_not_d rfl) ?_
    | refine wG_p rfl (by first | exact rfl | omega) ?_
    | refine wG_pure (o_str2 rfl rfl rfl) ?_
    | refine wG_pure (e_istr rfl rfl (by omega)) ?_
    | refine wG_pure (e_istr0 rfl rfl (by omega)) ?_
    | refine wG_pure (o_not rfl) ?_
    | refine wG_pure (e_ia_vw0 rfl rfl (by omega) rfl) ?_
    | refine wG_pure (e_ia_vwp rfl rfl (by omega) rfl) ?_
    | refine wG_pure (e_ia_vwm rfl rfl (by omega) (by omega) rfl) ?_
    | refine wG_pure (e_ia_vwi rfl rfl (by omega) rfl) ?_
    | refine wG_pure (e_ia_vwn rfl rfl (by omega) (by omega) rfl) ?_
    | refine wG_n rfl rfl ?_
    | refine wG_u rfl rfl ?_
    | refine wG_new (o_mks rfl rfl (by omega) (by decide)) ?_) | (refine wG_gd rfl (fun hgt => ?_) (fun hgf => absurd hgf (by omega)); simp only [eq_true hgt, decide_true]))
      exact ret_bb (retV_mv rfl) (retV_mv rfl)
  · rw [arV_no (fun h => hE h.1)]
    repeat (first
    | refine wC_a rfl ?_
    | refine q_s rfl ?_
    | refine q_b rfl ?_
    | refine wG_nil ?_
    | refine wG_g rfl ?_
    | refine wG_pure (o_len_vwm rfl) ?_
    | refine wG_pure (o_not_d rfl) ?_
    | refine wG_p rfl (by first | exact rfl | omega) ?_
    | refine wG_pure (o_str2 rfl rfl rfl) ?_
    | refine wG_pure (e_istr rfl rfl (by omega)) ?_
    | refine wG_pure (e_istr0 rfl rfl (by omega)) ?_
    | refine wG_pure (o_not rfl) ?_
    | refine wG_pure (e_ia_vw0 rfl rfl (by omega) rfl) ?_
    | refine wG_pure (e_ia_vwp rfl rfl (by omega) rfl) ?_
    | refine wG_pure (e_ia_vwm rfl rfl (by omega) (by omega) rfl) ?_
    | refine wG_pure (e_ia_vwi rfl rfl (by omega) rfl) ?_
    | refine wG_pure (e_ia_vwn rfl rfl (by omega) (by omega) rfl) ?_
    | refine wG_n rfl rfl ?_
    | refine wG_u rfl rfl ?_
    | refine wG_new (o_mks rfl rfl (by omega) (by decide)) ?_)
    refine wG_callG (v' := .tup [.nilP, .nilS, .bool false]) (con71_no a b nn r es h1 h2 h3 hE) rfl rfl rfl ?_
    repeat (first
    | refine wC_a rfl ?_
    | refine q_s rfl ?_
    | refine q_b rfl ?_
    | refine wG_nil ?_
    | refine wG_g rfl ?_
    | refine wG_pure (o_len_vwm rfl) ?_
    | refine wG_pure (o_not_d rfl) ?_
    | refine wG_p rfl (by first | exact rfl | omega) ?_
    | refine wG_pure (o_str2 rfl rfl rfl) ?_
    | refine wG_pure (e_istr rfl rfl (by omega)) ?_
    | refine wG_pure (e_istr0 rfl rfl (by omega)) ?_
    | refine wG_pure (o_not rfl) ?_
    | refine wG_pure (e_ia_vw0 rfl rfl (by omega) rfl) ?_
    | refine wG_pure (e_ia_vwp rfl rfl (by omega) rfl) ?_
    | refine wG_pure (e_ia_vwm rfl rfl (by omega) (by omega) rfl) ?_
    | refine wG_pure (e_ia_vwi rfl rfl (by omega) rfl) ?_
    | refine wG_pure (e_ia_vwn rfl rfl (by omega) (by omega) rfl) ?_
    | refine wG_n rfl rfl ?_
    | refine wG_u rfl rfl ?_
    | refine wG_new (o_mks rfl rfl (by omega) (by decide)) ?_)
    exact ret_bb (retV_mv rfl) (retV_mv rfl)
theorem con7 (a b nn mm : Bool) (r : Rc) (es : List Dt) (ds : List Int) (h1 : r.cs.length ≤ 9223372036854775807) (h2 : r.xs.length ≤ 9223372036854775807) (h3 : es.length ≤ 9223372036854775807) (h4 : ds.length ≤ 9223372036854775807) : Con Try.prog 7 true [.agg (rRow a b r), .vw nn (es.map tRow), .vw mm (ds.map iRow)] (.bool true) [] := by
  refine con_of_wp mixed fun7 (by simp) [] plain_nil ?_
  unfold ac7 ro7
  simp only [zipT]
  have c1 := con12 a b r h1 h2 1048576 (by decide) (by decide)
  repeat (first
    | refine wC_a rfl ?_
    | refine q_s rfl ?_
    | refine q_b rfl ?_
    | refine wG_nil ?_
    | refine wG_g rfl ?_
    | refine wG_pure (o_len_vwm rfl) ?_
    | refine wG_pure (o_not_d rfl) ?_
    | refine wG_p rfl (by first | exact rfl | omega) ?_
    | refine wG_pure (o_str2 rfl rfl rfl) ?_
    | refine wG_pure (e_istr rfl rfl (by omega)) ?_
    | refine wG_pure (e_istr0 rfl rfl (by omega)) ?_
    | refine wG_pure (o_not rfl) ?_
    | refine wG_pure (e_ia_vw0 rfl rfl (by omega) rfl) ?_
    | refine wG_pure (e_ia_vwp rfl rfl (by omega) rfl) ?_
    | refine wG_pure (e_ia_vwm rfl rfl (by omega) (by omega) rfl) ?_
    | refine wG_pure (e_ia_vwi rfl rfl (by omega) rfl) ?_
    | refine wG_pure (e_ia_vwn rfl rfl (by omega) (by omega) rfl) ?_
    | refine wG_n rfl rfl ?_
    | refine wG_u rfl rfl ?_
    | refine wG_new (o_mks rfl rfl (by omega) (by decide)) ?_)
  refine wC_cond_d rfl (fun hd => ?_) (fun hd => ?_)
  · repeat (first
    | refine wC_a rfl ?_
    | refine q_s rfl ?_
    | refine q_b rfl ?_
    | refine wG_nil ?_
    | refine wG_g rfl ?_
    | refine wG_pure (o_len_vwm rfl) ?_
    | refine wG_pure (o_not_d rfl) ?_
    | refine wG_p rfl (by first | exact rfl | omega) ?_
    | refine wG_pure (o_str2 rfl rfl rfl) ?_
    | refine wG_pure (e_istr rfl rfl (by omega)) ?_
    | refine wG_pure (e_istr0 rfl rfl (by omega)) ?_
    | refine wG_pure (o_not rfl) ?_
    | refine wG_pure (e_ia_vw0 rfl rfl (by omega) rfl) ?_
    | refine wG_pure (e_ia_vwp rfl rfl (by omega) rfl) ?_
    | refine wG_pure (e_ia_vwm rfl rfl (by omega) (by omega) rfl) ?_
    | refine wG_pure (e_ia_vwi rfl rfl (by omega) rfl) ?_
    | refine wG_pure (e_ia_vwn rfl rfl (by omega) (by omega) rfl) ?_
    | refine wG_n rfl rfl ?_
    | refine wG_u rfl rfl ?_
    | refine wG_new (o_mks rfl rfl (by omega) (by decide)) ?_)
    exact ret_boolE (.inr rfl) ⟨_, retV_mv rfl, rfl⟩
  have h4' : ds.length ≤ 1048576 := by omega
  repeat (first | refine wG_call c1 rfl rfl ?_ | (first
    | refine wC_a rfl ?_
    | refine q_s rfl ?_
    | refine q_b rfl ?_
    | refine wG_nil ?_
    | refine wG_g rfl ?_
    | refine wG_pure (o_len_vwm rfl) ?_
    | refine wG_pure (o_not_d rfl) ?_
    | refine wG_p rfl (by first | exact rfl | omega) ?_
    | refine wG_pure (o_str2 rfl rfl rfl) ?_
    | refine wG_pure (e_istr rfl rfl (by omega)) ?_
    | refine wG_pure (e_istr0 rfl rfl (by omega)) ?_
    | refine wG_pure (o_not rfl) ?_
    | refine wG_pure (e_ia_vw0 rfl rfl (by omega) rfl) ?_
    | refine wG_pure (e_ia_vwp rfl rfl (by omega) rfl) ?_
    | refine wG_pure (e_ia_vwm rfl rfl (by omega) (by omega) rfl) ?_
    | refine wG_pure (e_ia_vwi rfl rfl (by omega) rfl) ?_
    | refine wG_pure (e_ia_vwn rfl rfl (by omega) (by omega) rfl) ?_
    | refine wG_n rfl rfl ?_
    | refine wG_u rfl rfl ?_
    | refine wG_new (o_mks rfl rfl (by omega) (by decide)) ?_))
  refine wC_cond_d rfl (fun h => ?_) (fun h => ?_)
  · repeat (first
    | refine wC_a rfl ?_
    | refine q_s rfl ?_
    | refine q_b rfl ?_
    | refine wG_nil ?_
    | refine wG_g rfl ?_
    | refine wG_pure (o_len_vwm rfl) ?_
    | refine wG_pure (o_not_d rfl) ?_
    | refine wG_p rfl (by first | exact rfl | omega) ?_
    | refine wG_pure (o_str2 rfl rfl rfl) ?_
    | refine wG_pure (e_istr rfl rfl (by omega)) ?_
    | refine wG_pure (e_istr0 rfl rfl (by omega)) ?_
    | refine wG_pure (o_not rfl) ?_
    | refine wG_pure (e_ia_vw0 rfl rfl (by omega) rfl) ?_
    | refine wG_pure (e_ia_vwp rfl rfl (by omega) rfl) ?_
    | refine wG_pure (e_ia_vwm rfl rfl (by omega) (by omega) rfl) ?_
    | refine wG_pure (e_ia_vwi rfl rfl (by omega) rfl) ?_
    | refine wG_pure (e_ia_vwn rfl rfl (by omega) (by omega) rfl) ?_
    | refine wG_n rfl rfl ?_
    | refine wG_u rfl rfl ?_
    | refine wG_new (o_mks rfl rfl (by omega) (by decide)) ?_)
    exact ret_boolE (.inr rfl) ⟨_, retV_mv rfl, rfl⟩
  obtain ⟨s1, s2, s3⟩ := szR_ok (Int.not_lt.1 h)
  have c2 := con13 nn es h3 (szR 1048576 r) (Int.not_lt.1 h) s3
  by_cases hs : szR 1048576 r - (es.length : Int) < 0
  · rw [if_pos hs] at c2
    repeat (first | refine wG_call c2 rfl rfl ?_ | (first
    | refine wC_a rfl ?_
    | refine q_s rfl ?_
    | refine q_b rfl ?_
    | refine wG_nil ?_
    | refine wG_g rfl ?_
    | refine wG_pure (o_len_vwm rfl) ?_
    | refine wG_pure (o_not_d rfl) ?_
    | refine wG_p rfl (by first | exact rfl | omega) ?_
    | refine wG_pure (o_str2 rfl rfl rfl) ?_
    | refine wG_pure (e_istr rfl rfl (by omega)) ?_
    | refine wG_pure (e_istr0 rfl rfl (by omega)) ?_
    | refine wG_pure (o_not rfl) ?_
    | refine wG_pure (e_ia_vw0 rfl rfl (by omega) rfl) ?_
    | refine wG_pure (e_ia_vwp rfl rfl (by omega) rfl) ?_
    | refine wG_pure (e_ia_vwm rfl rfl (by omega) (by omega) rfl) ?_
    | refine wG_pure (e_ia_vwi rfl rfl (by omega) rfl) ?_
    | refine wG_pure (e_ia_vwn rfl rfl (by omega) (by omega) rfl) ?_
    | refine wG_n rfl rfl ?_
    | refine wG_u rfl rfl ?_
    | refine wG_new (o_mks rfl rfl (by omega) (by decide)) ?_))
    exact ret_boolE (.inr rfl) ⟨_, retV_mv rfl, rfl⟩
  · rw [if_neg hs] at c2
    have h1' : r.cs.length ≤ 1048576 := by omega
    have h2' : r.xs.length ≤ 1048576 := by omega
    have h3' : es.length ≤ 1048576 := by omega
    have cT := con15 a b r h1' h2'
    have cD := con16 nn es h3'
    have cZ := con34 mm ds h4'
    have cS := con33 true true true true r es ds h1' h2' h3' h4'
    have cI := con35 true true true true r es ds h1' h2' h3' h4'
    have cE := con19 true true true true r h1' h2'
    have cF := con20 true true es h3'
    have cQ := con18_same true true ds h4'
    obtain ⟨p, q, hv⟩ : ∃ p q, arV r es ds = .tup [.bool p, .bool q] := ⟨_, _, rfl⟩
    rw [hv] at cS cI
    cases p <;> cases q
    all_goals (repeat' (first | refine wC_dregE ?_ | refine wG_call c2 rfl rfl ?_ | refine wG_call2 cT rfl rfl ?_ | refine wE_call2 cT rfl rfl rfl ?_ | refine wG_call1 cD rfl rfl ?_ | refine wG_call1 cZ rfl rfl ?_ | refine wG_call cS (ag_rec rfl rfl rfl (ag_sl rfl rfl rfl tRow_plain (ag_sl rfl rfl rfl iRow_plain ag_nil))) rfl ?_ | refine wG_call cI (ag_rec rfl rfl rfl (ag_sl rfl rfl rfl tRow_plain (ag_sl rfl rfl rfl iRow_plain ag_nil))) rfl ?_ | refine wG_call cE (ag_rec rfl rfl rfl (ag_rec rfl rfl rfl ag_nil)) rfl ?_ | refine wE_call cE (ag_rec rfl rfl rfl (ag_rec rfl rfl rfl ag_nil)) rfl rfl ?_ | refine wG_call cF (ag_sl rfl rfl rfl tRow_plain (ag_sl rfl rfl rfl tRow_plain ag_nil)) rfl ?_ | refine wG_call cQ (ag_sl rfl rfl rfl iRow_plain (ag_sl rfl rfl rfl iRow_plain ag_nil)) rfl ?_ | (first
    | refine wC_a rfl ?_
    | refine q_s rfl ?_
    | refine q_b rfl ?_
    | refine wG_nil ?_
    | refine wG_g rfl ?_
    | refine wG_pure (o_len_vwm rfl) ?_
    | refine wG_pure (o_not_d rfl) ?_
    | refine wG_p rfl (by first | exact rfl | omega) ?_
    | refine wG_pure (o_str2 rfl rfl rfl) ?_
    | refine wG_pure (e_istr rfl rfl (by omega)) ?_
    | refine wG_pure (e_istr0 rfl rfl (by omega)) ?_
    | refine wG_pure (o_not rfl) ?_
    | refine wG_pure (e_ia_vw0 rfl rfl (by omega) rfl) ?_
    | refine wG_pure (e_ia_vwp rfl rfl (by omega) rfl) ?_
    | refine wG_pure (e_ia_vwm rfl rfl (by omega) (by omega) rfl) ?_
    | refine wG_pure (e_ia_vwi rfl rfl (by omega) rfl) ?_
    | refine wG_pure (e_ia_vwn rfl rfl (by omega) (by omega) rfl) ?_
    | refine wG_n rfl rfl ?_
    | refine wG_u rfl rfl ?_
    | refine wG_new (o_mks rfl rfl (by omega) (by decide)) ?_) | (first
    | refine wE_nil (by kernel_rfl) ?_
    | refine wE_gy rfl ?_
    | refine wE_gn rfl rfl rfl ?_
    | refine wE_gu rfl rfl ?_
    | refine wE_gnn rfl rfl rfl ?_
    | refine wE_v (o_len_vwm rfl) rfl ?_
    | refine wE_v (o_not_d rfl) rfl ?_
    | refine wE_p rfl (by first | exact rfl | omega) rfl ?_
    | refine wE_v (o_str2 rfl rfl rfl) rfl ?_
    | refine wE_v (e_istr rfl rfl (by omega)) rfl ?_
    | refine wE_v (e_istr0 rfl rfl (by omega)) rfl ?_
    | refine wE_v (o_not rfl) rfl ?_
    | refine wE_v (e_ia_vw0 rfl rfl (by omega) rfl) rfl ?_
    | refine wE_v (e_ia_vwp rfl rfl (by omega) rfl) rfl ?_
    | refine wE_v (e_ia_vwm rfl rfl (by omega) (by omega) rfl) rfl ?_
    | refine wE_v (e_ia_vwi rfl rfl (by omega) rfl) rfl ?_
    | refine wE_v (e_ia_vwn rfl rfl (by omega) (by omega) rfl) rfl ?_
    | refine wE_n rfl rfl rfl ?_
    | refine wE_u rfl rfl rfl ?_
    | refine wE_new (o_mks rfl rfl (by omega) (by decide)) rfl ?_) | (refine wG_gd rfl (fun hgt => ?_) (fun hgf => ?_) <;> (first | simp only [eq_true hgt, decide_true] | simp only [eq_false hgf, decide_false])) | refine wC_cond_d rfl (fun hg => ?_) (fun hg => ?_)))
    all_goals (first | contradiction | exact ret_boolE (.inr rfl) ⟨_, retV_mv rfl, rfl⟩ | (exfalso; omega) | trace_state)
end Go.Proofs.Ythbpcnkifgoimaa.Rec
