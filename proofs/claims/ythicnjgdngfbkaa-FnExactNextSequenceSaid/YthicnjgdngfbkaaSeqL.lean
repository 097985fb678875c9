/- The sequence with a rank: both sides. -/
import Derived.Test.YthicnjgdngfbkaaSeqK
namespace Go.Proofs.Ythicnjgdngfbkaa.Rec
open Go Go.Proofs.Ythicnjgdngfbkaa.Ab Go.Proofs.Ythicnjgdngfbkaa.Il
attribute [local irreducible] wpO wpC wpDr wpQ wpG wpE stepA seqQ blkQ Ret RetG ev
set_option maxRecDepth 10000
set_option maxHeartbeats 8000000
set_option linter.unusedSimpArgs false
set_option linter.unusedVariables false

def ac34 : AC := (.seq (.reg [⟨(some 2), none, (.box 2 true (.t 0))⟩, ⟨(some 4), none, (.mv (.c .nilS))⟩, ⟨(some 5), none, (.mv (.c (.bool false)))⟩]) (.seq (.seq (.reg [⟨(some 6), none, (.ld true 2 (.t 2))⟩, ⟨(some 7), none, (.call 40 [(.t 6)])⟩, ⟨(some 8), none, (.un .not (.t 7))⟩]) (.cond (.t 8) (.seq (.reg [⟨(some 9), none, (.bsl 1 [(.int .i64 0)] 0 [])⟩, ⟨(some 4), none, (.mv (.t 9))⟩, ⟨(some 5), none, (.mv (.c (.bool false)))⟩]) .ret) .skip)) (.seq (.reg [⟨(some 10), none, (.ld true 2 (.t 2))⟩, ⟨(some 11), none, (.mv (.t 1))⟩, ⟨(some 12), none, (.call 61 [(.t 10), (.t 11)])⟩, ⟨(some 13), none, (.ext (.t 12) 0)⟩, ⟨(some 14), none, (.ext (.t 12) 1)⟩, ⟨(some 4), none, (.mv (.t 13))⟩, ⟨(some 5), none, (.mv (.t 14))⟩]) .ret)))
def ro34 : List AOp := [(.mv (.t 4)), (.mv (.t 5))]
theorem fun34 : Fun Try.prog 34 15 ac34 ro34 := ⟨Try.f34, _, Try.func34, by kernel_rfl, rfl, rfl, by kernel_rfl, by kernel_rfl, by decide⟩
def ac35 : AC := (.seq (.reg [⟨(some 2), none, (.box 2 true (.t 0))⟩, ⟨(some 4), none, (.mv (.c .nilS))⟩, ⟨(some 5), none, (.mv (.c (.bool false)))⟩]) (.seq (.reg [⟨(some 9), none, (.ld true 2 (.t 2))⟩, ⟨(some 10), none, (.call 45 [(.t 9)])⟩, ⟨(some 8), none, (.mv (.t 10))⟩, ⟨(some 11), none, (.ext (.t 8) 0)⟩, ⟨(some 12), none, (.ext (.t 8) 1)⟩, ⟨(some 6), none, (.mv (.t 11))⟩, ⟨(some 7), none, (.mv (.t 12))⟩]) (.seq (.seq (.reg [⟨(some 13), none, (.mv (.t 7))⟩, ⟨(some 14), none, (.un .not (.t 13))⟩, ⟨(some 15), none, (.mv (.t 14))⟩, ⟨(some 16), (some (15, false)), (.mv (.t 1))⟩, ⟨(some 17), (some (15, false)), (.mv (.t 6))⟩, ⟨(some 18), (some (15, false)), (.nck (.t 17))⟩, ⟨(some 19), (some (15, false)), (.fa 2 (.t 18))⟩, ⟨(some 20), (some (15, false)), (.ld false 1 (.t 19))⟩, ⟨(some 21), (some (15, false)), (.ia 1 (.t 20) (.c (.int .i64 0)))⟩, ⟨(some 22), (some (15, false)), (.ld false 1 (.t 21))⟩, ⟨(some 23), (some (15, false)), (.bin .sub (.t 22) (.c (.int .i64 1)))⟩, ⟨(some 24), (some (15, false)), (.call 62 [(.t 16), (.c (.int .i64 0)), (.t 23)])⟩, ⟨(some 25), (some (15, false)), (.un .not (.t 24))⟩, ⟨(some 26), none, (.pick (.t 15) (.c (.bool true)) (.t 25))⟩]) (.cond (.t 26) (.seq (.reg [⟨(some 4), none, (.mv (.c .nilS))⟩, ⟨(some 5), none, (.mv (.c (.bool false)))⟩]) .ret) .skip)) (.seq (.reg [⟨(some 27), none, (.mv (.t 6))⟩, ⟨(some 28), none, (.mv (.t 1))⟩, ⟨(some 29), none, (.call 63 [(.t 27), (.t 28)])⟩, ⟨(some 4), none, (.mv (.t 29))⟩, ⟨(some 5), none, (.mv (.c (.bool true)))⟩]) .ret))))
def ro35 : List AOp := [(.mv (.t 4)), (.mv (.t 5))]
theorem fun35 : Fun Try.prog 35 30 ac35 ro35 := ⟨Try.f35, _, Try.func35, by kernel_rfl, rfl, rfl, by kernel_rfl, by kernel_rfl, by decide⟩
def ac36 : AC := (.seq (.reg [⟨(some 2), none, (.box 2 true (.t 0))⟩, ⟨(some 4), none, (.mv (.c .nilS))⟩, ⟨(some 5), none, (.mv (.c (.bool false)))⟩, ⟨(some 6), none, (.mv (.c (.bool false)))⟩]) (.seq (.reg [⟨(some 12), none, (.ld true 2 (.t 2))⟩, ⟨(some 13), none, (.mv (.t 1))⟩, ⟨(some 14), none, (.call 27 [(.t 12), (.t 13)])⟩, ⟨(some 11), none, (.mv (.t 14))⟩, ⟨(some 15), none, (.ext (.t 11) 0)⟩, ⟨(some 16), none, (.ext (.t 11) 1)⟩, ⟨(some 7), none, (.mv (.t 15))⟩, ⟨(some 8), none, (.mv (.t 16))⟩]) (.seq (.seq (.reg [⟨(some 17), none, (.mv (.t 8))⟩, ⟨(some 18), none, (.un .not (.t 17))⟩]) (.cond (.t 18) (.seq (.reg [⟨(some 19), none, (.bsl 1 [(.int .i64 0)] 0 [])⟩, ⟨(some 4), none, (.mv (.t 19))⟩, ⟨(some 5), none, (.mv (.c (.bool false)))⟩, ⟨(some 6), none, (.mv (.c (.bool false)))⟩]) .ret) .skip)) (.seq (.reg [⟨(some 21), none, (.ld true 2 (.t 2))⟩, ⟨(some 22), none, (.mv (.t 7))⟩, ⟨(some 23), none, (.bin .add (.t 22) (.c (.int .i64 1)))⟩, ⟨(some 24), none, (.call 61 [(.t 21), (.t 23)])⟩, ⟨(some 20), none, (.mv (.t 24))⟩, ⟨(some 25), none, (.ext (.t 20) 0)⟩, ⟨(some 26), none, (.ext (.t 20) 1)⟩, ⟨(some 9), none, (.mv (.t 25))⟩, ⟨(some 10), none, (.mv (.t 26))⟩]) (.seq (.reg [⟨(some 27), none, (.mv (.t 9))⟩, ⟨(some 28), none, (.mv (.t 10))⟩, ⟨(some 4), none, (.mv (.t 27))⟩, ⟨(some 5), none, (.mv (.t 28))⟩, ⟨(some 6), none, (.mv (.c (.bool true)))⟩]) .ret)))))
def ro36 : List AOp := [(.mv (.t 4)), (.mv (.t 5)), (.mv (.t 6))]
theorem fun36 : Fun Try.prog 36 29 ac36 ro36 := ⟨Try.f36, _, Try.func36, by kernel_rfl, rfl, rfl, by kernel_rfl, by kernel_rfl, by decide⟩
def ac37 : AC := (.seq (.reg [⟨(some 2), none, (.box 2 true (.t 0))⟩, ⟨(some 4), none, (.mv (.c .nilS))⟩, ⟨(some 5), none, (.mv (.c (.bool false)))⟩, ⟨(some 6), none, (.mv (.c (.bool false)))⟩]) (.seq (.reg [⟨(some 11), none, (.ld true 2 (.t 2))⟩, ⟨(some 12), none, (.call 45 [(.t 11)])⟩, ⟨(some 10), none, (.mv (.t 12))⟩, ⟨(some 13), none, (.ext (.t 10) 0)⟩, ⟨(some 14), none, (.ext (.t 10) 1)⟩, ⟨(some 7), none, (.mv (.t 13))⟩, ⟨(some 8), none, (.mv (.t 14))⟩]) (.seq (.seq (.reg [⟨(some 15), none, (.mv (.t 8))⟩, ⟨(some 16), none, (.un .not (.t 15))⟩, ⟨(some 17), none, (.mv (.t 16))⟩, ⟨(some 18), (some (17, false)), (.mv (.t 7))⟩, ⟨(some 19), (some (17, false)), (.mv (.t 1))⟩, ⟨(some 20), (some (17, false)), (.call 53 [(.t 18), (.t 19)])⟩, ⟨(some 21), (some (17, false)), (.un .not (.t 20))⟩, ⟨(some 22), none, (.pick (.t 17) (.c (.bool true)) (.t 21))⟩]) (.cond (.t 22) (.seq (.reg [⟨(some 4), none, (.mv (.c .nilS))⟩, ⟨(some 5), none, (.mv (.c (.bool false)))⟩, ⟨(some 6), none, (.mv (.c (.bool false)))⟩]) .ret) .skip)) (.seq (.reg [⟨(some 23), none, (.mv (.t 7))⟩, ⟨(some 24), none, (.mv (.t 1))⟩, ⟨(some 25), none, (.call 57 [(.t 23), (.t 24)])⟩, ⟨(some 26), none, (.bin .add (.t 25) (.c (.int .i64 1)))⟩, ⟨(some 9), none, (.mv (.t 26))⟩]) (.seq (.seq (.reg [⟨(some 27), none, (.mv (.t 9))⟩, ⟨(some 28), none, (.mv (.t 7))⟩, ⟨(some 29), none, (.nck (.t 28))⟩, ⟨(some 30), none, (.fa 2 (.t 29))⟩, ⟨(some 31), none, (.ld false 1 (.t 30))⟩, ⟨(some 32), none, (.ia 1 (.t 31) (.c (.int .i64 0)))⟩, ⟨(some 33), none, (.ld false 1 (.t 32))⟩, ⟨(some 34), none, (.bin .eql (.t 27) (.t 33))⟩]) (.cond (.t 34) (.seq (.reg [⟨(some 4), none, (.mv (.c .nilS))⟩, ⟨(some 5), none, (.mv (.c (.bool false)))⟩, ⟨(some 6), none, (.mv (.c (.bool true)))⟩]) .ret) .skip)) (.seq (.reg [⟨(some 35), none, (.mv (.t 7))⟩, ⟨(some 36), none, (.mv (.t 9))⟩, ⟨(some 37), none, (.call 63 [(.t 35), (.t 36)])⟩, ⟨(some 4), none, (.mv (.t 37))⟩, ⟨(some 5), none, (.mv (.c (.bool true)))⟩, ⟨(some 6), none, (.mv (.c (.bool true)))⟩]) .ret))))))
def ro37 : List AOp := [(.mv (.t 4)), (.mv (.t 5)), (.mv (.t 6))]
theorem fun37 : Fun Try.prog 37 38 ac37 ro37 := ⟨Try.f37, _, Try.func37, by kernel_rfl, rfl, rfl, by kernel_rfl, by kernel_rfl, by decide⟩
def ac61 : AC := (.seq (.reg [⟨(some 2), none, (.box 2 true (.t 0))⟩, ⟨(some 4), none, (.mv (.c .nilS))⟩, ⟨(some 5), none, (.mv (.c (.bool false)))⟩]) (.seq (.reg [⟨(some 12), none, (.ld true 2 (.t 2))⟩, ⟨(some 13), none, (.call 42 [(.t 12)])⟩, ⟨(some 6), none, (.mv (.t 13))⟩]) (.seq (.reg [⟨(some 14), none, (.mv (.t 6))⟩, ⟨(some 15), none, (.call 41 [(.t 14)])⟩, ⟨(some 7), none, (.mv (.t 15))⟩]) (.seq (.seq (.reg [⟨(some 16), none, (.mv (.t 1))⟩, ⟨(some 17), none, (.mv (.t 7))⟩, ⟨(some 18), none, (.ia 1 (.t 17) (.c (.int .i64 0)))⟩, ⟨(some 19), none, (.ld false 1 (.t 18))⟩, ⟨(some 20), none, (.bin .sub (.t 19) (.c (.int .i64 1)))⟩, ⟨(some 21), none, (.call 74 [(.t 16), (.c (.int .i64 0)), (.t 20)])⟩, ⟨(some 22), none, (.un .not (.t 21))⟩]) (.cond (.t 22) (.seq (.reg [⟨(some 23), none, (.bsl 1 [(.int .i64 0)] 0 [])⟩, ⟨(some 4), none, (.mv (.t 23))⟩, ⟨(some 5), none, (.mv (.c (.bool false)))⟩]) .ret) .skip)) (.seq (.reg [⟨(some 24), none, (.bsl 1 [(.int .i64 0)] 0 [])⟩, ⟨(some 8), none, (.mv (.t 24))⟩]) (.seq (.reg [⟨(some 9), none, (.mv (.c (.int .i64 0)))⟩]) (.seq (.blk 0 (.loop (.seq (.seq (.reg [⟨(some 25), none, (.mv (.t 8))⟩, ⟨(some 26), none, (.len (.t 25))⟩, ⟨(some 27), none, (.mv (.t 6))⟩, ⟨(some 28), none, (.len (.t 27))⟩, ⟨(some 29), none, (.bin .lss (.t 26) (.t 28))⟩]) (.cond (.t 29) .skip (.exit 0))) (.blk 1 (.seq (.reg [⟨(some 10), none, (.mv (.c (.int .i64 0)))⟩]) (.blk 2 (.loop (.seq (.seq (.reg [⟨(some 30), none, (.mv (.t 10))⟩, ⟨(some 31), none, (.mv (.t 6))⟩, ⟨(some 32), none, (.len (.t 31))⟩, ⟨(some 33), none, (.bin .lss (.t 30) (.t 32))⟩]) (.cond (.t 33) .skip (.exit 2))) (.seq (.blk 3 (.seq (.seq (.reg [⟨(some 36), none, (.mv (.t 6))⟩, ⟨(some 37), none, (.mv (.t 9))⟩, ⟨(some 38), none, (.mv (.t 10))⟩, ⟨(some 39), none, (.call 56 [(.t 36), (.t 37), (.t 38)])⟩, ⟨(some 40), none, (.un .not (.t 39))⟩]) (.cond (.t 40) (.exit 3) .skip)) (.seq (.reg [⟨(some 41), none, (.mv (.t 7))⟩, ⟨(some 42), none, (.mv (.t 9))⟩, ⟨(some 43), none, (.mv (.t 10))⟩, ⟨(some 44), none, (.cv .u64 (.t 43))⟩, ⟨(some 45), none, (.bin .shl (.c (.int .i64 1)) (.t 44))⟩, ⟨(some 46), none, (.bin .or (.t 42) (.t 45))⟩, ⟨(some 47), none, (.ia 1 (.t 41) (.t 46))⟩, ⟨(some 48), none, (.ld false 1 (.t 47))⟩, ⟨(some 11), none, (.mv (.t 48))⟩]) (.seq (.seq (.reg [⟨(some 49), none, (.mv (.t 1))⟩, ⟨(some 50), none, (.mv (.t 11))⟩, ⟨(some 51), none, (.bin .lss (.t 49) (.t 50))⟩]) (.cond (.t 51) (.seq (.reg [⟨(some 52), none, (.mv (.t 8))⟩, ⟨(some 53), none, (.fa 0 (.t 2))⟩, ⟨(some 54), none, (.ld false 1 (.t 53))⟩, ⟨(some 55), none, (.mv (.t 10))⟩, ⟨(some 56), none, (.ia 2 (.t 54) (.t 55))⟩, ⟨(some 57), none, (.fa 0 (.t 56))⟩, ⟨(some 58), none, (.ld false 1 (.t 57))⟩, ⟨(some 59), none, (.bsl 1 [(.int .i64 0)] 1 [(0, (.t 58))])⟩, ⟨(some 60), none, (.app 1 8 [(.int .i64 0)] (.t 52) (.t 59))⟩, ⟨(some 8), none, (.mv (.t 60))⟩]) (.seq (.reg [⟨(some 61), none, (.mv (.t 9))⟩, ⟨(some 62), none, (.mv (.t 10))⟩, ⟨(some 63), none, (.cv .u64 (.t 62))⟩, ⟨(some 64), none, (.bin .shl (.c (.int .i64 1)) (.t 63))⟩, ⟨(some 65), none, (.bin .or (.t 61) (.t 64))⟩, ⟨(some 9), none, (.mv (.t 65))⟩]) (.exit 2))) .skip)) (.reg [⟨(some 66), none, (.mv (.t 1))⟩, ⟨(some 67), none, (.mv (.t 11))⟩, ⟨(some 68), none, (.bin .sub (.t 66) (.t 67))⟩, ⟨(some 1), none, (.mv (.t 68))⟩]))))) (.reg [⟨(some 34), none, (.mv (.t 10))⟩, ⟨(some 35), none, (.bin .add (.t 34) (.c (.int .i64 1)))⟩, ⟨(some 10), none, (.mv (.t 35))⟩])))))))))) (.seq (.reg [⟨(some 69), none, (.mv (.t 8))⟩, ⟨(some 4), none, (.mv (.t 69))⟩, ⟨(some 5), none, (.mv (.c (.bool true)))⟩]) .ret))))))))
def ro61 : List AOp := [(.mv (.t 4)), (.mv (.t 5))]
theorem fun61 : Fun Try.prog 61 70 ac61 ro61 := ⟨Try.f61, _, Try.func61, by kernel_rfl, rfl, rfl, by kernel_rfl, by kernel_rfl, by decide⟩
def ac63 : AC := (.seq (.reg [⟨(some 4), none, (.mv (.c .nilS))⟩]) (.seq (.reg [⟨(some 10), none, (.bsl 1 [(.int .i64 0)] 0 [])⟩, ⟨(some 5), none, (.mv (.t 10))⟩]) (.seq (.reg [⟨(some 6), none, (.mv (.c (.int .i64 0)))⟩]) (.seq (.seq (.reg [⟨(some 11), none, (.mv (.t 0))⟩, ⟨(some 12), none, (.nck (.t 11))⟩, ⟨(some 13), none, (.fa 0 (.t 12))⟩, ⟨(some 14), none, (.ld false 1 (.t 13))⟩, ⟨(some 15), none, (.nck (.t 14))⟩, ⟨(some 16), none, (.fa 0 (.t 15))⟩, ⟨(some 17), none, (.ld false 1 (.t 16))⟩, ⟨(some 18), none, (.len (.t 17))⟩, ⟨(some 19), none, (.mv (.c (.int .i64 0)))⟩]) (.blk 0 (.loop (.seq (.reg [⟨(some 20), none, (.bin .lss (.t 19) (.t 18))⟩]) (.seq (.cond (.t 20) .skip (.exit 0)) (.seq (.blk 1 (.seq (.reg [⟨(some 21), none, (.mv (.t 0))⟩, ⟨(some 22), none, (.nck (.t 21))⟩, ⟨(some 23), none, (.fa 0 (.t 22))⟩, ⟨(some 24), none, (.ld false 1 (.t 23))⟩, ⟨(some 25), none, (.nck (.t 24))⟩, ⟨(some 26), none, (.fa 0 (.t 25))⟩, ⟨(some 27), none, (.ld false 1 (.t 26))⟩, ⟨(some 28), none, (.len (.t 27))⟩, ⟨(some 29), none, (.mv (.c (.int .i64 0)))⟩]) (.blk 2 (.loop (.seq (.reg [⟨(some 30), none, (.bin .lss (.t 29) (.t 28))⟩]) (.seq (.cond (.t 30) .skip (.exit 2)) (.seq (.blk 3 (.seq (.reg [⟨(some 31), none, (.mv (.t 29))⟩, ⟨(some 32), none, (.ia 1 (.t 27) (.t 29))⟩, ⟨(some 33), none, (.ld false 1 (.t 32))⟩, ⟨(some 7), none, (.mv (.t 31))⟩, ⟨(some 8), none, (.mv (.t 33))⟩]) (.seq (.seq (.reg [⟨(some 34), none, (.mv (.t 0))⟩, ⟨(some 35), none, (.nck (.t 34))⟩, ⟨(some 36), none, (.fa 0 (.t 35))⟩, ⟨(some 37), none, (.ld false 1 (.t 36))⟩, ⟨(some 38), none, (.mv (.t 6))⟩, ⟨(some 39), none, (.mv (.t 7))⟩, ⟨(some 40), none, (.call 51 [(.t 37), (.t 38), (.t 39)])⟩, ⟨(some 41), none, (.un .not (.t 40))⟩]) (.cond (.t 41) (.exit 3) .skip)) (.seq (.seq (.dreg [⟨(some 42), none, (.mv (.t 0))⟩, ⟨(some 43), none, (.nck (.t 42))⟩, ⟨(some 44), none, (.fa 2 (.t 43))⟩, ⟨(some 45), none, (.ld false 1 (.t 44))⟩, ⟨(some 46), none, (.mv (.t 6))⟩, ⟨(some 47), none, (.mv (.t 7))⟩, ⟨(some 48), none, (.bin .shl (.c (.int .i64 1)) (.t 47))⟩, ⟨(some 49), none, (.bin .or (.t 46) (.t 48))⟩, ⟨(some 50), none, (.ia 1 (.t 45) (.t 49))⟩, ⟨(some 51), none, (.ld false 1 (.t 50))⟩, ⟨(some 9), none, (.mv (.t 51))⟩] [[], [0], [0, 1], [0, 1, 2], [], [], [5], [4, 5, 6], [0, 1, 2, 3, 4, 5, 6, 7], [0, 1, 2, 3, 4, 5, 6, 7, 8], [0, 1, 2, 3, 4, 5, 6, 7, 8, 9]]) (.seq (.reg [⟨(some 52), none, (.mv (.t 1))⟩, ⟨(some 53), none, (.mv (.t 9))⟩, ⟨(some 54), none, (.bin .geq (.t 52) (.t 53))⟩]) (.cond (.t 54) (.seq (.reg [⟨(some 55), none, (.mv (.t 1))⟩, ⟨(some 56), none, (.mv (.t 9))⟩, ⟨(some 57), none, (.bin .sub (.t 55) (.t 56))⟩, ⟨(some 1), none, (.mv (.t 57))⟩]) (.exit 3)) .skip))) (.seq (.reg [⟨(some 58), none, (.mv (.t 6))⟩, ⟨(some 59), none, (.mv (.t 7))⟩, ⟨(some 60), none, (.bin .shl (.c (.int .i64 1)) (.t 59))⟩, ⟨(some 61), none, (.bin .or (.t 58) (.t 60))⟩, ⟨(some 6), none, (.mv (.t 61))⟩]) (.seq (.reg [⟨(some 62), none, (.mv (.t 5))⟩, ⟨(some 63), none, (.mv (.t 8))⟩, ⟨(some 64), none, (.bsl 1 [(.int .i64 0)] 1 [(0, (.t 63))])⟩, ⟨(some 65), none, (.app 1 8 [(.int .i64 0)] (.t 62) (.t 64))⟩, ⟨(some 5), none, (.mv (.t 65))⟩]) (.exit 2))))))) (.reg [⟨(some 66), none, (.bin .add (.t 29) (.c (.int .i64 1)))⟩, ⟨(some 29), none, (.mv (.t 66))⟩])))))))) (.reg [⟨(some 67), none, (.bin .add (.t 19) (.c (.int .i64 1)))⟩, ⟨(some 19), none, (.mv (.t 67))⟩]))))))) (.seq (.reg [⟨(some 68), none, (.mv (.t 5))⟩, ⟨(some 4), none, (.mv (.t 68))⟩]) .ret)))))
def ro63 : List AOp := [(.mv (.t 4))]
theorem fun63 : Fun Try.prog 63 69 ac63 ro63 := ⟨Try.f63, _, Try.func63, by kernel_rfl, rfl, rfl, by kernel_rfl, by kernel_rfl, by decide⟩

theorem pk_eq {n S x i : Nat} {W : Nat → Nat → Bool} (h1 : i < n) (h2 : x < sumTo (gS n W S) (i + 1)) (h3 : ∀ j, j < i → sumTo (gS n W S) (j + 1) ≤ x) : pk n W S x = i := by
  unfold pk
  rw [ixN_at h1 h2 (fun j hj => Nat.not_lt.2 (h3 j hj))]; rfl
theorem inv_le {f : Nat → Nat} {y : Nat} : ∀ {i : Nat}, (∀ j, j < i → sumTo f (j + 1) ≤ y) → sumTo f i ≤ y
  | 0, _ => Nat.zero_le _
  | i + 1, h => h i (Nat.lt_succ_self i)
theorem numC_pos {ns : List Int} {n : Nat} (h : 0 < n) : numC ns n = .vw true (ns.map iRow) := by
  cases n with
  | zero => omega
  | succ n => rfl
theorem nums_get2 {r : Rc} {i : Nat} (h : i < r.cs.length) : ((nums r r.cs.length).map iRow)[i]? = some (iRow (r.cs.getD i default).n) := by
  simp [nums, List.getElem?_map, List.getElem?_eq_getElem h, List.getD_eq_getElem?_getD]
theorem con63 (r : Rc) (x : Nat) (h10 : r.cs.length ≤ 10) (hx : x < cnt r.cs.length (later r) 0) : Con Try.prog 63 true [cgC r, .int .i64 (x : Int)] (.sl 0 1 0 r.cs.length) [(atL r x r.cs.length).map iRow] := by
  refine con_of_wp mixed fun63 (by simp) [0] (plain_map iRow_plain _) ?_
  unfold ac63 ro63
  simp only [zipT]
  have hnl : (nums r r.cs.length).length = r.cs.length := nums_len (Nat.le_refl _)
  repeat (first | refine wG_pure (hlenC hnl _ _ _ _ rfl) ?_ | (first
    | refine wC_a rfl ?_
    | refine q_s rfl ?_
    | refine q_b rfl ?_
    | refine wG_nil ?_
    | refine wG_g rfl ?_
    | refine wG_pure (o_len_vwm rfl) ?_
    | refine wG_pure (o_not_d rfl) ?_
    | refine wG_p rfl (by first | exact rfl | omega) ?_
    | refine wG_pure (o_str2 rfl rfl rfl) ?_
    | refine wG_pure (e_istr rfl rfl (by omega)) ?_
    | refine wG_pure (e_istr0 rfl rfl (by omega)) ?_
    | refine wG_pure (o_not rfl) ?_
    | refine wG_pure (e_ia_vw0 rfl rfl (by omega) rfl) ?_
    | refine wG_pure (e_ia_vwp rfl rfl (by omega) rfl) ?_
    | refine wG_pure (e_ia_vwm rfl rfl (by omega) (by omega) rfl) ?_
    | refine wG_pure (e_ia_vwi rfl rfl (by omega) rfl) ?_
    | refine wG_pure (e_ia_vwn rfl rfl (by omega) (by omega) rfl) ?_
    | refine wG_n rfl rfl ?_
    | refine wG_u rfl rfl ?_
    | refine wG_new (o_mks rfl rfl (by omega) (by decide)) ?_))
  refine wC_loopR Nat (fun j => ⟨[(0, cgC r), (1, .int .i64 (((atS r.cs.length (later r) x j).2 : Nat) : Int)), (5, .sl 0 1 0 (atL r x j).length), (6, .int .i64 (((atS r.cs.length (later r) x j).1 : Nat) : Int)), (18, .int .i64 (r.cs.length : Int)), (19, .int .i64 (j : Int))], [(0, some ((atL r x j).map iRow))], 1⟩) (fun j => j ≤ r.cs.length) (fun j => r.cs.length - j) 0 (Nat.zero_le _) ⟨[0], ?_⟩ ?_
  · exact ⟨⟨⟨rfl, rfl⟩, ⟨rfl, rfl⟩, ⟨rfl, rfl⟩, ⟨rfl, rfl⟩, ⟨rfl, rfl⟩, ⟨rfl, rfl⟩, trivial⟩, ⟨⟨⟨_, rfl, rfl⟩, (by show 0 < 1; decide), ltrI _ _⟩, trivial⟩, rfl, by decide⟩
  intro j hj
  have hlj := atL_len r x j
  obtain ⟨hS, hpc, hy⟩ := atS_ok hx j hj
  have hS2 := lt10 h10 hS
  have hyb := cnt_le (W := later r) h10 (atS r.cs.length (later r) x j).1
  repeat (first
    | refine wC_a rfl ?_
    | refine q_s rfl ?_
    | refine q_b rfl ?_
    | refine wG_nil ?_
    | refine wG_g rfl ?_
    | refine wG_pure (o_len_vwm rfl) ?_
    | refine wG_pure (o_not_d rfl) ?_
    | refine wG_p rfl (by first | exact rfl | omega) ?_
    | refine wG_pure (o_str2 rfl rfl rfl) ?_
    | refine wG_pure (e_istr rfl rfl (by omega)) ?_
    | refine wG_pure (e_istr0 rfl rfl (by omega)) ?_
    | refine wG_pure (o_not rfl) ?_
    | refine wG_pure (e_ia_vw0 rfl rfl (by omega) rfl) ?_
    | refine wG_pure (e_ia_vwp rfl rfl (by omega) rfl) ?_
    | refine wG_pure (e_ia_vwm rfl rfl (by omega) (by omega) rfl) ?_
    | refine wG_pure (e_ia_vwi rfl rfl (by omega) rfl) ?_
    | refine wG_pure (e_ia_vwn rfl rfl (by omega) (by omega) rfl) ?_
    | refine wG_n rfl rfl ?_
    | refine wG_u rfl rfl ?_
    | refine wG_new (o_mks rfl rfl (by omega) (by decide)) ?_)
  refine wC_cond_d rfl (fun h4 => ?_) (fun h4 => ?_)
  · have hj2 : j < r.cs.length := by omega
    have hlt := atS_lt hx hj2
    have hn0 : 0 < r.cs.length := by omega
    have hP : ∀ i, pk r.cs.length (later r) (atS r.cs.length (later r) x j).1 (atS r.cs.length (later r) x j).2 = i → atS r.cs.length (later r) x (j + 1) = ((atS r.cs.length (later r) x j).1 ||| 2 ^ i, (atS r.cs.length (later r) x j).2 - sumTo (gS r.cs.length (later r) (atS r.cs.length (later r) x j).1) i) ∧ atL r x (j + 1) = atL r x j ++ [(r.cs.getD i default).n] := fun i hi => by
      refine ⟨?_, ?_⟩
      · show (_, _) = _
        rw [hi]
      · rw [atL_succ, atP, hi]
    generalize (atS r.cs.length (later r) x j).1 = S at *
    generalize (atS r.cs.length (later r) x j).2 = y at *
    repeat (first | refine wG_pure (hlenC hnl _ _ _ _ rfl) ?_ | (first
    | refine wC_a rfl ?_
    | refine q_s rfl ?_
    | refine q_b rfl ?_
    | refine wG_nil ?_
    | refine wG_g rfl ?_
    | refine wG_pure (o_len_vwm rfl) ?_
    | refine wG_pure (o_not_d rfl) ?_
    | refine wG_p rfl (by first | exact rfl | omega) ?_
    | refine wG_pure (o_str2 rfl rfl rfl) ?_
    | refine wG_pure (e_istr rfl rfl (by omega)) ?_
    | refine wG_pure (e_istr0 rfl rfl (by omega)) ?_
    | refine wG_pure (o_not rfl) ?_
    | refine wG_pure (e_ia_vw0 rfl rfl (by omega) rfl) ?_
    | refine wG_pure (e_ia_vwp rfl rfl (by omega) rfl) ?_
    | refine wG_pure (e_ia_vwm rfl rfl (by omega) (by omega) rfl) ?_
    | refine wG_pure (e_ia_vwi rfl rfl (by omega) rfl) ?_
    | refine wG_pure (e_ia_vwn rfl rfl (by omega) (by omega) rfl) ?_
    | refine wG_n rfl rfl ?_
    | refine wG_u rfl rfl ?_
    | refine wG_new (o_mks rfl rfl (by omega) (by decide)) ?_))
    refine wC_loop Nat (fun i => ⟨[(0, cgC r), (1, .int .i64 ((y - sumTo (gS r.cs.length (later r) S) i : Nat) : Int)), (5, .sl 0 1 0 (atL r x j).length), (6, .int .i64 (S : Int)), (18, .int .i64 (r.cs.length : Int)), (19, .int .i64 (j : Int)), (27, numC (nums r r.cs.length) r.cs.length), (28, .int .i64 (r.cs.length : Int)), (29, .int .i64 (i : Int))], [(0, some ((atL r x j).map iRow))], 1⟩) (fun i => i ≤ r.cs.length ∧ ∀ k, k < i → sumTo (gS r.cs.length (later r) S) (k + 1) ≤ y) (fun i => r.cs.length - i) 0 ⟨Nat.zero_le _, fun k hk => absurd hk (Nat.not_lt_zero _)⟩ ?_ (fun _ _ => Nat.zero_le _) ?_
    · have hnc : ∀ m, AV.ltr m (numC (nums r r.cs.length) r.cs.length) = true := fun m => by rw [numC_pos hn0]; rfl
      exact ⟨⟨⟨rfl, rfl⟩, ⟨rfl, rfl⟩, ⟨rfl, rfl⟩, ⟨rfl, rfl⟩, ⟨rfl, rfl⟩, ⟨rfl, rfl⟩, ⟨rfl, hnc _⟩, ⟨rfl, rfl⟩, ⟨rfl, rfl⟩, trivial⟩, ⟨rfl, (by show 0 < 1; decide), ltrI _ _⟩, trivial⟩
    rintro i ⟨hi, hinv⟩
    have hle := inv_le hinv
    repeat (first
    | refine wC_a rfl ?_
    | refine q_s rfl ?_
    | refine q_b rfl ?_
    | refine wG_nil ?_
    | refine wG_g rfl ?_
    | refine wG_pure (o_len_vwm rfl) ?_
    | refine wG_pure (o_not_d rfl) ?_
    | refine wG_p rfl (by first | exact rfl | omega) ?_
    | refine wG_pure (o_str2 rfl rfl rfl) ?_
    | refine wG_pure (e_istr rfl rfl (by omega)) ?_
    | refine wG_pure (e_istr0 rfl rfl (by omega)) ?_
    | refine wG_pure (o_not rfl) ?_
    | refine wG_pure (e_ia_vw0 rfl rfl (by omega) rfl) ?_
    | refine wG_pure (e_ia_vwp rfl rfl (by omega) rfl) ?_
    | refine wG_pure (e_ia_vwm rfl rfl (by omega) (by omega) rfl) ?_
    | refine wG_pure (e_ia_vwi rfl rfl (by omega) rfl) ?_
    | refine wG_pure (e_ia_vwn rfl rfl (by omega) (by omega) rfl) ?_
    | refine wG_n rfl rfl ?_
    | refine wG_u rfl rfl ?_
    | refine wG_new (o_mks rfl rfl (by omega) (by decide)) ?_)
    refine wC_cond_d rfl (fun h5 => ?_) (fun h5 => ?_)
    · have hi2 : i < r.cs.length := by omega
      have cR := con51 (nums r r.cs.length) (later r) (lk0 r r.xs.length) hnl h10 hS2 hi2
      have hp := p10 hi2 h10
      have hor := or_lt hS hi2
      have gn := nums_get2 hi2
      have g2 := cntL_get (W := later r) hor
      have b1 := cnt_le (W := later r) h10 (S ||| 2 ^ i)
      have hsum : sumTo (gS r.cs.length (later r) S) (i + 1) = sumTo (gS r.cs.length (later r) S) i + gS r.cs.length (later r) S i := rfl
      by_cases hr : rdy r.cs.length (later r) S i
      · rw [decide_eq_true hr] at cR
        have e2 : gS r.cs.length (later r) S i = cnt r.cs.length (later r) (S ||| 2 ^ i) := if_pos hr
        rw [e2] at hsum
        repeat (first | refine wG_call cR rfl rfl ?_ | refine wG_pure (e_row (numC_pos hn0) rfl gn rfl) ?_ | refine wG_pure (o_shl1 rfl rfl (by omega)) ?_ | refine wG_pure (o_or rfl rfl (by omega) (by omega)) ?_ | refine wG_pure (e_row rfl rfl g2 rfl) ?_ | (first
    | refine wC_a rfl ?_
    | refine q_s rfl ?_
    | refine q_b rfl ?_
    | refine wG_nil ?_
    | refine wG_g rfl ?_
    | refine wG_pure (o_len_vwm rfl) ?_
    | refine wG_pure (o_not_d rfl) ?_
    | refine wG_p rfl (by first | exact rfl | omega) ?_
    | refine wG_pure (o_str2 rfl rfl rfl) ?_
    | refine wG_pure (e_istr rfl rfl (by omega)) ?_
    | refine wG_pure (e_istr0 rfl rfl (by omega)) ?_
    | refine wG_pure (o_not rfl) ?_
    | refine wG_pure (e_ia_vw0 rfl rfl (by omega) rfl) ?_
    | refine wG_pure (e_ia_vwp rfl rfl (by omega) rfl) ?_
    | refine wG_pure (e_ia_vwm rfl rfl (by omega) (by omega) rfl) ?_
    | refine wG_pure (e_ia_vwi rfl rfl (by omega) rfl) ?_
    | refine wG_pure (e_ia_vwn rfl rfl (by omega) (by omega) rfl) ?_
    | refine wG_n rfl rfl ?_
    | refine wG_u rfl rfl ?_
    | refine wG_new (o_mks rfl rfl (by omega) (by decide)) ?_))
        refine wC_cond_d rfl (fun h6 => ?_) (fun h6 => ?_)
        · repeat (first
    | refine wC_a rfl ?_
    | refine q_s rfl ?_
    | refine q_b rfl ?_
    | refine wG_nil ?_
    | refine wG_g rfl ?_
    | refine wG_pure (o_len_vwm rfl) ?_
    | refine wG_pure (o_not_d rfl) ?_
    | refine wG_p rfl (by first | exact rfl | omega) ?_
    | refine wG_pure (o_str2 rfl rfl rfl) ?_
    | refine wG_pure (e_istr rfl rfl (by omega)) ?_
    | refine wG_pure (e_istr0 rfl rfl (by omega)) ?_
    | refine wG_pure (o_not rfl) ?_
    | refine wG_pure (e_ia_vw0 rfl rfl (by omega) rfl) ?_
    | refine wG_pure (e_ia_vwp rfl rfl (by omega) rfl) ?_
    | refine wG_pure (e_ia_vwm rfl rfl (by omega) (by omega) rfl) ?_
    | refine wG_pure (e_ia_vwi rfl rfl (by omega) rfl) ?_
    | refine wG_pure (e_ia_vwn rfl rfl (by omega) (by omega) rfl) ?_
    | refine wG_n rfl rfl ?_
    | refine wG_u rfl rfl ?_
    | refine wG_new (o_mks rfl rfl (by omega) (by decide)) ?_)
          refine ⟨i + 1, ⟨hi2, lt_up' hinv (by omega)⟩, by omega, ⟨⟨rfl, rfl⟩, ⟨?_, rfl⟩, ⟨rfl, rfl⟩, ⟨rfl, rfl⟩, ⟨rfl, rfl⟩, ⟨rfl, rfl⟩, ⟨rfl, by rw [numC_pos hn0]; rfl⟩, ⟨rfl, rfl⟩, ⟨rfl, rfl⟩, trivial⟩, ⟨rfl, (by show 0 < 1; decide), ltrI _ _⟩, trivial⟩
          show AV.int _ _ = AV.int _ _
          rw [hsum]
          congr 1
          omega
        · obtain ⟨q1, q2⟩ := hP i (pk_eq hi2 (by omega) hinv)
          repeat (first | refine wG_pure (o_shl1 rfl rfl (by omega)) ?_ | refine wG_pure (o_or rfl rfl (by omega) (by omega)) ?_ | refine wG_app rfl rfl (by simp) (rows_sl rfl rfl rfl) (by simp) (by simp; omega) (by decide) ?_ | (first
    | refine wC_a rfl ?_
    | refine q_s rfl ?_
    | refine q_b rfl ?_
    | refine wG_nil ?_
    | refine wG_g rfl ?_
    | refine wG_pure (o_len_vwm rfl) ?_
    | refine wG_pure (o_not_d rfl) ?_
    | refine wG_p rfl (by first | exact rfl | omega) ?_
    | refine wG_pure (o_str2 rfl rfl rfl) ?_
    | refine wG_pure (e_istr rfl rfl (by omega)) ?_
    | refine wG_pure (e_istr0 rfl rfl (by omega)) ?_
    | refine wG_pure (o_not rfl) ?_
    | refine wG_pure (e_ia_vw0 rfl rfl (by omega) rfl) ?_
    | refine wG_pure (e_ia_vwp rfl rfl (by omega) rfl) ?_
    | refine wG_pure (e_ia_vwm rfl rfl (by omega) (by omega) rfl) ?_
    | refine wG_pure (e_ia_vwi rfl rfl (by omega) rfl) ?_
    | refine wG_pure (e_ia_vwn rfl rfl (by omega) (by omega) rfl) ?_
    | refine wG_n rfl rfl ?_
    | refine wG_u rfl rfl ?_
    | refine wG_new (o_mks rfl rfl (by omega) (by decide)) ?_))
          refine ⟨j + 1, hj2, by omega, [2], ?_⟩
          simp only [q1, q2]
          refine ⟨⟨⟨rfl, rfl⟩, ⟨rfl, rfl⟩, ⟨by simp [lk, rn, πof], rfl⟩, ⟨rfl, rfl⟩, ⟨rfl, rfl⟩, ⟨rfl, rfl⟩, trivial⟩, ⟨⟨⟨_, rfl, ?_⟩, (by show 0 < 1; decide), ltrI _ _⟩, trivial⟩, rfl, by decide⟩
          rw [← rn_rows (rowsP _), List.map_append]; rfl
      · rw [decide_eq_false hr] at cR
        have e2 : gS r.cs.length (later r) S i = 0 := if_neg hr
        rw [e2, Nat.add_zero] at hsum
        repeat (first | refine wG_call cR rfl rfl ?_ | refine wG_pure (e_row (numC_pos hn0) rfl gn rfl) ?_ | (first
    | refine wC_a rfl ?_
    | refine q_s rfl ?_
    | refine q_b rfl ?_
    | refine wG_nil ?_
    | refine wG_g rfl ?_
    | refine wG_pure (o_len_vwm rfl) ?_
    | refine wG_pure (o_not_d rfl) ?_
    | refine wG_p rfl (by first | exact rfl | omega) ?_
    | refine wG_pure (o_str2 rfl rfl rfl) ?_
    | refine wG_pure (e_istr rfl rfl (by omega)) ?_
    | refine wG_pure (e_istr0 rfl rfl (by omega)) ?_
    | refine wG_pure (o_not rfl) ?_
    | refine wG_pure (e_ia_vw0 rfl rfl (by omega) rfl) ?_
    | refine wG_pure (e_ia_vwp rfl rfl (by omega) rfl) ?_
    | refine wG_pure (e_ia_vwm rfl rfl (by omega) (by omega) rfl) ?_
    | refine wG_pure (e_ia_vwi rfl rfl (by omega) rfl) ?_
    | refine wG_pure (e_ia_vwn rfl rfl (by omega) (by omega) rfl) ?_
    | refine wG_n rfl rfl ?_
    | refine wG_u rfl rfl ?_
    | refine wG_new (o_mks rfl rfl (by omega) (by decide)) ?_))
        refine ⟨i + 1, ⟨hi2, lt_up' hinv (by omega)⟩, by omega, ⟨⟨rfl, rfl⟩, ⟨?_, rfl⟩, ⟨rfl, rfl⟩, ⟨rfl, rfl⟩, ⟨rfl, rfl⟩, ⟨rfl, rfl⟩, ⟨rfl, by rw [numC_pos hn0]; rfl⟩, ⟨rfl, rfl⟩, ⟨rfl, rfl⟩, trivial⟩, ⟨rfl, (by show 0 < 1; decide), ltrI _ _⟩, trivial⟩
        rw [hsum]; rfl
    · have hi3 : i = r.cs.length := by omega
      subst hi3
      omega
  · have hj3 : j = r.cs.length := by omega
    subst hj3
    repeat (first
    | refine wC_a rfl ?_
    | refine q_s rfl ?_
    | refine q_b rfl ?_
    | refine wG_nil ?_
    | refine wG_g rfl ?_
    | refine wG_pure (o_len_vwm rfl) ?_
    | refine wG_pure (o_not_d rfl) ?_
    | refine wG_p rfl (by first | exact rfl | omega) ?_
    | refine wG_pure (o_str2 rfl rfl rfl) ?_
    | refine wG_pure (e_istr rfl rfl (by omega)) ?_
    | refine wG_pure (e_istr0 rfl rfl (by omega)) ?_
    | refine wG_pure (o_not rfl) ?_
    | refine wG_pure (e_ia_vw0 rfl rfl (by omega) rfl) ?_
    | refine wG_pure (e_ia_vwp rfl rfl (by omega) rfl) ?_
    | refine wG_pure (e_ia_vwm rfl rfl (by omega) (by omega) rfl) ?_
    | refine wG_pure (e_ia_vwi rfl rfl (by omega) rfl) ?_
    | refine wG_pure (e_ia_vwn rfl rfl (by omega) (by omega) rfl) ?_
    | refine wG_n rfl rfl ?_
    | refine wG_u rfl rfl ?_
    | refine wG_new (o_mks rfl rfl (by omega) (by decide)) ?_)
    rw [hlj]
    exact ret_sl (.inr rfl) (retV_mv rfl) rfl
theorem con61_yes (a b : Bool) (r : Rc) (x : Nat) (hG : GoodR r) (hx : x < cnt r.cs.length (later r) 0) : Con Try.prog 61 true [.agg (rRow a b r), .int .i64 (x : Int)] (.tup [.sl 0 1 0 r.cs.length, .bool true]) [(atL r x r.cs.length).map iRow] := by
  refine con_of_wp mixed fun61 (by simp) [3] (plain_map iRow_plain _) ?_
  unfold ac61 ro61
  simp only [zipT]
  have h10 := hG.1
  have c3 := con42 a b r hG
  have c4 := con41 true (later r) h10
  have hp0 : 0 < 2 ^ r.cs.length := Nat.pow_pos (by decide)
  have hcb := cnt_le (W := later r) h10 0
  have c5 := con74 (x : Int) 0 (((cnt r.cs.length (later r) 0 : Nat) : Int) - 1)
  rw [decide_eq_true (by omega)] at c5
  have e0 : ∀ n : Nat, 0 + ((n : Int)).toNat = n := fun n => by simp
  repeat (first | refine wG_call1 c3 rfl rfl ?_ | refine wG_call1 c4 (ag_sl rfl rfl (maskL_len _ _).symm iRow_plain ag_nil) rfl ?_ | refine wG_call c5 rfl rfl ?_ | refine wG_pure (e_ia_sl (n := 0) rfl rfl (by decide) (by omega)) ?_ | refine wG_pure (o_ldf_pt rfl rfl cnt0_get rfl) ?_ | (first
    | refine wC_a rfl ?_
    | refine q_s rfl ?_
    | refine q_b rfl ?_
    | refine wG_nil ?_
    | refine wG_g rfl ?_
    | refine wG_pure (o_len_vwm rfl) ?_
    | refine wG_pure (o_not_d rfl) ?_
    | refine wG_p rfl (by first | exact rfl | omega) ?_
    | refine wG_pure (o_str2 rfl rfl rfl) ?_
    | refine wG_pure (e_istr rfl rfl (by omega)) ?_
    | refine wG_pure (e_istr0 rfl rfl (by omega)) ?_
    | refine wG_pure (o_not rfl) ?_
    | refine wG_pure (e_ia_vw0 rfl rfl (by omega) rfl) ?_
    | refine wG_pure (e_ia_vwp rfl rfl (by omega) rfl) ?_
    | refine wG_pure (e_ia_vwm rfl rfl (by omega) (by omega) rfl) ?_
    | refine wG_pure (e_ia_vwi rfl rfl (by omega) rfl) ?_
    | refine wG_pure (e_ia_vwn rfl rfl (by omega) (by omega) rfl) ?_
    | refine wG_n rfl rfl ?_
    | refine wG_u rfl rfl ?_
    | refine wG_new (o_mks rfl rfl (by omega) (by decide)) ?_))
  refine wC_loopR Nat (fun j => ⟨[(1, .int .i64 (((atS r.cs.length (later r) x j).2 : Nat) : Int)), (2, .pt 0 0 0), (6, .sl 1 1 0 r.cs.length), (7, .sl 2 1 0 (2 ^ r.cs.length)), (8, .sl 3 1 0 (atL r x j).length), (9, .int .i64 (((atS r.cs.length (later r) x j).1 : Nat) : Int))], [(3, some ((atL r x j).map iRow)), (2, some ((cntL r.cs.length (later r)).map iRow)), (1, some ((maskL (later r) r.cs.length).map iRow)), (0, some [rRow a b r])], 4⟩) (fun j => j ≤ r.cs.length) (fun j => r.cs.length - j) 0 (Nat.zero_le _) ⟨[0, 1, 2, 3], ?_⟩ ?_
  · exact ⟨⟨⟨rfl, rfl⟩, ⟨rfl, rfl⟩, ⟨rfl, rfl⟩, ⟨rfl, rfl⟩, ⟨rfl, rfl⟩, ⟨rfl, rfl⟩, trivial⟩, ⟨⟨⟨_, rfl, rfl⟩, (by show 3 < 4; decide), ltrI _ _⟩, ⟨⟨_, rfl, rn_rows (rowsP _)⟩, (by show 2 < 4; decide), ltrI _ _⟩, ⟨⟨_, rfl, rn_rows (rowsP _)⟩, (by show 1 < 4; decide), ltrI _ _⟩, ⟨⟨_, rfl, rfl⟩, (by show 0 < 4; decide), by simp [rRow, AV.ltr]⟩, trivial⟩, rfl, by decide⟩
  intro j hj
  have hlj := atL_len r x j
  obtain ⟨hS, hpc, hy⟩ := atS_ok hx j hj
  have hS2 := lt10 h10 hS
  have hyb := cnt_le (W := later r) h10 (atS r.cs.length (later r) x j).1
  repeat (first
    | refine wC_a rfl ?_
    | refine q_s rfl ?_
    | refine q_b rfl ?_
    | refine wG_nil ?_
    | refine wG_g rfl ?_
    | refine wG_pure (o_len_vwm rfl) ?_
    | refine wG_pure (o_not_d rfl) ?_
    | refine wG_p rfl (by first | exact rfl | omega) ?_
    | refine wG_pure (o_str2 rfl rfl rfl) ?_
    | refine wG_pure (e_istr rfl rfl (by omega)) ?_
    | refine wG_pure (e_istr0 rfl rfl (by omega)) ?_
    | refine wG_pure (o_not rfl) ?_
    | refine wG_pure (e_ia_vw0 rfl rfl (by omega) rfl) ?_
    | refine wG_pure (e_ia_vwp rfl rfl (by omega) rfl) ?_
    | refine wG_pure (e_ia_vwm rfl rfl (by omega) (by omega) rfl) ?_
    | refine wG_pure (e_ia_vwi rfl rfl (by omega) rfl) ?_
    | refine wG_pure (e_ia_vwn rfl rfl (by omega) (by omega) rfl) ?_
    | refine wG_n rfl rfl ?_
    | refine wG_u rfl rfl ?_
    | refine wG_new (o_mks rfl rfl (by omega) (by decide)) ?_)
  refine wC_cond_d rfl (fun h4 => ?_) (fun h4 => ?_)
  · have hj2 : j < r.cs.length := by omega
    have hlt := atS_lt hx hj2
    have hn0 : 0 < r.cs.length := by omega
    have hP : ∀ i, pk r.cs.length (later r) (atS r.cs.length (later r) x j).1 (atS r.cs.length (later r) x j).2 = i → atS r.cs.length (later r) x (j + 1) = ((atS r.cs.length (later r) x j).1 ||| 2 ^ i, (atS r.cs.length (later r) x j).2 - sumTo (gS r.cs.length (later r) (atS r.cs.length (later r) x j).1) i) ∧ atL r x (j + 1) = atL r x j ++ [(r.cs.getD i default).n] := fun i hi => by
      refine ⟨?_, ?_⟩
      · show (_, _) = _
        rw [hi]
      · rw [atL_succ, atP, hi]
    generalize (atS r.cs.length (later r) x j).1 = S at *
    generalize (atS r.cs.length (later r) x j).2 = y at *
    repeat (first
    | refine wC_a rfl ?_
    | refine q_s rfl ?_
    | refine q_b rfl ?_
    | refine wG_nil ?_
    | refine wG_g rfl ?_
    | refine wG_pure (o_len_vwm rfl) ?_
    | refine wG_pure (o_not_d rfl) ?_
    | refine wG_p rfl (by first | exact rfl | omega) ?_
    | refine wG_pure (o_str2 rfl rfl rfl) ?_
    | refine wG_pure (e_istr rfl rfl (by omega)) ?_
    | refine wG_pure (e_istr0 rfl rfl (by omega)) ?_
    | refine wG_pure (o_not rfl) ?_
    | refine wG_pure (e_ia_vw0 rfl rfl (by omega) rfl) ?_
    | refine wG_pure (e_ia_vwp rfl rfl (by omega) rfl) ?_
    | refine wG_pure (e_ia_vwm rfl rfl (by omega) (by omega) rfl) ?_
    | refine wG_pure (e_ia_vwi rfl rfl (by omega) rfl) ?_
    | refine wG_pure (e_ia_vwn rfl rfl (by omega) (by omega) rfl) ?_
    | refine wG_n rfl rfl ?_
    | refine wG_u rfl rfl ?_
    | refine wG_new (o_mks rfl rfl (by omega) (by decide)) ?_)
    refine wC_loop Nat (fun i => ⟨[(1, .int .i64 ((y - sumTo (gS r.cs.length (later r) S) i : Nat) : Int)), (2, .pt 0 0 0), (6, .sl 1 1 0 r.cs.length), (7, .sl 2 1 0 (2 ^ r.cs.length)), (8, .sl 3 1 0 (atL r x j).length), (9, .int .i64 (S : Int)), (10, .int .i64 (i : Int))], [(3, some ((atL r x j).map iRow)), (2, some ((cntL r.cs.length (later r)).map iRow)), (1, some ((maskL (later r) r.cs.length).map iRow)), (0, some [rRow a b r])], 4⟩) (fun i => i ≤ r.cs.length ∧ ∀ k, k < i → sumTo (gS r.cs.length (later r) S) (k + 1) ≤ y) (fun i => r.cs.length - i) 0 ⟨Nat.zero_le _, fun k hk => absurd hk (Nat.not_lt_zero _)⟩ ?_ (fun _ _ => Nat.zero_le _) ?_
    · exact ⟨⟨⟨rfl, rfl⟩, ⟨rfl, rfl⟩, ⟨rfl, rfl⟩, ⟨rfl, rfl⟩, ⟨rfl, rfl⟩, ⟨rfl, rfl⟩, ⟨rfl, rfl⟩, trivial⟩, ⟨rfl, (by show 3 < 4; decide), ltrI _ _⟩, ⟨rfl, (by show 2 < 4; decide), ltrI _ _⟩, ⟨rfl, (by show 1 < 4; decide), ltrI _ _⟩, ⟨rfl, (by show 0 < 4; decide), by simp [rRow, AV.ltr]⟩, trivial⟩
    rintro i ⟨hi, hinv⟩
    have hle := inv_le hinv
    repeat (first
    | refine wC_a rfl ?_
    | refine q_s rfl ?_
    | refine q_b rfl ?_
    | refine wG_nil ?_
    | refine wG_g rfl ?_
    | refine wG_pure (o_len_vwm rfl) ?_
    | refine wG_pure (o_not_d rfl) ?_
    | refine wG_p rfl (by first | exact rfl | omega) ?_
    | refine wG_pure (o_str2 rfl rfl rfl) ?_
    | refine wG_pure (e_istr rfl rfl (by omega)) ?_
    | refine wG_pure (e_istr0 rfl rfl (by omega)) ?_
    | refine wG_pure (o_not rfl) ?_
    | refine wG_pure (e_ia_vw0 rfl rfl (by omega) rfl) ?_
    | refine wG_pure (e_ia_vwp rfl rfl (by omega) rfl) ?_
    | refine wG_pure (e_ia_vwm rfl rfl (by omega) (by omega) rfl) ?_
    | refine wG_pure (e_ia_vwi rfl rfl (by omega) rfl) ?_
    | refine wG_pure (e_ia_vwn rfl rfl (by omega) (by omega) rfl) ?_
    | refine wG_n rfl rfl ?_
    | refine wG_u rfl rfl ?_
    | refine wG_new (o_mks rfl rfl (by omega) (by decide)) ?_)
    refine wC_cond_d rfl (fun h5 => ?_) (fun h5 => ?_)
    · have hi2 : i < r.cs.length := by omega
      have cR := con56 true (later r) h10 hS2 hi2
      have hp := p10 hi2 h10
      have hor := or_lt hS hi2
      have g2 := cntL_get (W := later r) hor
      have b1 := cnt_le (W := later r) h10 (S ||| 2 ^ i)
      have hsum : sumTo (gS r.cs.length (later r) S) (i + 1) = sumTo (gS r.cs.length (later r) S) i + gS r.cs.length (later r) S i := rfl
      by_cases hr : rdy r.cs.length (later r) S i
      · rw [decide_eq_true hr] at cR
        have e2 : gS r.cs.length (later r) S i = cnt r.cs.length (later r) (S ||| 2 ^ i) := if_pos hr
        rw [e2] at hsum
        repeat (first | refine wG_call cR (ag_sl rfl rfl (maskL_len _ _).symm iRow_plain (ag_int rfl (ag_int rfl ag_nil))) rfl ?_ | refine wG_pure (o_cvu rfl (by omega)) ?_ | refine wG_pure (o_shl1 rfl rfl (by omega)) ?_ | refine wG_pure (o_or rfl rfl (by omega) (by omega)) ?_ | (refine wG_pure (e_ia_sl rfl rfl (by omega) (by omega)) ?_; simp only [e0]) | refine wG_pure (o_ldf_pt rfl rfl g2 rfl) ?_ | (first
    | refine wC_a rfl ?_
    | refine q_s rfl ?_
    | refine q_b rfl ?_
    | refine wG_nil ?_
    | refine wG_g rfl ?_
    | refine wG_pure (o_len_vwm rfl) ?_
    | refine wG_pure (o_not_d rfl) ?_
    | refine wG_p rfl (by first | exact rfl | omega) ?_
    | refine wG_pure (o_str2 rfl rfl rfl) ?_
    | refine wG_pure (e_istr rfl rfl (by omega)) ?_
    | refine wG_pure (e_istr0 rfl rfl (by omega)) ?_
    | refine wG_pure (o_not rfl) ?_
    | refine wG_pure (e_ia_vw0 rfl rfl (by omega) rfl) ?_
    | refine wG_pure (e_ia_vwp rfl rfl (by omega) rfl) ?_
    | refine wG_pure (e_ia_vwm rfl rfl (by omega) (by omega) rfl) ?_
    | refine wG_pure (e_ia_vwi rfl rfl (by omega) rfl) ?_
    | refine wG_pure (e_ia_vwn rfl rfl (by omega) (by omega) rfl) ?_
    | refine wG_n rfl rfl ?_
    | refine wG_u rfl rfl ?_
    | refine wG_new (o_mks rfl rfl (by omega) (by decide)) ?_))
        refine wC_cond_d rfl (fun h6 => ?_) (fun h6 => ?_)
        · obtain ⟨q1, q2⟩ := hP i (pk_eq hi2 (by omega) hinv)
          repeat (first | refine wG_pure (o_cvu rfl (by omega)) ?_ | refine wG_pure (o_shl1 rfl rfl (by omega)) ?_ | refine wG_pure (o_or rfl rfl (by omega) (by omega)) ?_ | refine wG_app rfl rfl (by simp) (rows_sl rfl rfl rfl) (by simp) (by simp; omega) (by decide) ?_ | (first
    | refine wC_a rfl ?_
    | refine q_s rfl ?_
    | refine q_b rfl ?_
    | refine wG_nil ?_
    | refine wG_g rfl ?_
    | refine wG_pure (o_len_vwm rfl) ?_
    | refine wG_pure (o_not_d rfl) ?_
    | refine wG_p rfl (by first | exact rfl | omega) ?_
    | refine wG_pure (o_str2 rfl rfl rfl) ?_
    | refine wG_pure (e_istr rfl rfl (by omega)) ?_
    | refine wG_pure (e_istr0 rfl rfl (by omega)) ?_
    | refine wG_pure (o_not rfl) ?_
    | refine wG_pure (e_ia_vw0 rfl rfl (by omega) rfl) ?_
    | refine wG_pure (e_ia_vwp rfl rfl (by omega) rfl) ?_
    | refine wG_pure (e_ia_vwm rfl rfl (by omega) (by omega) rfl) ?_
    | refine wG_pure (e_ia_vwi rfl rfl (by omega) rfl) ?_
    | refine wG_pure (e_ia_vwn rfl rfl (by omega) (by omega) rfl) ?_
    | refine wG_n rfl rfl ?_
    | refine wG_u rfl rfl ?_
    | refine wG_new (o_mks rfl rfl (by omega) (by decide)) ?_))
          refine ⟨j + 1, hj2, by omega, [0, 1, 2, 5], ?_⟩
          simp only [q1, q2]
          refine ⟨⟨⟨rfl, rfl⟩, ⟨rfl, rfl⟩, ⟨rfl, rfl⟩, ⟨rfl, rfl⟩, ⟨by simp [lk, rn, πof], rfl⟩, ⟨rfl, rfl⟩, trivial⟩, ⟨⟨⟨_, rfl, ?_⟩, (by show 3 < 4; decide), ltrI _ _⟩, ⟨⟨_, rfl, rn_rows (rowsP _)⟩, (by show 2 < 4; decide), ltrI _ _⟩, ⟨⟨_, rfl, rn_rows (rowsP _)⟩, (by show 1 < 4; decide), ltrI _ _⟩, ⟨⟨_, rfl, rfl⟩, (by show 0 < 4; decide), by simp [rRow, AV.ltr]⟩, trivial⟩, rfl, by decide⟩
          rw [← rn_rows (rowsP _), List.map_append]; rfl
        · repeat (first
    | refine wC_a rfl ?_
    | refine q_s rfl ?_
    | refine q_b rfl ?_
    | refine wG_nil ?_
    | refine wG_g rfl ?_
    | refine wG_pure (o_len_vwm rfl) ?_
    | refine wG_pure (o_not_d rfl) ?_
    | refine wG_p rfl (by first | exact rfl | omega) ?_
    | refine wG_pure (o_str2 rfl rfl rfl) ?_
    | refine wG_pure (e_istr rfl rfl (by omega)) ?_
    | refine wG_pure (e_istr0 rfl rfl (by omega)) ?_
    | refine wG_pure (o_not rfl) ?_
    | refine wG_pure (e_ia_vw0 rfl rfl (by omega) rfl) ?_
    | refine wG_pure (e_ia_vwp rfl rfl (by omega) rfl) ?_
    | refine wG_pure (e_ia_vwm rfl rfl (by omega) (by omega) rfl) ?_
    | refine wG_pure (e_ia_vwi rfl rfl (by omega) rfl) ?_
    | refine wG_pure (e_ia_vwn rfl rfl (by omega) (by omega) rfl) ?_
    | refine wG_n rfl rfl ?_
    | refine wG_u rfl rfl ?_
    | refine wG_new (o_mks rfl rfl (by omega) (by decide)) ?_)
          refine ⟨i + 1, ⟨hi2, lt_up' hinv (by omega)⟩, by omega, ⟨⟨?_, rfl⟩, ⟨rfl, rfl⟩, ⟨rfl, rfl⟩, ⟨rfl, rfl⟩, ⟨rfl, rfl⟩, ⟨rfl, rfl⟩, ⟨rfl, rfl⟩, trivial⟩, ⟨rfl, (by show 3 < 4; decide), ltrI _ _⟩, ⟨rfl, (by show 2 < 4; decide), ltrI _ _⟩, ⟨rfl, (by show 1 < 4; decide), ltrI _ _⟩, ⟨rfl, (by show 0 < 4; decide), by simp [rRow, AV.ltr]⟩, trivial⟩
          show AV.int _ _ = AV.int _ _
          rw [hsum]
          congr 1
          omega
      · rw [decide_eq_false hr] at cR
        have e2 : gS r.cs.length (later r) S i = 0 := if_neg hr
        rw [e2, Nat.add_zero] at hsum
        repeat (first | refine wG_call cR (ag_sl rfl rfl (maskL_len _ _).symm iRow_plain (ag_int rfl (ag_int rfl ag_nil))) rfl ?_ | (first
    | refine wC_a rfl ?_
    | refine q_s rfl ?_
    | refine q_b rfl ?_
    | refine wG_nil ?_
    | refine wG_g rfl ?_
    | refine wG_pure (o_len_vwm rfl) ?_
    | refine wG_pure (o_not_d rfl) ?_
    | refine wG_p rfl (by first | exact rfl | omega) ?_
    | refine wG_pure (o_str2 rfl rfl rfl) ?_
    | refine wG_pure (e_istr rfl rfl (by omega)) ?_
    | refine wG_pure (e_istr0 rfl rfl (by omega)) ?_
    | refine wG_pure (o_not rfl) ?_
    | refine wG_pure (e_ia_vw0 rfl rfl (by omega) rfl) ?_
    | refine wG_pure (e_ia_vwp rfl rfl (by omega) rfl) ?_
    | refine wG_pure (e_ia_vwm rfl rfl (by omega) (by omega) rfl) ?_
    | refine wG_pure (e_ia_vwi rfl rfl (by omega) rfl) ?_
    | refine wG_pure (e_ia_vwn rfl rfl (by omega) (by omega) rfl) ?_
    | refine wG_n rfl rfl ?_
    | refine wG_u rfl rfl ?_
    | refine wG_new (o_mks rfl rfl (by omega) (by decide)) ?_))
        refine ⟨i + 1, ⟨hi2, lt_up' hinv (by omega)⟩, by omega, ⟨⟨?_, rfl⟩, ⟨rfl, rfl⟩, ⟨rfl, rfl⟩, ⟨rfl, rfl⟩, ⟨rfl, rfl⟩, ⟨rfl, rfl⟩, ⟨rfl, rfl⟩, trivial⟩, ⟨rfl, (by show 3 < 4; decide), ltrI _ _⟩, ⟨rfl, (by show 2 < 4; decide), ltrI _ _⟩, ⟨rfl, (by show 1 < 4; decide), ltrI _ _⟩, ⟨rfl, (by show 0 < 4; decide), by simp [rRow, AV.ltr]⟩, trivial⟩
        rw [hsum]; rfl
    · have hi3 : i = r.cs.length := by omega
      subst hi3
      omega
  · have hj3 : j = r.cs.length := by omega
    subst hj3
    repeat (first
    | refine wC_a rfl ?_
    | refine q_s rfl ?_
    | refine q_b rfl ?_
    | refine wG_nil ?_
    | refine wG_g rfl ?_
    | refine wG_pure (o_len_vwm rfl) ?_
    | refine wG_pure (o_not_d rfl) ?_
    | refine wG_p rfl (by first | exact rfl | omega) ?_
    | refine wG_pure (o_str2 rfl rfl rfl) ?_
    | refine wG_pure (e_istr rfl rfl (by omega)) ?_
    | refine wG_pure (e_istr0 rfl rfl (by omega)) ?_
    | refine wG_pure (o_not rfl) ?_
    | refine wG_pure (e_ia_vw0 rfl rfl (by omega) rfl) ?_
    | refine wG_pure (e_ia_vwp rfl rfl (by omega) rfl) ?_
    | refine wG_pure (e_ia_vwm rfl rfl (by omega) (by omega) rfl) ?_
    | refine wG_pure (e_ia_vwi rfl rfl (by omega) rfl) ?_
    | refine wG_pure (e_ia_vwn rfl rfl (by omega) (by omega) rfl) ?_
    | refine wG_n rfl rfl ?_
    | refine wG_u rfl rfl ?_
    | refine wG_new (o_mks rfl rfl (by omega) (by decide)) ?_)
    rw [hlj]
    exact ret_sb (.inr rfl) rfl ⟨_, retV_mv rfl, retV_mv rfl, rfl⟩ rfl
theorem con61_no (a b : Bool) (r : Rc) (x : Int) (hG : GoodR r) (hx : ¬ (0 ≤ x ∧ x ≤ ((cnt r.cs.length (later r) 0 : Nat) : Int) - 1)) : Con Try.prog 61 true [.agg (rRow a b r), .int .i64 x] (.tup [.sl 0 1 0 0, .bool false]) [([] : List Int).map iRow] := by
  refine con_of_wp mixed fun61 (by simp) [3] (plain_map iRow_plain _) ?_
  unfold ac61 ro61
  simp only [zipT]
  have h10 := hG.1
  have c3 := con42 a b r hG
  have c4 := con41 true (later r) h10
  have hp0 : 0 < 2 ^ r.cs.length := Nat.pow_pos (by decide)
  have hcb := cnt_le (W := later r) h10 0
  have c5 := con74 x 0 (((cnt r.cs.length (later r) 0 : Nat) : Int) - 1)
  rw [decide_eq_false hx] at c5
  repeat (first | refine wG_call1 c3 rfl rfl ?_ | refine wG_call1 c4 (ag_sl rfl rfl (maskL_len _ _).symm iRow_plain ag_nil) rfl ?_ | refine wG_call c5 rfl rfl ?_ | refine wG_pure (e_ia_sl (n := 0) rfl rfl (by decide) (by omega)) ?_ | refine wG_pure (o_ldf_pt rfl rfl cnt0_get rfl) ?_ | (first
    | refine wC_a rfl ?_
    | refine q_s rfl ?_
    | refine q_b rfl ?_
    | refine wG_nil ?_
    | refine wG_g rfl ?_
    | refine wG_pure (o_len_vwm rfl) ?_
    | refine wG_pure (o_not_d rfl) ?_
    | refine wG_p rfl (by first | exact rfl | omega) ?_
    | refine wG_pure (o_str2 rfl rfl rfl) ?_
    | refine wG_pure (e_istr rfl rfl (by omega)) ?_
    | refine wG_pure (e_istr0 rfl rfl (by omega)) ?_
    | refine wG_pure (o_not rfl) ?_
    | refine wG_pure (e_ia_vw0 rfl rfl (by omega) rfl) ?_
    | refine wG_pure (e_ia_vwp rfl rfl (by omega) rfl) ?_
    | refine wG_pure (e_ia_vwm rfl rfl (by omega) (by omega) rfl) ?_
    | refine wG_pure (e_ia_vwi rfl rfl (by omega) rfl) ?_
    | refine wG_pure (e_ia_vwn rfl rfl (by omega) (by omega) rfl) ?_
    | refine wG_n rfl rfl ?_
    | refine wG_u rfl rfl ?_
    | refine wG_new (o_mks rfl rfl (by omega) (by decide)) ?_))
  exact ret_sb (.inr rfl) rfl ⟨_, retV_mv rfl, retV_mv rfl, rfl⟩ rfl
end Go.Proofs.Ythicnjgdngfbkaa.Rec
