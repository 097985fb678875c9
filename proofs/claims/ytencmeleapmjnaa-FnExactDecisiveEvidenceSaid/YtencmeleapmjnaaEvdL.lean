/- Tightened intervals: both sides. -/
import Derived.Test.YtencmeleapmjnaaEvdF
import Derived.Test.YtencmeleapmjnaaEvdK
namespace Go.Proofs.Ytencmeleapmjnaa.Rec
open Go Go.Proofs.Ytencmeleapmjnaa.Ab Go.Proofs.Ytencmeleapmjnaa.Il
attribute [local irreducible] wpO wpC wpDr wpQ wpG wpE stepA seqQ blkQ Ret RetG ev
set_option maxRecDepth 10000
set_option maxHeartbeats 8000000
set_option linter.unusedSimpArgs false
set_option linter.unusedVariables false

def ac20 : AC := (.seq (.reg [⟨(some 2), none, (.box 2 true (.t 0))⟩, ⟨(some 4), none, (.mv (.c .nilS))⟩, ⟨(some 5), none, (.mv (.c (.bool false)))⟩]) (.seq (.seq (.reg [⟨(some 8), none, (.ld true 2 (.t 2))⟩, ⟨(some 9), none, (.mv (.t 1))⟩, ⟨(some 10), none, (.call 44 [(.t 8), (.t 9)])⟩, ⟨(some 11), none, (.un .not (.t 10))⟩]) (.cond (.t 11) (.seq (.reg [⟨(some 12), none, (.bsl 2 [(.int .i64 0), (.int .i64 0)] 0 [])⟩, ⟨(some 4), none, (.mv (.t 12))⟩, ⟨(some 5), none, (.mv (.c (.bool false)))⟩]) .ret) .skip)) (.seq (.reg [⟨(some 14), none, (.ld true 2 (.t 2))⟩, ⟨(some 15), none, (.mv (.t 1))⟩, ⟨(some 16), none, (.call 31 [(.t 14), (.t 15)])⟩, ⟨(some 13), none, (.mv (.t 16))⟩, ⟨(some 17), none, (.ext (.t 13) 0)⟩, ⟨(some 18), none, (.ext (.t 13) 1)⟩, ⟨(some 6), none, (.mv (.t 17))⟩, ⟨(some 7), none, (.mv (.t 18))⟩]) (.seq (.seq (.reg [⟨(some 19), none, (.mv (.t 7))⟩, ⟨(some 20), none, (.un .not (.t 19))⟩]) (.cond (.t 20) (.seq (.reg [⟨(some 21), none, (.bsl 2 [(.int .i64 0), (.int .i64 0)] 0 [])⟩, ⟨(some 4), none, (.mv (.t 21))⟩, ⟨(some 5), none, (.mv (.c (.bool false)))⟩]) .ret) .skip)) (.seq (.reg [⟨(some 22), none, (.mv (.t 6))⟩, ⟨(some 4), none, (.mv (.t 22))⟩, ⟨(some 5), none, (.mv (.c (.bool true)))⟩]) .ret)))))
def ro20 : List AOp := [(.mv (.t 4)), (.mv (.t 5))]
theorem fun20 : Fun Try.prog 20 23 ac20 ro20 := ⟨Try.f20, _, Try.func20, by kernel_rfl, rfl, rfl, by kernel_rfl, by kernel_rfl, by decide⟩
def ac21 : AC := (.seq (.reg [⟨(some 2), none, (.box 2 true (.t 0))⟩, ⟨(some 4), none, (.mv (.c .nilS))⟩, ⟨(some 5), none, (.mv (.c (.bool false)))⟩]) (.seq (.reg [⟨(some 12), none, (.ld true 2 (.t 2))⟩, ⟨(some 13), none, (.mv (.t 1))⟩, ⟨(some 14), none, (.call 45 [(.t 12), (.t 13)])⟩, ⟨(some 11), none, (.mv (.t 14))⟩, ⟨(some 15), none, (.ext (.t 11) 0)⟩, ⟨(some 16), none, (.ext (.t 11) 1)⟩, ⟨(some 17), none, (.ext (.t 11) 2)⟩, ⟨(some 6), none, (.mv (.t 15))⟩, ⟨(some 7), none, (.mv (.t 16))⟩, ⟨(some 8), none, (.mv (.t 17))⟩]) (.seq (.seq (.reg [⟨(some 18), none, (.mv (.t 8))⟩, ⟨(some 19), none, (.un .not (.t 18))⟩]) (.cond (.t 19) (.seq (.reg [⟨(some 4), none, (.mv (.c .nilS))⟩, ⟨(some 5), none, (.mv (.c (.bool false)))⟩]) .ret) .skip)) (.seq (.reg [⟨(some 21), none, (.mv (.t 6))⟩, ⟨(some 22), none, (.mv (.t 7))⟩, ⟨(some 23), none, (.call 46 [(.t 21), (.t 22)])⟩, ⟨(some 20), none, (.mv (.t 23))⟩, ⟨(some 24), none, (.ext (.t 20) 0)⟩, ⟨(some 25), none, (.ext (.t 20) 1)⟩, ⟨(some 9), none, (.mv (.t 24))⟩, ⟨(some 10), none, (.mv (.t 25))⟩]) (.seq (.seq (.reg [⟨(some 26), none, (.mv (.t 10))⟩, ⟨(some 27), none, (.un .not (.t 26))⟩]) (.cond (.t 27) (.seq (.reg [⟨(some 4), none, (.mv (.c .nilS))⟩, ⟨(some 5), none, (.mv (.c (.bool false)))⟩]) .ret) .skip)) (.seq (.reg [⟨(some 28), none, (.mv (.t 9))⟩, ⟨(some 4), none, (.mv (.t 28))⟩, ⟨(some 5), none, (.mv (.c (.bool true)))⟩]) .ret))))))
def ro21 : List AOp := [(.mv (.t 4)), (.mv (.t 5))]
theorem fun21 : Fun Try.prog 21 29 ac21 ro21 := ⟨Try.f21, _, Try.func21, by kernel_rfl, rfl, rfl, by kernel_rfl, by kernel_rfl, by decide⟩
def ac31 : AC := (.seq (.reg [⟨(some 2), none, (.box 2 true (.t 0))⟩, ⟨(some 4), none, (.mv (.c .nilS))⟩, ⟨(some 5), none, (.mv (.c (.bool false)))⟩]) (.seq (.reg [⟨(some 13), none, (.ld true 2 (.t 2))⟩, ⟨(some 14), none, (.mv (.t 1))⟩, ⟨(some 15), none, (.call 48 [(.t 13), (.t 14)])⟩, ⟨(some 6), none, (.mv (.t 15))⟩]) (.seq (.reg [⟨(some 16), none, (.ld true 2 (.t 2))⟩, ⟨(some 17), none, (.call 49 [(.t 16)])⟩, ⟨(some 7), none, (.mv (.t 17))⟩]) (.seq (.reg [⟨(some 18), none, (.bsl 2 [(.int .i64 0), (.int .i64 0)] 0 [])⟩, ⟨(some 8), none, (.mv (.t 18))⟩]) (.seq (.reg [⟨(some 9), none, (.mv (.c (.bool true)))⟩]) (.seq (.seq (.reg [⟨(some 10), none, (.mv (.c (.int .i64 0)))⟩]) (.blk 0 (.loop (.seq (.seq (.reg [⟨(some 19), none, (.mv (.t 10))⟩, ⟨(some 20), none, (.mv (.t 6))⟩, ⟨(some 21), none, (.len (.t 20))⟩, ⟨(some 22), none, (.bin .lss (.t 19) (.t 21))⟩]) (.cond (.t 22) .skip (.exit 0))) (.seq (.blk 1 (.seq (.reg [⟨(some 25), none, (.mv (.t 6))⟩, ⟨(some 26), none, (.mv (.t 10))⟩, ⟨(some 27), none, (.ia 2 (.t 25) (.t 26))⟩, ⟨(some 28), none, (.ld true 2 (.t 27))⟩, ⟨(some 11), none, (.alloc [(.int .i64 0), (.int .i64 0)])⟩, ⟨none, none, (.st 2 (.t 11) (.t 28))⟩]) (.seq (.seq (.reg [⟨(some 12), none, (.mv (.c (.int .i64 0)))⟩]) (.blk 2 (.loop (.seq (.seq (.reg [⟨(some 29), none, (.mv (.t 12))⟩, ⟨(some 30), none, (.mv (.t 6))⟩, ⟨(some 31), none, (.len (.t 30))⟩, ⟨(some 32), none, (.bin .lss (.t 29) (.t 31))⟩]) (.cond (.t 32) .skip (.exit 2))) (.seq (.blk 3 (.seq (.seq (.reg [⟨(some 35), none, (.mv (.t 7))⟩, ⟨(some 36), none, (.mv (.t 10))⟩, ⟨(some 37), none, (.ia 1 (.t 35) (.t 36))⟩, ⟨(some 38), none, (.ld false 1 (.t 37))⟩, ⟨(some 39), none, (.mv (.t 12))⟩, ⟨(some 40), none, (.call 50 [(.t 38), (.t 39)])⟩]) (.cond (.t 40) (.dreg [⟨(some 41), none, (.fa 0 (.t 11))⟩, ⟨(some 42), none, (.ld false 1 (.t 41))⟩, ⟨(some 43), none, (.mv (.t 6))⟩, ⟨(some 44), none, (.mv (.t 12))⟩, ⟨(some 45), none, (.ia 2 (.t 43) (.t 44))⟩, ⟨(some 46), none, (.fa 0 (.t 45))⟩, ⟨(some 47), none, (.ld false 1 (.t 46))⟩, ⟨(some 48), none, (.call 51 [(.t 42), (.t 47)])⟩, ⟨(some 49), none, (.fa 0 (.t 11))⟩, ⟨none, none, (.st 1 (.t 49) (.t 48))⟩] [[], [0], [], [], [2, 3], [2, 3, 4], [2, 3, 4, 5], [0, 1, 2, 3, 4, 5, 6], [0, 1, 2, 3, 4, 5, 6, 7], [0, 1, 2, 3, 4, 5, 6, 7, 8]]) .skip)) (.seq (.reg [⟨(some 50), none, (.mv (.t 7))⟩, ⟨(some 51), none, (.mv (.t 12))⟩, ⟨(some 52), none, (.ia 1 (.t 50) (.t 51))⟩, ⟨(some 53), none, (.ld false 1 (.t 52))⟩, ⟨(some 54), none, (.mv (.t 10))⟩, ⟨(some 55), none, (.call 50 [(.t 53), (.t 54)])⟩]) (.cond (.t 55) (.dreg [⟨(some 56), none, (.fa 1 (.t 11))⟩, ⟨(some 57), none, (.ld false 1 (.t 56))⟩, ⟨(some 58), none, (.mv (.t 6))⟩, ⟨(some 59), none, (.mv (.t 12))⟩, ⟨(some 60), none, (.ia 2 (.t 58) (.t 59))⟩, ⟨(some 61), none, (.fa 1 (.t 60))⟩, ⟨(some 62), none, (.ld false 1 (.t 61))⟩, ⟨(some 63), none, (.call 52 [(.t 57), (.t 62)])⟩, ⟨(some 64), none, (.fa 1 (.t 11))⟩, ⟨none, none, (.st 1 (.t 64) (.t 63))⟩] [[], [0], [], [], [2, 3], [2, 3, 4], [2, 3, 4, 5], [0, 1, 2, 3, 4, 5, 6], [0, 1, 2, 3, 4, 5, 6, 7], [0, 1, 2, 3, 4, 5, 6, 7, 8]]) .skip)))) (.reg [⟨(some 33), none, (.mv (.t 12))⟩, ⟨(some 34), none, (.bin .add (.t 33) (.c (.int .i64 1)))⟩, ⟨(some 12), none, (.mv (.t 34))⟩])))))) (.seq (.reg [⟨(some 65), none, (.mv (.t 9))⟩, ⟨(some 66), none, (.mv (.t 65))⟩, ⟨(some 67), (some (66, true)), (.fa 0 (.t 11))⟩, ⟨(some 68), (some (66, true)), (.ld false 1 (.t 67))⟩, ⟨(some 69), (some (66, true)), (.fa 1 (.t 11))⟩, ⟨(some 70), (some (66, true)), (.ld false 1 (.t 69))⟩, ⟨(some 71), (some (66, true)), (.bin .leq (.t 68) (.t 70))⟩, ⟨(some 72), none, (.pick (.t 66) (.t 71) (.c (.bool false)))⟩, ⟨(some 9), none, (.mv (.t 72))⟩]) (.reg [⟨(some 73), none, (.mv (.t 8))⟩, ⟨(some 74), none, (.ld true 2 (.t 11))⟩, ⟨(some 75), none, (.bsl 2 [(.int .i64 0), (.int .i64 0)] 1 [(0, (.t 74))])⟩, ⟨(some 76), none, (.app 2 16 [(.int .i64 0), (.int .i64 0)] (.t 73) (.t 75))⟩, ⟨(some 8), none, (.mv (.t 76))⟩]))))) (.reg [⟨(some 23), none, (.mv (.t 10))⟩, ⟨(some 24), none, (.bin .add (.t 23) (.c (.int .i64 1)))⟩, ⟨(some 10), none, (.mv (.t 24))⟩])))))) (.seq (.reg [⟨(some 77), none, (.mv (.t 8))⟩, ⟨(some 78), none, (.mv (.t 9))⟩, ⟨(some 4), none, (.mv (.t 77))⟩, ⟨(some 5), none, (.mv (.t 78))⟩]) .ret)))))))
def ro31 : List AOp := [(.mv (.t 4)), (.mv (.t 5))]
theorem fun31 : Fun Try.prog 31 79 ac31 ro31 := ⟨Try.f31, _, Try.func31, by kernel_rfl, rfl, rfl, by kernel_rfl, by kernel_rfl, by decide⟩
def ac46 : AC := (.seq (.reg [⟨(some 4), none, (.mv (.c .nilS))⟩, ⟨(some 5), none, (.mv (.c (.bool false)))⟩]) (.seq (.reg [⟨(some 11), none, (.mv (.t 1))⟩, ⟨(some 12), none, (.call 65 [(.t 11)])⟩, ⟨(some 6), none, (.mv (.t 12))⟩]) (.seq (.seq (.reg [⟨(some 13), none, (.mv (.t 0))⟩, ⟨(some 14), none, (.nck (.t 13))⟩, ⟨(some 15), none, (.fa 2 (.t 14))⟩, ⟨(some 16), none, (.ld false 1 (.t 15))⟩, ⟨(some 17), none, (.len (.t 16))⟩, ⟨(some 18), none, (.mv (.c (.int .i64 0)))⟩]) (.blk 0 (.loop (.seq (.reg [⟨(some 19), none, (.bin .lss (.t 18) (.t 17))⟩]) (.seq (.cond (.t 19) .skip (.exit 0)) (.seq (.blk 1 (.seq (.reg [⟨(some 20), none, (.mv (.t 18))⟩, ⟨(some 21), none, (.ia 1 (.t 16) (.t 18))⟩, ⟨(some 22), none, (.ld false 1 (.t 21))⟩, ⟨(some 7), none, (.mv (.t 20))⟩, ⟨(some 8), none, (.mv (.t 22))⟩]) (.seq (.reg [⟨(some 23), none, (.mv (.t 8))⟩, ⟨(some 24), none, (.len (.t 23))⟩, ⟨(some 25), none, (.mv (.c (.int .i64 0)))⟩]) (.blk 2 (.loop (.seq (.reg [⟨(some 26), none, (.bin .lss (.t 25) (.t 24))⟩]) (.seq (.cond (.t 26) .skip (.exit 2)) (.seq (.blk 3 (.seq (.reg [⟨(some 27), none, (.mv (.t 25))⟩, ⟨(some 28), none, (.ia 1 (.t 23) (.t 25))⟩, ⟨(some 29), none, (.ld false 1 (.t 28))⟩, ⟨(some 9), none, (.mv (.t 27))⟩, ⟨(some 10), none, (.mv (.t 29))⟩]) (.seq (.reg [⟨(some 30), none, (.mv (.t 10))⟩]) (.cond (.t 30) (.seq (.dreg [⟨(some 31), none, (.mv (.t 6))⟩, ⟨(some 32), none, (.mv (.t 7))⟩, ⟨(some 33), none, (.mv (.t 6))⟩, ⟨(some 34), none, (.mv (.t 7))⟩, ⟨(some 35), none, (.ia 2 (.t 33) (.t 34))⟩, ⟨(some 36), none, (.fa 0 (.t 35))⟩, ⟨(some 37), none, (.ld false 1 (.t 36))⟩, ⟨(some 38), none, (.mv (.t 1))⟩, ⟨(some 39), none, (.mv (.t 9))⟩, ⟨(some 40), none, (.ia 2 (.t 38) (.t 39))⟩, ⟨(some 41), none, (.fa 0 (.t 40))⟩, ⟨(some 42), none, (.ld false 1 (.t 41))⟩, ⟨(some 43), none, (.mx (.t 37) (.t 42))⟩, ⟨(some 44), none, (.ia 2 (.t 31) (.t 32))⟩, ⟨(some 45), none, (.fa 0 (.t 44))⟩, ⟨none, none, (.st 1 (.t 45) (.t 43))⟩] [[], [], [], [], [2, 3], [2, 3, 4], [2, 3, 4, 5], [], [], [7, 8], [7, 8, 9], [7, 8, 9, 10], [2, 3, 4, 5, 6, 7, 8, 9, 10, 11], [0, 1, 2, 3, 4, 5, 6, 7, 8, 9, 10, 11, 12], [0, 1, 2, 3, 4, 5, 6, 7, 8, 9, 10, 11, 12, 13], [0, 1, 2, 3, 4, 5, 6, 7, 8, 9, 10, 11, 12, 13, 14]]) (.dreg [⟨(some 46), none, (.mv (.t 6))⟩, ⟨(some 47), none, (.mv (.t 9))⟩, ⟨(some 48), none, (.mv (.t 6))⟩, ⟨(some 49), none, (.mv (.t 9))⟩, ⟨(some 50), none, (.ia 2 (.t 48) (.t 49))⟩, ⟨(some 51), none, (.fa 1 (.t 50))⟩, ⟨(some 52), none, (.ld false 1 (.t 51))⟩, ⟨(some 53), none, (.mv (.t 1))⟩, ⟨(some 54), none, (.mv (.t 7))⟩, ⟨(some 55), none, (.ia 2 (.t 53) (.t 54))⟩, ⟨(some 56), none, (.fa 1 (.t 55))⟩, ⟨(some 57), none, (.ld false 1 (.t 56))⟩, ⟨(some 58), none, (.mn (.t 52) (.t 57))⟩, ⟨(some 59), none, (.ia 2 (.t 46) (.t 47))⟩, ⟨(some 60), none, (.fa 1 (.t 59))⟩, ⟨none, none, (.st 1 (.t 60) (.t 58))⟩] [[], [], [], [], [2, 3], [2, 3, 4], [2, 3, 4, 5], [], [], [7, 8], [7, 8, 9], [7, 8, 9, 10], [2, 3, 4, 5, 6, 7, 8, 9, 10, 11], [0, 1, 2, 3, 4, 5, 6, 7, 8, 9, 10, 11, 12], [0, 1, 2, 3, 4, 5, 6, 7, 8, 9, 10, 11, 12, 13], [0, 1, 2, 3, 4, 5, 6, 7, 8, 9, 10, 11, 12, 13, 14]])) .skip)))) (.reg [⟨(some 61), none, (.bin .add (.t 25) (.c (.int .i64 1)))⟩, ⟨(some 25), none, (.mv (.t 61))⟩]))))))))) (.reg [⟨(some 62), none, (.bin .add (.t 18) (.c (.int .i64 1)))⟩, ⟨(some 18), none, (.mv (.t 62))⟩]))))))) (.seq (.reg [⟨(some 63), none, (.mv (.t 6))⟩, ⟨(some 64), none, (.mv (.t 6))⟩, ⟨(some 65), none, (.call 66 [(.t 64), (.c (.fn 67 []))])⟩, ⟨(some 66), none, (.un .not (.t 65))⟩, ⟨(some 4), none, (.mv (.t 63))⟩, ⟨(some 5), none, (.mv (.t 66))⟩]) .ret))))
def ro46 : List AOp := [(.mv (.t 4)), (.mv (.t 5))]
theorem fun46 : Fun Try.prog 46 67 ac46 ro46 := ⟨Try.f46, _, Try.func46, by kernel_rfl, rfl, rfl, by kernel_rfl, by kernel_rfl, by decide⟩
def ac65 : AC := (.seq (.reg [⟨(some 2), none, (.mv (.c .nilS))⟩]) (.seq (.seq (.reg [⟨(some 3), none, (.mv (.t 0))⟩, ⟨(some 4), none, (.nil2 false false (.t 3) (.c .nilS))⟩]) (.cond (.t 4) (.seq (.reg [⟨(some 2), none, (.mv (.c .nilS))⟩]) .ret) .skip)) (.seq (.reg [⟨(some 5), none, (.bsl 2 [(.int .i64 0), (.int .i64 0)] 0 [])⟩, ⟨(some 6), none, (.mv (.t 0))⟩, ⟨(some 7), none, (.app 2 16 [(.int .i64 0), (.int .i64 0)] (.t 5) (.t 6))⟩, ⟨(some 2), none, (.mv (.t 7))⟩]) .ret)))
def ro65 : List AOp := [(.mv (.t 2))]
theorem fun65 : Fun Try.prog 65 8 ac65 ro65 := ⟨Try.f65, _, Try.func65, by kernel_rfl, rfl, rfl, by kernel_rfl, by kernel_rfl, by decide⟩
def ac66 : AC := (.seq (.reg [⟨(some 4), none, (.mv (.c (.bool false)))⟩]) (.seq (.reg [⟨(some 5), none, (.mv (.t 0))⟩, ⟨(some 6), none, (.mv (.t 1))⟩, ⟨(some 7), none, (.call 78 [(.t 5), (.t 6)])⟩, ⟨(some 8), none, (.bin .geq (.t 7) (.c (.int .i64 0)))⟩, ⟨(some 4), none, (.mv (.t 8))⟩]) .ret))
def ro66 : List AOp := [(.mv (.t 4))]
theorem fun66 : Fun Try.prog 66 9 ac66 ro66 := ⟨Try.f66, _, Try.func66, by kernel_rfl, rfl, rfl, by kernel_rfl, by kernel_rfl, by decide⟩
def ac67 : AC := (.seq (.reg [⟨(some 1), none, (.box 2 true (.t 0))⟩, ⟨(some 2), none, (.mv (.c (.bool false)))⟩]) (.seq (.reg [⟨(some 3), none, (.fa 0 (.t 1))⟩, ⟨(some 4), none, (.ld false 1 (.t 3))⟩, ⟨(some 5), none, (.fa 1 (.t 1))⟩, ⟨(some 6), none, (.ld false 1 (.t 5))⟩, ⟨(some 7), none, (.bin .gtr (.t 4) (.t 6))⟩, ⟨(some 2), none, (.mv (.t 7))⟩]) .ret))
def ro67 : List AOp := [(.mv (.t 2))]
theorem fun67 : Fun Try.prog 67 8 ac67 ro67 := ⟨Try.f67, _, Try.func67, by kernel_rfl, rfl, rfl, by kernel_rfl, by kernel_rfl, by decide⟩
def ac78 : AC := (.seq (.reg [⟨(some 4), none, (.mv (.c (.int .i64 0)))⟩]) (.seq (.seq (.reg [⟨(some 6), none, (.mv (.t 0))⟩, ⟨(some 7), none, (.len (.t 6))⟩, ⟨(some 8), none, (.mv (.c (.int .i64 0)))⟩]) (.blk 0 (.loop (.seq (.reg [⟨(some 9), none, (.bin .lss (.t 8) (.t 7))⟩]) (.seq (.cond (.t 9) .skip (.exit 0)) (.seq (.blk 1 (.seq (.reg [⟨(some 10), none, (.mv (.t 8))⟩, ⟨(some 5), none, (.mv (.t 10))⟩]) (.seq (.reg [⟨(some 11), none, (.mv (.t 1))⟩, ⟨(some 12), none, (.mv (.t 0))⟩, ⟨(some 13), none, (.mv (.t 5))⟩, ⟨(some 14), none, (.ia 2 (.t 12) (.t 13))⟩, ⟨(some 15), none, (.ld true 2 (.t 14))⟩, ⟨(some 16), none, (.callv (.t 11) [(.t 15)])⟩]) (.cond (.t 16) (.seq (.reg [⟨(some 17), none, (.mv (.t 5))⟩, ⟨(some 4), none, (.mv (.t 17))⟩]) .ret) .skip)))) (.reg [⟨(some 18), none, (.bin .add (.t 8) (.c (.int .i64 1)))⟩, ⟨(some 8), none, (.mv (.t 18))⟩]))))))) (.seq (.reg [⟨(some 4), none, (.mv (.c (.int .i64 (-1))))⟩]) .ret)))
def ro78 : List AOp := [(.mv (.t 4))]
theorem fun78 : Fun Try.prog 78 19 ac78 ro78 := ⟨Try.f78, _, Try.func78, by kernel_rfl, rfl, rfl, by kernel_rfl, by kernel_rfl, by decide⟩

noncomputable def tF (r : Rc) (es : List Dt) (i : Nat) : Nat → Int
  | 0 => (ownI r es es.length i).f
  | k + 1 => if later r i k = true then max (tF r es i k) (ownI r es es.length k).f else tF r es i k
noncomputable def tT (r : Rc) (es : List Dt) (i : Nat) : Nat → Int
  | 0 => (ownI r es es.length i).t
  | k + 1 => if later r k i = true then min (tT r es i k) (ownI r es es.length k).t else tT r es i k
noncomputable def tg (r : Rc) (es : List Dt) (i : Nat) : Iv := ⟨tF r es i r.cs.length, tT r es i r.cs.length⟩
noncomputable def tgL (r : Rc) (es : List Dt) (i : Nat) : List Iv := (List.range i).map (tg r es)
theorem tgL_len (r : Rc) (es : List Dt) (i : Nat) : (tgL r es i).length = i := by simp [tgL]
theorem tgL_succ (r : Rc) (es : List Dt) (i : Nat) : tgL r es (i + 1) = tgL r es i ++ [tg r es i] := by simp [tgL, List.range_succ]
def tgOK (r : Rc) (es : List Dt) : Prop := ∀ i, i < r.cs.length → (tg r es i).f ≤ (tg r es i).t
theorem lt_upT {P : Nat → Prop} {i : Nat} (h : ∀ j, j < i → P j) (h2 : P i) : ∀ j, j < i + 1 → P j := by
  intro j hj
  rcases Nat.lt_or_ge j i with hji | hji
  · exact h j hji
  · obtain rfl : j = i := by omega
    exact h2
open Classical in
theorem con31 (a b nn : Bool) (r : Rc) (es : List Dt) (hE : GoodE r es) (h3 : es.length ≤ 1048576) : Con Try.prog 31 true [.agg (rRow a b r), .vw nn (es.map tRow)] (.tup [.sl 0 2 0 r.cs.length, .bool (decide (tgOK r es))]) [(tgL r es r.cs.length).map vRow] := by
  refine con_of_wp mixed fun31 (by simp) [2] (plain_map vRow_plain _) ?_
  unfold ac31 ro31
  simp only [zipT]
  have hG := hE.1.1
  have h10 := hG.1
  have e0 : ∀ n : Nat, 0 + ((n : Int)).toNat = n := fun n => by simp
  have cO := con48 a b nn r es h10 h3
  have cL := con49 a b r hG
  repeat (first | refine wG_call1 cO rfl rfl ?_ | refine wG_call1 cL rfl rfl ?_ | (first
    | refine wC_a rfl ?_
    | refine q_s rfl ?_
    | refine q_b rfl ?_
    | refine wG_nil ?_
    | refine wG_g rfl ?_
    | refine wG_pure (o_len_vwm rfl) ?_
    | refine wG_pure (o_not_d rfl) ?_
    | refine wG_p rfl (by first | exact rfl | omega) ?_
    | refine wG_pure (o_str2 rfl rfl rfl) ?_
    | refine wG_pure (e_istr rfl rfl (by omega)) ?_
    | refine wG_pure (e_istr0 rfl rfl (by omega)) ?_
    | refine wG_pure (o_not rfl) ?_
    | refine wG_pure (e_ia_vw0 rfl rfl (by omega) rfl) ?_
    | refine wG_pure (e_ia_vwp rfl rfl (by omega) rfl) ?_
    | refine wG_pure (e_ia_vwm rfl rfl (by omega) (by omega) rfl) ?_
    | refine wG_pure (e_ia_vwi rfl rfl (by omega) rfl) ?_
    | refine wG_pure (e_ia_vwn rfl rfl (by omega) (by omega) rfl) ?_
    | refine wG_n rfl rfl ?_
    | refine wG_u rfl rfl ?_
    | refine wG_new (o_mks rfl rfl (by omega) (by decide)) ?_))
  refine wC_loopR (Nat × Bool) (fun x => ⟨[(6, .sl 0 2 0 r.cs.length), (7, .sl 1 1 0 r.cs.length), (8, .sl 2 2 0 (tgL r es x.1).length), (9, .bool x.2), (10, .int .i64 (x.1 : Int))], [(2, some ((tgL r es x.1).map vRow)), (1, some ((maskL (later r) r.cs.length).map iRow)), (0, some ((ownSL r es r.cs.length).map vRow))], 3⟩) (fun x => x.1 ≤ r.cs.length ∧ (x.2 = true ↔ ∀ j, j < x.1 → (tg r es j).f ≤ (tg r es j).t)) (fun x => r.cs.length - x.1) (0, true) ⟨Nat.zero_le _, fun _ q hq => absurd hq (Nat.not_lt_zero _), fun _ => rfl⟩ ⟨[1, 2, 3], ?_⟩ ?_
  · exact ⟨⟨⟨rfl, rfl⟩, ⟨rfl, rfl⟩, ⟨rfl, rfl⟩, ⟨rfl, rfl⟩, ⟨rfl, rfl⟩, trivial⟩, ⟨⟨⟨_, rfl, rfl⟩, (by show 2 < 3; decide), ltrV _ _⟩, ⟨⟨_, rfl, rn_rows (rowsP _)⟩, (by show 1 < 3; decide), ltrI _ _⟩, ⟨⟨_, rfl, rn_rows (vRows_plain _)⟩, (by show 0 < 3; decide), ltrV _ _⟩, trivial⟩, rfl, by decide⟩
  rintro ⟨i, p⟩ ⟨hi, hp⟩
  simp only at hi hp ⊢
  have hl := tgL_len r es i
  repeat (first
    | refine wC_a rfl ?_
    | refine q_s rfl ?_
    | refine q_b rfl ?_
    | refine wG_nil ?_
    | refine wG_g rfl ?_
    | refine wG_pure (o_len_vwm rfl) ?_
    | refine wG_pure (o_not_d rfl) ?_
    | refine wG_p rfl (by first | exact rfl | omega) ?_
    | refine wG_pure (o_str2 rfl rfl rfl) ?_
    | refine wG_pure (e_istr rfl rfl (by omega)) ?_
    | refine wG_pure (e_istr0 rfl rfl (by omega)) ?_
    | refine wG_pure (o_not rfl) ?_
    | refine wG_pure (e_ia_vw0 rfl rfl (by omega) rfl) ?_
    | refine wG_pure (e_ia_vwp rfl rfl (by omega) rfl) ?_
    | refine wG_pure (e_ia_vwm rfl rfl (by omega) (by omega) rfl) ?_
    | refine wG_pure (e_ia_vwi rfl rfl (by omega) rfl) ?_
    | refine wG_pure (e_ia_vwn rfl rfl (by omega) (by omega) rfl) ?_
    | refine wG_n rfl rfl ?_
    | refine wG_u rfl rfl ?_
    | refine wG_new (o_mks rfl rfl (by omega) (by decide)) ?_)
  refine wC_cond_d rfl (fun h5 => ?_) (fun h5 => ?_)
  · have hi2 : i < r.cs.length := by omega
    have hgi := ownSL_get hE hi2
    have hgm := maskL_get (W := later r) hi2
    have hmi := mk10 (later r i) h10
    have u0 : (ownI r es es.length i) = ⟨tF r es i 0, tT r es i 0⟩ := rfl
    repeat (first | (refine wG_pure (e_ia_sl rfl rfl (by omega) (by omega)) ?_; simp only [e0]) | refine wG_pure (o_ldt_pt rfl rfl hgi rfl rfl) ?_ | (first
    | refine wC_a rfl ?_
    | refine q_s rfl ?_
    | refine q_b rfl ?_
    | refine wG_nil ?_
    | refine wG_g rfl ?_
    | refine wG_pure (o_len_vwm rfl) ?_
    | refine wG_pure (o_not_d rfl) ?_
    | refine wG_p rfl (by first | exact rfl | omega) ?_
    | refine wG_pure (o_str2 rfl rfl rfl) ?_
    | refine wG_pure (e_istr rfl rfl (by omega)) ?_
    | refine wG_pure (e_istr0 rfl rfl (by omega)) ?_
    | refine wG_pure (o_not rfl) ?_
    | refine wG_pure (e_ia_vw0 rfl rfl (by omega) rfl) ?_
    | refine wG_pure (e_ia_vwp rfl rfl (by omega) rfl) ?_
    | refine wG_pure (e_ia_vwm rfl rfl (by omega) (by omega) rfl) ?_
    | refine wG_pure (e_ia_vwi rfl rfl (by omega) rfl) ?_
    | refine wG_pure (e_ia_vwn rfl rfl (by omega) (by omega) rfl) ?_
    | refine wG_n rfl rfl ?_
    | refine wG_u rfl rfl ?_
    | refine wG_new (o_mks rfl rfl (by omega) (by decide)) ?_))
    refine wC_loop Nat (fun k => ⟨[(6, .sl 0 2 0 r.cs.length), (7, .sl 1 1 0 r.cs.length), (8, .sl 2 2 0 (tgL r es i).length), (9, .bool p), (10, .int .i64 (i : Int)), (11, .pt 3 0 0), (12, .int .i64 (k : Int))], [(3, some [vRow ⟨tF r es i k, tT r es i k⟩]), (2, some ((tgL r es i).map vRow)), (1, some ((maskL (later r) r.cs.length).map iRow)), (0, some ((ownSL r es r.cs.length).map vRow))], 4⟩) (fun k => k ≤ r.cs.length) (fun k => r.cs.length - k) 0 (Nat.zero_le _) ?_ (fun _ _ => Nat.zero_le _) ?_
    · exact ⟨⟨⟨rfl, rfl⟩, ⟨rfl, rfl⟩, ⟨rfl, rfl⟩, ⟨rfl, rfl⟩, ⟨rfl, rfl⟩, ⟨rfl, rfl⟩, ⟨rfl, rfl⟩, trivial⟩, ⟨rfl, (by show 3 < 4; decide), ltrV [_] _⟩, ⟨rfl, (by show 2 < 4; decide), ltrV _ _⟩, ⟨rfl, (by show 1 < 4; decide), ltrI _ _⟩, ⟨rfl, (by show 0 < 4; decide), ltrV _ _⟩, trivial⟩
    intro k hk
    repeat (first
    | refine wC_a rfl ?_
    | refine q_s rfl ?_
    | refine q_b rfl ?_
    | refine wG_nil ?_
    | refine wG_g rfl ?_
    | refine wG_pure (o_len_vwm rfl) ?_
    | refine wG_pure (o_not_d rfl) ?_
    | refine wG_p rfl (by first | exact rfl | omega) ?_
    | refine wG_pure (o_str2 rfl rfl rfl) ?_
    | refine wG_pure (e_istr rfl rfl (by omega)) ?_
    | refine wG_pure (e_istr0 rfl rfl (by omega)) ?_
    | refine wG_pure (o_not rfl) ?_
    | refine wG_pure (e_ia_vw0 rfl rfl (by omega) rfl) ?_
    | refine wG_pure (e_ia_vwp rfl rfl (by omega) rfl) ?_
    | refine wG_pure (e_ia_vwm rfl rfl (by omega) (by omega) rfl) ?_
    | refine wG_pure (e_ia_vwi rfl rfl (by omega) rfl) ?_
    | refine wG_pure (e_ia_vwn rfl rfl (by omega) (by omega) rfl) ?_
    | refine wG_n rfl rfl ?_
    | refine wG_u rfl rfl ?_
    | refine wG_new (o_mks rfl rfl (by omega) (by decide)) ?_)
    refine wC_cond_d rfl (fun h6 => ?_) (fun h6 => ?_)
    · have hk2 : k < r.cs.length := by omega
      have hgk := ownSL_get hE hk2
      have hgm2 := maskL_get (W := later r) hk2
      have hmk := mk10 (later r k) h10
      have cb := con50 (mkM (later r i) r.cs.length) k hmi (by omega)
      have cb2 := con50 (mkM (later r k) r.cs.length) i hmk (by omega)
      have hbit : (mkM (later r i) r.cs.length).testBit k = later r i k := by rw [mkM_bit]; simp [hk2]
      have hbit2 : (mkM (later r k) r.cs.length).testBit i = later r k i := by rw [mkM_bit]; simp [hi2]
      rw [hbit] at cb
      rw [hbit2] at cb2
      have cM := con51 (tF r es i k) (ownI r es es.length k).f
      have cN := con52 (tT r es i k) (ownI r es es.length k).t
      have uF : tF r es i (k + 1) = if later r i k = true then max (tF r es i k) (ownI r es es.length k).f else tF r es i k := rfl
      have uT : tT r es i (k + 1) = if later r k i = true then min (tT r es i k) (ownI r es es.length k).t else tT r es i k := rfl
      cases hb : later r i k <;> cases hb2 : later r k i
      all_goals (rw [hb] at cb uF; rw [hb2] at cb2 uT; simp only [Bool.false_eq_true, if_true, if_false] at uF uT)
      all_goals (repeat (first | (refine wG_pure (e_ia_sl rfl rfl (by omega) (by omega)) ?_; simp only [e0]) | (refine wE_v (e_ia_sl rfl rfl (by omega) (by omega)) rfl ?_; simp only [e0]) | refine wG_pure (o_ldf_pt rfl rfl hgm rfl) ?_ | refine wG_pure (o_ldf_pt rfl rfl hgm2 rfl) ?_ | refine wE_v (o_ldf_pt rfl rfl hgk rfl) rfl ?_ | refine wG_call cb rfl rfl ?_ | refine wG_call cb2 rfl rfl ?_ | refine wE_call cM rfl rfl rfl ?_ | refine wE_call cN rfl rfl rfl ?_ | (first
    | refine wC_a rfl ?_
    | refine q_s rfl ?_
    | refine q_b rfl ?_
    | refine wG_nil ?_
    | refine wG_g rfl ?_
    | refine wG_pure (o_len_vwm rfl) ?_
    | refine wG_pure (o_not_d rfl) ?_
    | refine wG_p rfl (by first | exact rfl | omega) ?_
    | refine wG_pure (o_str2 rfl rfl rfl) ?_
    | refine wG_pure (e_istr rfl rfl (by omega)) ?_
    | refine wG_pure (e_istr0 rfl rfl (by omega)) ?_
    | refine wG_pure (o_not rfl) ?_
    | refine wG_pure (e_ia_vw0 rfl rfl (by omega) rfl) ?_
    | refine wG_pure (e_ia_vwp rfl rfl (by omega) rfl) ?_
    | refine wG_pure (e_ia_vwm rfl rfl (by omega) (by omega) rfl) ?_
    | refine wG_pure (e_ia_vwi rfl rfl (by omega) rfl) ?_
    | refine wG_pure (e_ia_vwn rfl rfl (by omega) (by omega) rfl) ?_
    | refine wG_n rfl rfl ?_
    | refine wG_u rfl rfl ?_
    | refine wG_new (o_mks rfl rfl (by omega) (by decide)) ?_) | (first
    | refine wE_nil (by kernel_rfl) ?_
    | refine wE_gy rfl ?_
    | refine wE_gn rfl rfl rfl ?_
    | refine wE_gu rfl rfl ?_
    | refine wE_gnn rfl rfl rfl ?_
    | refine wE_v (o_len_vwm rfl) rfl ?_
    | refine wE_v (o_not_d rfl) rfl ?_
    | refine wE_p rfl (by first | exact rfl | omega) rfl ?_
    | refine wE_v (o_str2 rfl rfl rfl) rfl ?_
    | refine wE_v (e_istr rfl rfl (by omega)) rfl ?_
    | refine wE_v (e_istr0 rfl rfl (by omega)) rfl ?_
    | refine wE_v (o_not rfl) rfl ?_
    | refine wE_v (e_ia_vw0 rfl rfl (by omega) rfl) rfl ?_
    | refine wE_v (e_ia_vwp rfl rfl (by omega) rfl) rfl ?_
    | refine wE_v (e_ia_vwm rfl rfl (by omega) (by omega) rfl) rfl ?_
    | refine wE_v (e_ia_vwi rfl rfl (by omega) rfl) rfl ?_
    | refine wE_v (e_ia_vwn rfl rfl (by omega) (by omega) rfl) rfl ?_
    | refine wE_n rfl rfl rfl ?_
    | refine wE_u rfl rfl rfl ?_
    | refine wE_new (o_mks rfl rfl (by omega) (by decide)) rfl ?_)))
      all_goals (
        refine ⟨k + 1, by omega, by omega, ⟨⟨rfl, rfl⟩, ⟨rfl, rfl⟩, ⟨rfl, rfl⟩, ⟨rfl, rfl⟩, ⟨rfl, rfl⟩, ⟨rfl, rfl⟩, ⟨rfl, rfl⟩, trivial⟩, ⟨?_, (by show 3 < 4; decide), ltrV [_] _⟩, ⟨rfl, (by show 2 < 4; decide), ltrV _ _⟩, ⟨rfl, (by show 1 < 4; decide), ltrI _ _⟩, ⟨rfl, (by show 0 < 4; decide), ltrV _ _⟩, trivial⟩
        rw [uF, uT]; rfl)
    · have hk3 : k = r.cs.length := by omega
      subst hk3
      have ut : (⟨tF r es i r.cs.length, tT r es i r.cs.length⟩ : Iv) = tg r es i := rfl
      have hsucc := tgL_succ r es i
      cases p
      all_goals (repeat (first | refine wG_app rfl rfl (by simp) (rows_sl rfl rfl rfl) (by simp) (by simp; omega) (by decide) ?_ | (first
    | refine wC_a rfl ?_
    | refine q_s rfl ?_
    | refine q_b rfl ?_
    | refine wG_nil ?_
    | refine wG_g rfl ?_
    | refine wG_pure (o_len_vwm rfl) ?_
    | refine wG_pure (o_not_d rfl) ?_
    | refine wG_p rfl (by first | exact rfl | omega) ?_
    | refine wG_pure (o_str2 rfl rfl rfl) ?_
    | refine wG_pure (e_istr rfl rfl (by omega)) ?_
    | refine wG_pure (e_istr0 rfl rfl (by omega)) ?_
    | refine wG_pure (o_not rfl) ?_
    | refine wG_pure (e_ia_vw0 rfl rfl (by omega) rfl) ?_
    | refine wG_pure (e_ia_vwp rfl rfl (by omega) rfl) ?_
    | refine wG_pure (e_ia_vwm rfl rfl (by omega) (by omega) rfl) ?_
    | refine wG_pure (e_ia_vwi rfl rfl (by omega) rfl) ?_
    | refine wG_pure (e_ia_vwn rfl rfl (by omega) (by omega) rfl) ?_
    | refine wG_n rfl rfl ?_
    | refine wG_u rfl rfl ?_
    | refine wG_new (o_mks rfl rfl (by omega) (by decide)) ?_)))
      · refine ⟨(i + 1, false), ⟨by omega, fun h => by (cases h), fun h => absurd (hp.2 fun j hj => h j (by omega)) (by decide)⟩, by simp only; omega, [0, 1, 5], ?_⟩
        simp only [tgL_succ]
        refine ⟨⟨⟨rfl, rfl⟩, ⟨rfl, rfl⟩, ⟨by simp [lk, rn, πof], rfl⟩, ⟨rfl, rfl⟩, ⟨rfl, rfl⟩, trivial⟩, ⟨⟨⟨_, rfl, ?_⟩, (by show 2 < 3; decide), ltrV _ _⟩, ⟨⟨_, rfl, rn_rows (rowsP _)⟩, (by show 1 < 3; decide), ltrI _ _⟩, ⟨⟨_, rfl, rn_rows (vRows_plain _)⟩, (by show 0 < 3; decide), ltrV _ _⟩, trivial⟩, rfl, by decide⟩
        rw [← rn_rows (vRows_plain _), List.map_append]; rfl
      · refine ⟨(i + 1, decide ((tg r es i).f ≤ (tg r es i).t)), ⟨by omega, fun h => lt_upT (hp.1 rfl) (of_decide_eq_true h), fun h => decide_eq_true (h i (by omega))⟩, by simp only; omega, [0, 1, 5], ?_⟩
        simp only [tgL_succ]
        refine ⟨⟨⟨rfl, rfl⟩, ⟨rfl, rfl⟩, ⟨by simp [lk, rn, πof], rfl⟩, ⟨rfl, rfl⟩, ⟨rfl, rfl⟩, trivial⟩, ⟨⟨⟨_, rfl, ?_⟩, (by show 2 < 3; decide), ltrV _ _⟩, ⟨⟨_, rfl, rn_rows (rowsP _)⟩, (by show 1 < 3; decide), ltrI _ _⟩, ⟨⟨_, rfl, rn_rows (vRows_plain _)⟩, (by show 0 < 3; decide), ltrV _ _⟩, trivial⟩, rfl, by decide⟩
        rw [← rn_rows (vRows_plain _), List.map_append]; rfl
  · have hi3 : i = r.cs.length := by omega
    subst hi3
    have hpd : p = decide (tgOK r es) := by
      cases p with
      | true => exact (decide_eq_true (p := tgOK r es) (hp.1 rfl)).symm
      | false => exact (decide_eq_false (p := tgOK r es) fun h => absurd (hp.2 h) (by decide)).symm
    subst hpd
    repeat (first
    | refine wC_a rfl ?_
    | refine q_s rfl ?_
    | refine q_b rfl ?_
    | refine wG_nil ?_
    | refine wG_g rfl ?_
    | refine wG_pure (o_len_vwm rfl) ?_
    | refine wG_pure (o_not_d rfl) ?_
    | refine wG_p rfl (by first | exact rfl | omega) ?_
    | refine wG_pure (o_str2 rfl rfl rfl) ?_
    | refine wG_pure (e_istr rfl rfl (by omega)) ?_
    | refine wG_pure (e_istr0 rfl rfl (by omega)) ?_
    | refine wG_pure (o_not rfl) ?_
    | refine wG_pure (e_ia_vw0 rfl rfl (by omega) rfl) ?_
    | refine wG_pure (e_ia_vwp rfl rfl (by omega) rfl) ?_
    | refine wG_pure (e_ia_vwm rfl rfl (by omega) (by omega) rfl) ?_
    | refine wG_pure (e_ia_vwi rfl rfl (by omega) rfl) ?_
    | refine wG_pure (e_ia_vwn rfl rfl (by omega) (by omega) rfl) ?_
    | refine wG_n rfl rfl ?_
    | refine wG_u rfl rfl ?_
    | refine wG_new (o_mks rfl rfl (by omega) (by decide)) ?_)
    rw [hl]
    exact ret_sb (.inr rfl) rfl ⟨_, retV_mv rfl, retV_mv rfl, rfl⟩ rfl
def prOK (r : Rc) (es : List Dt) : Prop := GoodE r es ∧ tgOK r es
theorem con20_yes (a b nn : Bool) (r : Rc) (es : List Dt) (h1 : r.cs.length ≤ 1048576) (h2 : r.xs.length ≤ 1048576) (h3 : es.length ≤ 1048576) (h : prOK r es) : Con Try.prog 20 true [.agg (rRow a b r), .vw nn (es.map tRow)] (.tup [.sl 0 2 0 r.cs.length, .bool true]) [(tgL r es r.cs.length).map vRow] := by
  classical
  refine con_of_wp mixed fun20 (by simp) [1] (plain_map vRow_plain _) ?_
  unfold ac20 ro20
  simp only [zipT]
  have c1 := con44 a b nn r es h1 h2 h3
  rw [decide_eq_true h.1] at c1
  have c2 := con31 a b nn r es h.1 h3
  rw [decide_eq_true h.2] at c2
  repeat (first | refine wG_call c1 rfl rfl ?_ | refine wG_call1 c2 rfl rfl ?_ | (first
    | refine wC_a rfl ?_
    | refine q_s rfl ?_
    | refine q_b rfl ?_
    | refine wG_nil ?_
    | refine wG_g rfl ?_
    | refine wG_pure (o_len_vwm rfl) ?_
    | refine wG_pure (o_not_d rfl) ?_
    | refine wG_p rfl (by first | exact rfl | omega) ?_
    | refine wG_pure (o_str2 rfl rfl rfl) ?_
    | refine wG_pure (e_istr rfl rfl (by omega)) ?_
    | refine wG_pure (e_istr0 rfl rfl (by omega)) ?_
    | refine wG_pure (o_not rfl) ?_
    | refine wG_pure (e_ia_vw0 rfl rfl (by omega) rfl) ?_
    | refine wG_pure (e_ia_vwp rfl rfl (by omega) rfl) ?_
    | refine wG_pure (e_ia_vwm rfl rfl (by omega) (by omega) rfl) ?_
    | refine wG_pure (e_ia_vwi rfl rfl (by omega) rfl) ?_
    | refine wG_pure (e_ia_vwn rfl rfl (by omega) (by omega) rfl) ?_
    | refine wG_n rfl rfl ?_
    | refine wG_u rfl rfl ?_
    | refine wG_new (o_mks rfl rfl (by omega) (by decide)) ?_))
  exact ret_sb (.inr rfl) rfl ⟨_, retV_mv rfl, retV_mv rfl, rfl⟩ rfl
theorem con20_no (a b nn : Bool) (r : Rc) (es : List Dt) (h1 : r.cs.length ≤ 1048576) (h2 : r.xs.length ≤ 1048576) (h3 : es.length ≤ 1048576) (h : ¬ prOK r es) : Con Try.prog 20 true [.agg (rRow a b r), .vw nn (es.map tRow)] (.tup [.sl 0 2 0 0, .bool false]) [([] : List Iv).map vRow] := by
  classical
  have c1 := con44 a b nn r es h1 h2 h3
  by_cases hE : GoodE r es
  · refine con_of_wp mixed fun20 (by simp) [2] (plain_map vRow_plain _) ?_
    unfold ac20 ro20
    simp only [zipT]
    rw [decide_eq_true hE] at c1
    have c2 := con31 a b nn r es hE h3
    rw [decide_eq_false (fun q => h ⟨hE, q⟩)] at c2
    repeat (first | refine wG_call c1 rfl rfl ?_ | refine wG_call1 c2 rfl rfl ?_ | (first
    | refine wC_a rfl ?_
    | refine q_s rfl ?_
    | refine q_b rfl ?_
    | refine wG_nil ?_
    | refine wG_g rfl ?_
    | refine wG_pure (o_len_vwm rfl) ?_
    | refine wG_pure (o_not_d rfl) ?_
    | refine wG_p rfl (by first | exact rfl | omega) ?_
    | refine wG_pure (o_str2 rfl rfl rfl) ?_
    | refine wG_pure (e_istr rfl rfl (by omega)) ?_
    | refine wG_pure (e_istr0 rfl rfl (by omega)) ?_
    | refine wG_pure (o_not rfl) ?_
    | refine wG_pure (e_ia_vw0 rfl rfl (by omega) rfl) ?_
    | refine wG_pure (e_ia_vwp rfl rfl (by omega) rfl) ?_
    | refine wG_pure (e_ia_vwm rfl rfl (by omega) (by omega) rfl) ?_
    | refine wG_pure (e_ia_vwi rfl rfl (by omega) rfl) ?_
    | refine wG_pure (e_ia_vwn rfl rfl (by omega) (by omega) rfl) ?_
    | refine wG_n rfl rfl ?_
    | refine wG_u rfl rfl ?_
    | refine wG_new (o_mks rfl rfl (by omega) (by decide)) ?_))
    exact ret_sb (.inr rfl) rfl ⟨_, retV_mv rfl, retV_mv rfl, rfl⟩ rfl
  · refine con_of_wp mixed fun20 (by simp) [1] (plain_map vRow_plain _) ?_
    unfold ac20 ro20
    simp only [zipT]
    rw [decide_eq_false hE] at c1
    repeat (first | refine wG_call c1 rfl rfl ?_ | (first
    | refine wC_a rfl ?_
    | refine q_s rfl ?_
    | refine q_b rfl ?_
    | refine wG_nil ?_
    | refine wG_g rfl ?_
    | refine wG_pure (o_len_vwm rfl) ?_
    | refine wG_pure (o_not_d rfl) ?_
    | refine wG_p rfl (by first | exact rfl | omega) ?_
    | refine wG_pure (o_str2 rfl rfl rfl) ?_
    | refine wG_pure (e_istr rfl rfl (by omega)) ?_
    | refine wG_pure (e_istr0 rfl rfl (by omega)) ?_
    | refine wG_pure (o_not rfl) ?_
    | refine wG_pure (e_ia_vw0 rfl rfl (by omega) rfl) ?_
    | refine wG_pure (e_ia_vwp rfl rfl (by omega) rfl) ?_
    | refine wG_pure (e_ia_vwm rfl rfl (by omega) (by omega) rfl) ?_
    | refine wG_pure (e_ia_vwi rfl rfl (by omega) rfl) ?_
    | refine wG_pure (e_ia_vwn rfl rfl (by omega) (by omega) rfl) ?_
    | refine wG_n rfl rfl ?_
    | refine wG_u rfl rfl ?_
    | refine wG_new (o_mks rfl rfl (by omega) (by decide)) ?_))
    exact ret_sb (.inr rfl) rfl ⟨_, retV_mv rfl, retV_mv rfl, rfl⟩ rfl

/-! ### The implementation's side -/
theorem okV (ws : List Iv) : okRows 2 (ws.map vRow) = true := okRows_map (f := vRow) (fun _ => rfl) ws
theorem con65 (ws : List Iv) (hlen : ws.length ≤ 1048576) : Con Try.prog 65 true [.vw true (ws.map vRow)] (.sl 0 2 0 ws.length) [ws.map vRow] := by
  cases ws with
  | nil =>
    refine con_of_wp mixed fun65 (by simp) [0] (plain_map vRow_plain []) ?_
    unfold ac65 ro65
    simp only [zipT]
    repeat (first | refine wG_pure (o_isnil_vw rfl rfl) ?_ | refine wG_new (o_bsl rfl) ?_ | refine wG_app0 rfl rfl rfl (rows_vw rfl (okV [])) ?_ | (first
    | refine wC_a rfl ?_
    | refine q_s rfl ?_
    | refine q_b rfl ?_
    | refine wG_nil ?_
    | refine wG_g rfl ?_
    | refine wG_pure (o_len_vwm rfl) ?_
    | refine wG_pure (o_not_d rfl) ?_
    | refine wG_p rfl (by first | exact rfl | omega) ?_
    | refine wG_pure (o_str2 rfl rfl rfl) ?_
    | refine wG_pure (e_istr rfl rfl (by omega)) ?_
    | refine wG_pure (e_istr0 rfl rfl (by omega)) ?_
    | refine wG_pure (o_not rfl) ?_
    | refine wG_pure (e_ia_vw0 rfl rfl (by omega) rfl) ?_
    | refine wG_pure (e_ia_vwp rfl rfl (by omega) rfl) ?_
    | refine wG_pure (e_ia_vwm rfl rfl (by omega) (by omega) rfl) ?_
    | refine wG_pure (e_ia_vwi rfl rfl (by omega) rfl) ?_
    | refine wG_pure (e_ia_vwn rfl rfl (by omega) (by omega) rfl) ?_
    | refine wG_n rfl rfl ?_
    | refine wG_u rfl rfl ?_
    | refine wG_new (o_mks rfl rfl (by omega) (by decide)) ?_))
    exact ret_sl (.inr rfl) (retV_mv rfl) rfl
  | cons w ws =>
    refine con_of_wp mixed fun65 (by simp) [1] (plain_map vRow_plain (w :: ws)) ?_
    unfold ac65 ro65
    simp only [zipT]
    have hle : 0 + ((w :: ws).map vRow).length ≤ 4294967296 := by simp at hlen ⊢; omega
    repeat (first | refine wG_pure (o_isnil_vw rfl rfl) ?_ | refine wG_new (o_bsl rfl) ?_ | refine wG_app rfl rfl rfl (rows_vw rfl (okV (w :: ws))) (by simp) hle (by decide) ?_ | (first
    | refine wC_a rfl ?_
    | refine q_s rfl ?_
    | refine q_b rfl ?_
    | refine wG_nil ?_
    | refine wG_g rfl ?_
    | refine wG_pure (o_len_vwm rfl) ?_
    | refine wG_pure (o_not_d rfl) ?_
    | refine wG_p rfl (by first | exact rfl | omega) ?_
    | refine wG_pure (o_str2 rfl rfl rfl) ?_
    | refine wG_pure (e_istr rfl rfl (by omega)) ?_
    | refine wG_pure (e_istr0 rfl rfl (by omega)) ?_
    | refine wG_pure (o_not rfl) ?_
    | refine wG_pure (e_ia_vw0 rfl rfl (by omega) rfl) ?_
    | refine wG_pure (e_ia_vwp rfl rfl (by omega) rfl) ?_
    | refine wG_pure (e_ia_vwm rfl rfl (by omega) (by omega) rfl) ?_
    | refine wG_pure (e_ia_vwi rfl rfl (by omega) rfl) ?_
    | refine wG_pure (e_ia_vwn rfl rfl (by omega) (by omega) rfl) ?_
    | refine wG_n rfl rfl ?_
    | refine wG_u rfl rfl ?_
    | refine wG_new (o_mks rfl rfl (by omega) (by decide)) ?_))
    have e : 0 + ((w :: ws).map vRow).length = (w :: ws).length := by simp
    rw [e]
    exact ret_sl (.inr rfl) (retV_mv rfl) rfl
theorem con67 (x : Iv) : Con Try.prog 67 true [.agg (vRow x)] (.bool (decide (x.f > x.t))) [] := by
  refine con_of_wp mixed fun67 (by simp) [] plain_nil ?_
  unfold ac67 ro67
  simp only [zipT]
  repeat (first
    | refine wC_a rfl ?_
    | refine q_s rfl ?_
    | refine q_b rfl ?_
    | refine wG_nil ?_
    | refine wG_g rfl ?_
    | refine wG_pure (o_len_vwm rfl) ?_
    | refine wG_pure (o_not_d rfl) ?_
    | refine wG_p rfl (by first | exact rfl | omega) ?_
    | refine wG_pure (o_str2 rfl rfl rfl) ?_
    | refine wG_pure (e_istr rfl rfl (by omega)) ?_
    | refine wG_pure (e_istr0 rfl rfl (by omega)) ?_
    | refine wG_pure (o_not rfl) ?_
    | refine wG_pure (e_ia_vw0 rfl rfl (by omega) rfl) ?_
    | refine wG_pure (e_ia_vwp rfl rfl (by omega) rfl) ?_
    | refine wG_pure (e_ia_vwm rfl rfl (by omega) (by omega) rfl) ?_
    | refine wG_pure (e_ia_vwi rfl rfl (by omega) rfl) ?_
    | refine wG_pure (e_ia_vwn rfl rfl (by omega) (by omega) rfl) ?_
    | refine wG_n rfl rfl ?_
    | refine wG_u rfl rfl ?_
    | refine wG_new (o_mks rfl rfl (by omega) (by decide)) ?_)
  exact ret_boolE (.inr rfl) ⟨_, retV_mv rfl, rfl⟩
noncomputable def ixV (xs : List Iv) : Int := ixN (fun j => (xs.getD j default).f > (xs.getD j default).t) xs.length
theorem con78 (nn : Bool) (xs : List Iv) (h1 : xs.length ≤ 1048576) :
    Con Try.prog 78 true [.vw nn (xs.map vRow), .fn 67 []] (.int .i64 (ixV xs)) [] := by
  refine con_of_wp mixed fun78 (by simp) [] plain_nil ?_
  unfold ac78 ro78
  simp only [zipT]
  repeat (first
    | refine wC_a rfl ?_
    | refine q_s rfl ?_
    | refine q_b rfl ?_
    | refine wG_nil ?_
    | refine wG_g rfl ?_
    | refine wG_pure (o_len_vwm rfl) ?_
    | refine wG_pure (o_not_d rfl) ?_
    | refine wG_p rfl (by first | exact rfl | omega) ?_
    | refine wG_pure (o_str2 rfl rfl rfl) ?_
    | refine wG_pure (e_istr rfl rfl (by omega)) ?_
    | refine wG_pure (e_istr0 rfl rfl (by omega)) ?_
    | refine wG_pure (o_not rfl) ?_
    | refine wG_pure (e_ia_vw0 rfl rfl (by omega) rfl) ?_
    | refine wG_pure (e_ia_vwp rfl rfl (by omega) rfl) ?_
    | refine wG_pure (e_ia_vwm rfl rfl (by omega) (by omega) rfl) ?_
    | refine wG_pure (e_ia_vwi rfl rfl (by omega) rfl) ?_
    | refine wG_pure (e_ia_vwn rfl rfl (by omega) (by omega) rfl) ?_
    | refine wG_n rfl rfl ?_
    | refine wG_u rfl rfl ?_
    | refine wG_new (o_mks rfl rfl (by omega) (by decide)) ?_)
  refine wC_loop Nat (fun i => ⟨[(0, .vw nn (xs.map vRow)), (1, .fn 67 []), (7, .int .i64 (xs.length : Int)), (8, .int .i64 (i : Int))], [], 0⟩) (fun i => i ≤ xs.length ∧ ∀ j, j < i → ¬ (xs.getD j default).f > (xs.getD j default).t) (fun i => xs.length - i) 0 ⟨Nat.zero_le _, fun j hj => absurd hj (Nat.not_lt_zero _)⟩ ?_ (fun _ _ => Nat.le_refl _) ?_
  · simp [LeP, leT, leH, lk, AV.ltr, ltrL, Ab.hg, upd, -List.getD_eq_getElem?_getD, -Int.default_eq_zero]
  rintro i ⟨hi, hok⟩
  by_cases hi2 : i < xs.length
  · repeat' (first | refine wG_callv rfl (con67 (xs.getD i default)) rfl rfl ?_ | (first
    | refine wC_a rfl ?_
    | refine q_s rfl ?_
    | refine q_b rfl ?_
    | refine wG_nil ?_
    | refine wG_g rfl ?_
    | refine wG_pure (o_len_vwm rfl) ?_
    | refine wG_pure (o_not_d rfl) ?_
    | refine wG_p rfl (by first | exact rfl | omega) ?_
    | refine wG_pure (o_str2 rfl rfl rfl) ?_
    | refine wG_pure (e_istr rfl rfl (by omega)) ?_
    | refine wG_pure (e_istr0 rfl rfl (by omega)) ?_
    | refine wG_pure (o_not rfl) ?_
    | refine wG_pure (e_ia_vw0 rfl rfl (by omega) rfl) ?_
    | refine wG_pure (e_ia_vwp rfl rfl (by omega) rfl) ?_
    | refine wG_pure (e_ia_vwm rfl rfl (by omega) (by omega) rfl) ?_
    | refine wG_pure (e_ia_vwi rfl rfl (by omega) rfl) ?_
    | refine wG_pure (e_ia_vwn rfl rfl (by omega) (by omega) rfl) ?_
    | refine wG_n rfl rfl ?_
    | refine wG_u rfl rfl ?_
    | refine wG_new (o_mks rfl rfl (by omega) (by decide)) ?_) | (refine wG_gd rfl (fun hgt => ?_) (fun hgf => ?_) <;> (first | simp only [eq_true hgt, decide_true] | simp only [eq_false hgf, decide_false])) | refine wC_cond_d rfl (fun hg => ?_) (fun hg => ?_))
    all_goals (try (exfalso; omega))
    · refine ret_intE (.inr rfl) ⟨_, retV_mv rfl, ?_⟩
      exact (ixN_at hi2 (by assumption) hok).symm
    · refine ⟨i + 1, ⟨by omega, fun j hj => ?_⟩, by omega, by simp [LeP, leT, leH, lk, AV.ltr, ltrL, Ab.hg, upd, -List.getD_eq_getElem?_getD, -Int.default_eq_zero]⟩
      rcases Nat.lt_or_ge j i with hji | hji
      · exact hok j hji
      · obtain rfl : j = i := by omega
        assumption
  · have hi3 : i = xs.length := by omega
    subst hi3
    repeat' (first | (first
    | refine wC_a rfl ?_
    | refine q_s rfl ?_
    | refine q_b rfl ?_
    | refine wG_nil ?_
    | refine wG_g rfl ?_
    | refine wG_pure (o_len_vwm rfl) ?_
    | refine wG_pure (o_not_d rfl) ?_
    | refine wG_p rfl (by first | exact rfl | omega) ?_
    | refine wG_pure (o_str2 rfl rfl rfl) ?_
    | refine wG_pure (e_istr rfl rfl (by omega)) ?_
    | refine wG_pure (e_istr0 rfl rfl (by omega)) ?_
    | refine wG_pure (o_not rfl) ?_
    | refine wG_pure (e_ia_vw0 rfl rfl (by omega) rfl) ?_
    | refine wG_pure (e_ia_vwp rfl rfl (by omega) rfl) ?_
    | refine wG_pure (e_ia_vwm rfl rfl (by omega) (by omega) rfl) ?_
    | refine wG_pure (e_ia_vwi rfl rfl (by omega) rfl) ?_
    | refine wG_pure (e_ia_vwn rfl rfl (by omega) (by omega) rfl) ?_
    | refine wG_n rfl rfl ?_
    | refine wG_u rfl rfl ?_
    | refine wG_new (o_mks rfl rfl (by omega) (by decide)) ?_) | (refine wG_gd rfl (fun hgt => ?_) (fun hgf => ?_) <;> (first | simp only [eq_true hgt, decide_true] | simp only [eq_false hgf, decide_false])) | refine wC_cond_d rfl (fun hg => ?_) (fun hg => ?_))
    all_goals (try (exfalso; omega))
    exact ret_intE (.inr rfl) ⟨_, retV_mv rfl, (ixN_no hok).symm⟩
theorem ixV_iff (r : Rc) (es : List Dt) : ixV (tgL r es r.cs.length) ≥ 0 ↔ ¬ tgOK r es := by
  have hl := tgL_len r es r.cs.length
  have hg : ∀ i, i < r.cs.length → (tgL r es r.cs.length).getD i default = tg r es i := fun i hi => by simp [tgL, List.getD_eq_getElem?_getD, hi]
  constructor
  · intro h hk
    obtain ⟨h1, h2⟩ := ixN_in (n := (tgL r es r.cs.length).length) h
    have h1' : (ixV (tgL r es r.cs.length)).toNat < r.cs.length := Nat.lt_of_lt_of_eq h1 hl
    have h3 := hk _ h1'
    change ((tgL r es r.cs.length).getD (ixV (tgL r es r.cs.length)).toNat default).f > ((tgL r es r.cs.length).getD (ixV (tgL r es r.cs.length)).toNat default).t at h2
    rw [hg _ h1'] at h2
    omega
  · intro h
    refine Classical.byContradiction fun hn => h fun i hi => ?_
    refine Classical.byContradiction fun hc => hn ?_
    rcases ixN_p (fun j => ((tgL r es r.cs.length).getD j default).f > ((tgL r es r.cs.length).getD j default).t) (tgL r es r.cs.length).length with ⟨_, g2⟩ | ⟨m, g1, _⟩
    · have : ¬ ((tgL r es r.cs.length).getD i default).f > ((tgL r es r.cs.length).getD i default).t := g2 i (by omega)
      rw [hg i hi] at this
      omega
    · show ixN _ _ ≥ 0
      omega
open Classical in
theorem con66 (nn : Bool) (r : Rc) (es : List Dt) (h1 : r.cs.length ≤ 1048576) :
    Con Try.prog 66 true [.vw nn ((tgL r es r.cs.length).map vRow), .fn 67 []] (.bool (decide (¬ tgOK r es))) [] := by
  refine con_of_wp mixed fun66 (by simp) [] plain_nil ?_
  unfold ac66 ro66
  simp only [zipT]
  have c := con78 nn (tgL r es r.cs.length) (by rw [tgL_len]; exact h1)
  repeat' (first | refine wG_call c (ag_vw rfl (ag_fn rfl (fun _ _ => rfl) ag_nil)) rfl ?_ | (first
    | refine wC_a rfl ?_
    | refine q_s rfl ?_
    | refine q_b rfl ?_
    | refine wG_nil ?_
    | refine wG_g rfl ?_
    | refine wG_pure (o_len_vwm rfl) ?_
    | refine wG_pure (o_not_d rfl) ?_
    | refine wG_p rfl (by first | exact rfl | omega) ?_
    | refine wG_pure (o_str2 rfl rfl rfl) ?_
    | refine wG_pure (e_istr rfl rfl (by omega)) ?_
    | refine wG_pure (e_istr0 rfl rfl (by omega)) ?_
    | refine wG_pure (o_not rfl) ?_
    | refine wG_pure (e_ia_vw0 rfl rfl (by omega) rfl) ?_
    | refine wG_pure (e_ia_vwp rfl rfl (by omega) rfl) ?_
    | refine wG_pure (e_ia_vwm rfl rfl (by omega) (by omega) rfl) ?_
    | refine wG_pure (e_ia_vwi rfl rfl (by omega) rfl) ?_
    | refine wG_pure (e_ia_vwn rfl rfl (by omega) (by omega) rfl) ?_
    | refine wG_n rfl rfl ?_
    | refine wG_u rfl rfl ?_
    | refine wG_new (o_mks rfl rfl (by omega) (by decide)) ?_))
  exact ret_boolE (.inr rfl) ⟨_, retV_mv rfl, decide_eq_decide.2 (ixV_iff r es)⟩
/-- What stands in the implementation's list after a number of steps. -/
noncomputable def pr (r : Rc) (es : List Dt) (i k j : Nat) : Iv := ⟨if j < i then tF r es j r.cs.length else if j = i then tF r es j k else tF r es j 0, tT r es j (if j < k then i + 1 else i)⟩
noncomputable def prL (r : Rc) (es : List Dt) (i k : Nat) : List Iv := (List.range r.cs.length).map (pr r es i k)
theorem prL_len (r : Rc) (es : List Dt) (i k : Nat) : (prL r es i k).length = r.cs.length := by simp [prL]
theorem prL_get {r : Rc} {es : List Dt} {i k j : Nat} (hj : j < r.cs.length) : ((prL r es i k).map vRow)[j]? = some (vRow (pr r es i k j)) := by
  rw [prL, List.map_map, get_range hj]; rfl
theorem prL_0 (r : Rc) (es : List Dt) : prL r es 0 0 = ownL r es es.length r.cs.length := by
  refine List.map_congr_left fun j hj => ?_
  simp only [pr, Nat.not_lt_zero, if_false]
  have : (if j = 0 then tF r es j 0 else tF r es j 0) = tF r es j 0 := by split <;> rfl
  rw [this]; rfl
theorem prL_n (r : Rc) (es : List Dt) (i : Nat) : prL r es i r.cs.length = prL r es (i + 1) 0 := by
  refine List.map_congr_left fun j hj => ?_
  have hj2 := List.mem_range.1 hj
  simp only [pr, hj2, if_true, Nat.not_lt_zero, if_false]
  congr 1
  by_cases h1 : j < i
  · rw [if_pos h1, if_pos (by omega)]
  · rw [if_neg h1]
    by_cases h2 : j = i
    · rw [if_pos h2, if_pos (by omega)]
    · rw [if_neg h2, if_neg (by omega)]; split <;> rfl
theorem prL_end (r : Rc) (es : List Dt) : prL r es r.cs.length 0 = tgL r es r.cs.length := by
  refine List.map_congr_left fun j hj => ?_
  have hj2 := List.mem_range.1 hj
  simp only [pr, hj2, if_true, Nat.not_lt_zero, if_false]
  rfl
theorem prL_no {r : Rc} {es : List Dt} {i k : Nat} (hb : later r i k = false) : prL r es i (k + 1) = prL r es i k := by
  refine List.map_congr_left fun j hj => ?_
  simp only [pr]
  have e1 : tF r es i (k + 1) = tF r es i k := by show (if later r i k = true then _ else _) = _; rw [hb]; rfl
  have e2 : tT r es k (i + 1) = tT r es k i := by show (if later r i k = true then _ else _) = _; rw [hb]; rfl
  congr 1
  · by_cases h2 : j = i
    · subst h2; rw [e1]
    · rw [if_neg h2, if_neg h2]
  · by_cases h3 : j = k
    · subst h3; rw [if_pos (by omega), if_neg (by omega), e2]
    · by_cases h4 : j < k
      · rw [if_pos h4, if_pos (by omega)]
      · rw [if_neg h4, if_neg (by omega)]
theorem prL_yes {r : Rc} {es : List Dt} {i k : Nat} (hb : later r i k = true) (hne : i ≠ k) : (((prL r es i k).map vRow).set i (vRow ⟨max (pr r es i k i).f (ownI r es es.length k).f, (pr r es i k i).t⟩)).set k (vRow ⟨(pr r es i k k).f, min (pr r es i k k).t (ownI r es es.length i).t⟩) = (prL r es i (k + 1)).map vRow := by
  rw [← List.map_set, ← List.map_set]
  congr 1
  refine List.ext_getElem (by simp [prL]) fun j h1 h2 => ?_
  have hj : j < r.cs.length := by simpa [prL] using h2
  have e1 : tF r es i (k + 1) = max (tF r es i k) (ownI r es es.length k).f := if_pos hb
  have e2 : tT r es k (i + 1) = min (tT r es k i) (ownI r es es.length i).t := if_pos hb
  rw [List.getElem_set, List.getElem_set]
  simp only [prL, List.getElem_map, List.getElem_range]
  by_cases hk : k = j
  · subst hk
    rw [if_pos rfl]
    simp only [pr]
    rw [if_neg (Nat.lt_irrefl k), if_pos (Nat.lt_succ_self k), e2, if_neg (Ne.symm hne)]
    simp only [if_neg (Ne.symm hne)]
  · rw [if_neg hk]
    by_cases hi : i = j
    · subst hi
      rw [if_pos rfl]
      simp only [pr, if_true, Nat.lt_irrefl, if_false]
      rw [e1]
      congr 2
      by_cases h4 : i < k
      · rw [if_pos h4, if_pos (by omega)]
      · rw [if_neg h4, if_neg (by omega)]
    · rw [if_neg hi]
      simp only [pr]
      rw [if_neg (show ¬ j = i by omega), if_neg (show ¬ j = i by omega)]
      congr 2
      by_cases h4 : j < k
      · rw [if_pos h4, if_pos (by omega)]
      · rw [if_neg h4, if_neg (by omega)]
theorem ownL_getv {r : Rc} {es : List Dt} {i : Nat} (h : i < r.cs.length) : ((ownL r es es.length r.cs.length).map vRow)[i]? = some (vRow (ownI r es es.length i)) := ownL_get h
open Classical in
theorem sh46 (a b : Bool) (r : Rc) (es : List Dt) (hE : GoodE r es) {m : Nat} (hm : (oO r).length = m) :
    Sh Try.prog 46 [.pt 1 0 0, .sl (1 + m) 2 0 r.cs.length] (eT a b r es) (m + 2) (.tup [.sl (m + 2) 2 0 r.cs.length, .bool (decide (tgOK r es))]) ((m + 2, some ((tgL r es r.cs.length).map vRow)) :: eT a b r es) (m + 3) := by
  refine sh_of_wp mixed fun46 (by simp) ?_
  unfold ac46 ro46
  simp only [zipT]
  have hG := hE.1.1
  have h10 := hG.1
  have e0 : ∀ n : Nat, 0 + ((n : Int)).toNat = n := fun n => by simp
  obtain ⟨x, hst, hx⟩ := oO_st2 r
  have hwf := eT_wf a b r es
  have hown := eT_own (a := a) (b := b) (r := r) (es := es)
  have hm0 : 0 < m := by rw [← hm]; exact ordO_pos _ _ _ _
  rw [hm] at hwf hown
  have l1 : hg (eT a b r es) 1 = some [[sh 1 x, .sl 3 1 0 r.cs.length, .sl 2 1 0 r.cs.length]] := eT_in (i := 0) hst
  have cC := con65 (ownL r es es.length r.cs.length) (by rw [ownL_len]; omega)
  rw [ownL_len] at cC
  have hlO := ownL_len r es es.length r.cs.length
  have cF := con66 true r es (by omega)
  have hwS : ∀ ws : List Iv, wfH ((m + 2, some (ws.map vRow)) :: eT a b r es) (m + 3) := fun ws => wfH_cons (by omega) (ltrV _ _) (wfH_le hwf (by omega))
  have n1 : (1 : Nat) ≠ m + 2 := by omega
  have n2 : (2 : Nat) ≠ m + 2 := by omega
  have n3 : 1 + m ≠ m + 2 := by omega
  repeat (first | refine wG_call1 (v' := .sl (m + 2) 2 0 r.cs.length) cC (ag_sl rfl hown hlO.symm vRow_plain ag_nil) rfl ?_ | refine wG_pure (o_ldf_pt rfl (hg_skip n1 l1) rfl rfl) ?_ | (first
    | refine wC_a rfl ?_
    | refine q_s rfl ?_
    | refine q_b rfl ?_
    | refine wG_nil ?_
    | refine wG_g rfl ?_
    | refine wG_pure (o_len_vwm rfl) ?_
    | refine wG_pure (o_not_d rfl) ?_
    | refine wG_p rfl (by first | exact rfl | omega) ?_
    | refine wG_pure (o_str2 rfl rfl rfl) ?_
    | refine wG_pure (e_istr rfl rfl (by omega)) ?_
    | refine wG_pure (e_istr0 rfl rfl (by omega)) ?_
    | refine wG_pure (o_not rfl) ?_
    | refine wG_pure (e_ia_vw0 rfl rfl (by omega) rfl) ?_
    | refine wG_pure (e_ia_vwp rfl rfl (by omega) rfl) ?_
    | refine wG_pure (e_ia_vwm rfl rfl (by omega) (by omega) rfl) ?_
    | refine wG_pure (e_ia_vwi rfl rfl (by omega) rfl) ?_
    | refine wG_pure (e_ia_vwn rfl rfl (by omega) (by omega) rfl) ?_
    | refine wG_n rfl rfl ?_
    | refine wG_u rfl rfl ?_
    | refine wG_new (o_mks rfl rfl (by omega) (by decide)) ?_))
  refine wC_loopS Nat (fun i => ⟨[(0, .pt 1 0 0), (1, .sl (1 + m) 2 0 r.cs.length), (6, .sl (m + 2) 2 0 r.cs.length), (16, .sl 2 1 0 r.cs.length), (17, .int .i64 (r.cs.length : Int)), (18, .int .i64 (i : Int))], (m + 2, some ((prL r es i 0).map vRow)) :: eT a b r es, m + 3⟩) (fun i => i ≤ r.cs.length) (fun i => r.cs.length - i) 0 (Nat.zero_le _) ?_ (fun _ _ => by simp only; omega) ?_
  · rw [prL_0]
    exact Le_of ⟨⟨rfl, by simp only [AV.ltr, decide_eq_true_eq]; omega⟩, ⟨rfl, by simp only [AV.ltr, decide_eq_true_eq]; omega⟩, ⟨rfl, by simp only [AV.ltr, decide_eq_true_eq]; omega⟩, ⟨rfl, by simp only [AV.ltr, decide_eq_true_eq]; omega⟩, ⟨rfl, rfl⟩, ⟨rfl, rfl⟩, trivial⟩ (fun q rows hq => hq) (hwS _)
  intro i hi
  repeat (first
    | refine wC_a rfl ?_
    | refine q_s rfl ?_
    | refine q_b rfl ?_
    | refine wG_nil ?_
    | refine wG_g rfl ?_
    | refine wG_pure (o_len_vwm rfl) ?_
    | refine wG_pure (o_not_d rfl) ?_
    | refine wG_p rfl (by first | exact rfl | omega) ?_
    | refine wG_pure (o_str2 rfl rfl rfl) ?_
    | refine wG_pure (e_istr rfl rfl (by omega)) ?_
    | refine wG_pure (e_istr0 rfl rfl (by omega)) ?_
    | refine wG_pure (o_not rfl) ?_
    | refine wG_pure (e_ia_vw0 rfl rfl (by omega) rfl) ?_
    | refine wG_pure (e_ia_vwp rfl rfl (by omega) rfl) ?_
    | refine wG_pure (e_ia_vwm rfl rfl (by omega) (by omega) rfl) ?_
    | refine wG_pure (e_ia_vwi rfl rfl (by omega) rfl) ?_
    | refine wG_pure (e_ia_vwn rfl rfl (by omega) (by omega) rfl) ?_
    | refine wG_n rfl rfl ?_
    | refine wG_u rfl rfl ?_
    | refine wG_new (o_mks rfl rfl (by omega) (by decide)) ?_)
  refine wC_cond_d rfl (fun h4 => ?_) (fun h4 => ?_)
  · have hi2 : i < r.cs.length := by omega
    have hm5 : r.cs.length + 4 ≤ m := by
      have := (List.getElem?_eq_some_iff.1 (oO_4 (r := r) (i := r.cs.length - 1) (by omega))).1
      omega
    have ltab := eT_tab (a := a) (b := b) (r := r) (es := es) (by omega)
    repeat (first | (refine wG_pure (e_ia_sl rfl rfl (by omega) (by omega)) ?_; simp only [e0]) | refine wG_pure (o_ldf_pt rfl (hg_skip n2 ltab) (outB_get hi2) rfl) ?_ | (first
    | refine wC_a rfl ?_
    | refine q_s rfl ?_
    | refine q_b rfl ?_
    | refine wG_nil ?_
    | refine wG_g rfl ?_
    | refine wG_pure (o_len_vwm rfl) ?_
    | refine wG_pure (o_not_d rfl) ?_
    | refine wG_p rfl (by first | exact rfl | omega) ?_
    | refine wG_pure (o_str2 rfl rfl rfl) ?_
    | refine wG_pure (e_istr rfl rfl (by omega)) ?_
    | refine wG_pure (e_istr0 rfl rfl (by omega)) ?_
    | refine wG_pure (o_not rfl) ?_
    | refine wG_pure (e_ia_vw0 rfl rfl (by omega) rfl) ?_
    | refine wG_pure (e_ia_vwp rfl rfl (by omega) rfl) ?_
    | refine wG_pure (e_ia_vwm rfl rfl (by omega) (by omega) rfl) ?_
    | refine wG_pure (e_ia_vwi rfl rfl (by omega) rfl) ?_
    | refine wG_pure (e_ia_vwn rfl rfl (by omega) (by omega) rfl) ?_
    | refine wG_n rfl rfl ?_
    | refine wG_u rfl rfl ?_
    | refine wG_new (o_mks rfl rfl (by omega) (by decide)) ?_))
    refine wC_loopS Nat (fun k => ⟨[(0, .pt 1 0 0), (1, .sl (1 + m) 2 0 r.cs.length), (6, .sl (m + 2) 2 0 r.cs.length), (16, .sl 2 1 0 r.cs.length), (17, .int .i64 (r.cs.length : Int)), (18, .int .i64 (i : Int)), (7, .int .i64 (i : Int)), (23, .sl (i + 5) 1 0 r.cs.length), (24, .int .i64 (r.cs.length : Int)), (25, .int .i64 (k : Int))], (m + 2, some ((prL r es i k).map vRow)) :: eT a b r es, m + 3⟩) (fun k => k ≤ r.cs.length) (fun k => r.cs.length - k) 0 (Nat.zero_le _) ?_ (fun _ _ => by simp only; omega) ?_
    · exact Le_of ⟨⟨rfl, by simp only [AV.ltr, decide_eq_true_eq]; omega⟩, ⟨rfl, by simp only [AV.ltr, decide_eq_true_eq]; omega⟩, ⟨rfl, by simp only [AV.ltr, decide_eq_true_eq]; omega⟩, ⟨rfl, by simp only [AV.ltr, decide_eq_true_eq]; omega⟩, ⟨rfl, rfl⟩, ⟨rfl, rfl⟩, ⟨rfl, rfl⟩, ⟨rfl, by simp only [AV.ltr, decide_eq_true_eq]; omega⟩, ⟨rfl, rfl⟩, ⟨rfl, rfl⟩, trivial⟩ (fun q rows hq => hq) (hwS _)
    intro k hk
    repeat (first
    | refine wC_a rfl ?_
    | refine q_s rfl ?_
    | refine q_b rfl ?_
    | refine wG_nil ?_
    | refine wG_g rfl ?_
    | refine wG_pure (o_len_vwm rfl) ?_
    | refine wG_pure (o_not_d rfl) ?_
    | refine wG_p rfl (by first | exact rfl | omega) ?_
    | refine wG_pure (o_str2 rfl rfl rfl) ?_
    | refine wG_pure (e_istr rfl rfl (by omega)) ?_
    | refine wG_pure (e_istr0 rfl rfl (by omega)) ?_
    | refine wG_pure (o_not rfl) ?_
    | refine wG_pure (e_ia_vw0 rfl rfl (by omega) rfl) ?_
    | refine wG_pure (e_ia_vwp rfl rfl (by omega) rfl) ?_
    | refine wG_pure (e_ia_vwm rfl rfl (by omega) (by omega) rfl) ?_
    | refine wG_pure (e_ia_vwi rfl rfl (by omega) rfl) ?_
    | refine wG_pure (e_ia_vwn rfl rfl (by omega) (by omega) rfl) ?_
    | refine wG_n rfl rfl ?_
    | refine wG_u rfl rfl ?_
    | refine wG_new (o_mks rfl rfl (by omega) (by decide)) ?_)
    refine wC_cond_d rfl (fun h5 => ?_) (fun h5 => ?_)
    · have hk2 : k < r.cs.length := by omega
      have llat := eT_later (a := a) (b := b) (es := es) hi2
      have hrl := boolR_get (f := later r i) hk2
      have hgi := ownL_getv (r := r) (es := es) hi2
      have hgk := ownL_getv (r := r) (es := es) hk2
      have n5 : i + 5 ≠ m + 2 := by omega
      cases hb : later r i k with
      | true =>
        rw [hb] at hrl
        have hne : i ≠ k := fun e => by
          subst e
          have := hE.1.2 i hi2
          rw [this] at hb; cases hb
        have hpi := prL_get (r := r) (es := es) (i := i) (k := k) hi2
        have hpk := prL_get (r := r) (es := es) (i := i) (k := k) hk2
        have hpk2 : ∀ row, (((prL r es i k).map vRow).set i row)[k]? = some (vRow (pr r es i k k)) := fun row => by rw [List.getElem?_set_ne hne, hpk]
        repeat (first | (refine wG_pure (e_ia_sl rfl rfl (by omega) (by omega)) ?_; simp only [e0]) | (refine wE_v (e_ia_sl rfl rfl (by omega) (by omega)) rfl ?_; simp only [e0]) | refine wG_pure (o_ldf_pt rfl (hg_skip n5 llat) hrl rfl) ?_ | refine wE_v (o_ldf_pt rfl hg_here hpi rfl) rfl ?_ | refine wE_v (o_ldf_pt rfl (hg_skip n3 hown) hgk rfl) rfl ?_ | refine wE_upd (o_st1 rfl hg_here hpi rfl rfl rfl) rfl ?_ | refine wE_v (o_ldf_pt rfl hg_here (hpk2 _) rfl) rfl ?_ | refine wE_v (o_ldf_pt rfl (hg_skip n3 (hg_skip n3 hown)) hgi rfl) rfl ?_ | refine wE_upd (o_st1 rfl hg_here (hpk2 _) rfl rfl rfl) rfl ?_ | (first
    | refine wC_a rfl ?_
    | refine q_s rfl ?_
    | refine q_b rfl ?_
    | refine wG_nil ?_
    | refine wG_g rfl ?_
    | refine wG_pure (o_len_vwm rfl) ?_
    | refine wG_pure (o_not_d rfl) ?_
    | refine wG_p rfl (by first | exact rfl | omega) ?_
    | refine wG_pure (o_str2 rfl rfl rfl) ?_
    | refine wG_pure (e_istr rfl rfl (by omega)) ?_
    | refine wG_pure (e_istr0 rfl rfl (by omega)) ?_
    | refine wG_pure (o_not rfl) ?_
    | refine wG_pure (e_ia_vw0 rfl rfl (by omega) rfl) ?_
    | refine wG_pure (e_ia_vwp rfl rfl (by omega) rfl) ?_
    | refine wG_pure (e_ia_vwm rfl rfl (by omega) (by omega) rfl) ?_
    | refine wG_pure (e_ia_vwi rfl rfl (by omega) rfl) ?_
    | refine wG_pure (e_ia_vwn rfl rfl (by omega) (by omega) rfl) ?_
    | refine wG_n rfl rfl ?_
    | refine wG_u rfl rfl ?_
    | refine wG_new (o_mks rfl rfl (by omega) (by decide)) ?_) | (first
    | refine wE_nil (by kernel_rfl) ?_
    | refine wE_gy rfl ?_
    | refine wE_gn rfl rfl rfl ?_
    | refine wE_gu rfl rfl ?_
    | refine wE_gnn rfl rfl rfl ?_
    | refine wE_v (o_len_vwm rfl) rfl ?_
    | refine wE_v (o_not_d rfl) rfl ?_
    | refine wE_p rfl (by first | exact rfl | omega) rfl ?_
    | refine wE_v (o_str2 rfl rfl rfl) rfl ?_
    | refine wE_v (e_istr rfl rfl (by omega)) rfl ?_
    | refine wE_v (e_istr0 rfl rfl (by omega)) rfl ?_
    | refine wE_v (o_not rfl) rfl ?_
    | refine wE_v (e_ia_vw0 rfl rfl (by omega) rfl) rfl ?_
    | refine wE_v (e_ia_vwp rfl rfl (by omega) rfl) rfl ?_
    | refine wE_v (e_ia_vwm rfl rfl (by omega) (by omega) rfl) rfl ?_
    | refine wE_v (e_ia_vwi rfl rfl (by omega) rfl) rfl ?_
    | refine wE_v (e_ia_vwn rfl rfl (by omega) (by omega) rfl) rfl ?_
    | refine wE_n rfl rfl rfl ?_
    | refine wE_u rfl rfl rfl ?_
    | refine wE_new (o_mks rfl rfl (by omega) (by decide)) rfl ?_))
        refine ⟨k + 1, by omega, by omega, Le_of ⟨⟨rfl, by simp only [AV.ltr, decide_eq_true_eq]; omega⟩, ⟨rfl, by simp only [AV.ltr, decide_eq_true_eq]; omega⟩, ⟨rfl, by simp only [AV.ltr, decide_eq_true_eq]; omega⟩, ⟨rfl, by simp only [AV.ltr, decide_eq_true_eq]; omega⟩, ⟨rfl, rfl⟩, ⟨rfl, rfl⟩, ⟨rfl, rfl⟩, ⟨rfl, by simp only [AV.ltr, decide_eq_true_eq]; omega⟩, ⟨rfl, rfl⟩, ⟨rfl, rfl⟩, trivial⟩ (fun q rows hq => ?_) (hwS _)⟩
        simp only at hq ⊢
        by_cases hq2 : q = m + 2
        · subst hq2
          rw [hg_here] at hq ⊢
          rw [← hq, ← prL_yes hb hne]
          rfl
        · have h6 : Ab.hg (eT a b r es) q = some rows := by simpa [Ab.hg, upd, hq2] using hq
          exact hg_skip hq2 (hg_skip hq2 (hg_skip hq2 h6))
      | false =>
        rw [hb] at hrl
        repeat (first | (refine wG_pure (e_ia_sl rfl rfl (by omega) (by omega)) ?_; simp only [e0]) | refine wG_pure (o_ldf_pt rfl (hg_skip n5 llat) hrl rfl) ?_ | (first
    | refine wC_a rfl ?_
    | refine q_s rfl ?_
    | refine q_b rfl ?_
    | refine wG_nil ?_
    | refine wG_g rfl ?_
    | refine wG_pure (o_len_vwm rfl) ?_
    | refine wG_pure (o_not_d rfl) ?_
    | refine wG_p rfl (by first | exact rfl | omega) ?_
    | refine wG_pure (o_str2 rfl rfl rfl) ?_
    | refine wG_pure (e_istr rfl rfl (by omega)) ?_
    | refine wG_pure (e_istr0 rfl rfl (by omega)) ?_
    | refine wG_pure (o_not rfl) ?_
    | refine wG_pure (e_ia_vw0 rfl rfl (by omega) rfl) ?_
    | refine wG_pure (e_ia_vwp rfl rfl (by omega) rfl) ?_
    | refine wG_pure (e_ia_vwm rfl rfl (by omega) (by omega) rfl) ?_
    | refine wG_pure (e_ia_vwi rfl rfl (by omega) rfl) ?_
    | refine wG_pure (e_ia_vwn rfl rfl (by omega) (by omega) rfl) ?_
    | refine wG_n rfl rfl ?_
    | refine wG_u rfl rfl ?_
    | refine wG_new (o_mks rfl rfl (by omega) (by decide)) ?_))
        refine ⟨k + 1, by omega, by omega, ?_⟩
        rw [prL_no hb]
        exact Le_of ⟨⟨rfl, by simp only [AV.ltr, decide_eq_true_eq]; omega⟩, ⟨rfl, by simp only [AV.ltr, decide_eq_true_eq]; omega⟩, ⟨rfl, by simp only [AV.ltr, decide_eq_true_eq]; omega⟩, ⟨rfl, by simp only [AV.ltr, decide_eq_true_eq]; omega⟩, ⟨rfl, rfl⟩, ⟨rfl, rfl⟩, ⟨rfl, rfl⟩, ⟨rfl, by simp only [AV.ltr, decide_eq_true_eq]; omega⟩, ⟨rfl, rfl⟩, ⟨rfl, rfl⟩, trivial⟩ (fun q rows hq => hq) (hwS _)
    · have hk3 : k = r.cs.length := by omega
      subst hk3
      repeat (first
    | refine wC_a rfl ?_
    | refine q_s rfl ?_
    | refine q_b rfl ?_
    | refine wG_nil ?_
    | refine wG_g rfl ?_
    | refine wG_pure (o_len_vwm rfl) ?_
    | refine wG_pure (o_not_d rfl) ?_
    | refine wG_p rfl (by first | exact rfl | omega) ?_
    | refine wG_pure (o_str2 rfl rfl rfl) ?_
    | refine wG_pure (e_istr rfl rfl (by omega)) ?_
    | refine wG_pure (e_istr0 rfl rfl (by omega)) ?_
    | refine wG_pure (o_not rfl) ?_
    | refine wG_pure (e_ia_vw0 rfl rfl (by omega) rfl) ?_
    | refine wG_pure (e_ia_vwp rfl rfl (by omega) rfl) ?_
    | refine wG_pure (e_ia_vwm rfl rfl (by omega) (by omega) rfl) ?_
    | refine wG_pure (e_ia_vwi rfl rfl (by omega) rfl) ?_
    | refine wG_pure (e_ia_vwn rfl rfl (by omega) (by omega) rfl) ?_
    | refine wG_n rfl rfl ?_
    | refine wG_u rfl rfl ?_
    | refine wG_new (o_mks rfl rfl (by omega) (by decide)) ?_)
      refine ⟨i + 1, by omega, by omega, ?_⟩
      rw [← prL_n]
      exact Le_of ⟨⟨rfl, by simp only [AV.ltr, decide_eq_true_eq]; omega⟩, ⟨rfl, by simp only [AV.ltr, decide_eq_true_eq]; omega⟩, ⟨rfl, by simp only [AV.ltr, decide_eq_true_eq]; omega⟩, ⟨rfl, by simp only [AV.ltr, decide_eq_true_eq]; omega⟩, ⟨rfl, rfl⟩, ⟨rfl, rfl⟩, trivial⟩ (fun q rows hq => hq) (hwS _)
  · have hi3 : i = r.cs.length := by omega
    subst hi3
    rw [prL_end]
    have hlT := tgL_len r es r.cs.length
    by_cases hk : tgOK r es
    · rw [show decide (¬ tgOK r es) = false from decide_eq_false (fun h => h hk)] at cF
      rw [decide_eq_true hk]
      repeat (first | refine wG_call cF (ag_sl rfl hg_here hlT.symm vRow_plain (ag_fn rfl (fun _ _ => rfl) ag_nil)) rfl ?_ | (first
    | refine wC_a rfl ?_
    | refine q_s rfl ?_
    | refine q_b rfl ?_
    | refine wG_nil ?_
    | refine wG_g rfl ?_
    | refine wG_pure (o_len_vwm rfl) ?_
    | refine wG_pure (o_not_d rfl) ?_
    | refine wG_p rfl (by first | exact rfl | omega) ?_
    | refine wG_pure (o_str2 rfl rfl rfl) ?_
    | refine wG_pure (e_istr rfl rfl (by omega)) ?_
    | refine wG_pure (e_istr0 rfl rfl (by omega)) ?_
    | refine wG_pure (o_not rfl) ?_
    | refine wG_pure (e_ia_vw0 rfl rfl (by omega) rfl) ?_
    | refine wG_pure (e_ia_vwp rfl rfl (by omega) rfl) ?_
    | refine wG_pure (e_ia_vwm rfl rfl (by omega) (by omega) rfl) ?_
    | refine wG_pure (e_ia_vwi rfl rfl (by omega) rfl) ?_
    | refine wG_pure (e_ia_vwn rfl rfl (by omega) (by omega) rfl) ?_
    | refine wG_n rfl rfl ?_
    | refine wG_u rfl rfl ?_
    | refine wG_new (o_mks rfl rfl (by omega) (by decide)) ?_))
      refine ⟨trivial, _, retVs_2 (retV_mv rfl) (retV_mv rfl), ?_, by omega⟩
      exact Le_of ⟨⟨rfl, by simp [AV.ltr, ltrL]⟩, trivial⟩ (fun _ _ h => h) (hwS _)
    · rw [show decide (¬ tgOK r es) = true from decide_eq_true hk] at cF
      rw [decide_eq_false hk]
      repeat (first | refine wG_call cF (ag_sl rfl hg_here hlT.symm vRow_plain (ag_fn rfl (fun _ _ => rfl) ag_nil)) rfl ?_ | (first
    | refine wC_a rfl ?_
    | refine q_s rfl ?_
    | refine q_b rfl ?_
    | refine wG_nil ?_
    | refine wG_g rfl ?_
    | refine wG_pure (o_len_vwm rfl) ?_
    | refine wG_pure (o_not_d rfl) ?_
    | refine wG_p rfl (by first | exact rfl | omega) ?_
    | refine wG_pure (o_str2 rfl rfl rfl) ?_
    | refine wG_pure (e_istr rfl rfl (by omega)) ?_
    | refine wG_pure (e_istr0 rfl rfl (by omega)) ?_
    | refine wG_pure (o_not rfl) ?_
    | refine wG_pure (e_ia_vw0 rfl rfl (by omega) rfl) ?_
    | refine wG_pure (e_ia_vwp rfl rfl (by omega) rfl) ?_
    | refine wG_pure (e_ia_vwm rfl rfl (by omega) (by omega) rfl) ?_
    | refine wG_pure (e_ia_vwi rfl rfl (by omega) rfl) ?_
    | refine wG_pure (e_ia_vwn rfl rfl (by omega) (by omega) rfl) ?_
    | refine wG_n rfl rfl ?_
    | refine wG_u rfl rfl ?_
    | refine wG_new (o_mks rfl rfl (by omega) (by decide)) ?_))
      refine ⟨trivial, _, retVs_2 (retV_mv rfl) (retV_mv rfl), ?_, by omega⟩
      exact Le_of ⟨⟨rfl, by simp [AV.ltr, ltrL]⟩, trivial⟩ (fun _ _ h => h) (hwS _)
theorem con21_yes (a b nn : Bool) (r : Rc) (es : List Dt) (h1 : r.cs.length ≤ 1048576) (h2 : r.xs.length ≤ 1048576) (h3 : es.length ≤ 1048576) (h : prOK r es) : Con Try.prog 21 true [.agg (rRow a b r), .vw nn (es.map tRow)] (.tup [.sl 0 2 0 r.cs.length, .bool true]) [(tgL r es r.cs.length).map vRow] := by
  classical
  obtain ⟨m, hm⟩ : ∃ m, (oO r).length = m := ⟨_, rfl⟩
  refine con_of_wp mixed fun21 (by simp) [m + 2] (plain_map vRow_plain _) ?_
  unfold ac21 ro21
  simp only [zipT]
  have sp := sh46 a b r es h.1 hm
  rw [decide_eq_true h.2] at sp
  repeat (first
    | refine wC_a rfl ?_
    | refine q_s rfl ?_
    | refine q_b rfl ?_
    | refine wG_nil ?_
    | refine wG_g rfl ?_
    | refine wG_pure (o_len_vwm rfl) ?_
    | refine wG_pure (o_not_d rfl) ?_
    | refine wG_p rfl (by first | exact rfl | omega) ?_
    | refine wG_pure (o_str2 rfl rfl rfl) ?_
    | refine wG_pure (e_istr rfl rfl (by omega)) ?_
    | refine wG_pure (e_istr0 rfl rfl (by omega)) ?_
    | refine wG_pure (o_not rfl) ?_
    | refine wG_pure (e_ia_vw0 rfl rfl (by omega) rfl) ?_
    | refine wG_pure (e_ia_vwp rfl rfl (by omega) rfl) ?_
    | refine wG_pure (e_ia_vwm rfl rfl (by omega) (by omega) rfl) ?_
    | refine wG_pure (e_ia_vwi rfl rfl (by omega) rfl) ?_
    | refine wG_pure (e_ia_vwn rfl rfl (by omega) (by omega) rfl) ?_
    | refine wG_n rfl rfl ?_
    | refine wG_u rfl rfl ?_
    | refine wG_new (o_mks rfl rfl (by omega) (by decide)) ?_)
  refine wG_callG (v' := .tup [.pt 1 0 0, .sl (1 + m) 2 0 r.cs.length, .bool true]) (con45_yes a b nn r es h1 h2 h3 h.1) rfl (by rw [← hm]; rfl) rfl ?_
  rw [show 0 + 1 + (evO r es).length = m + 2 by rw [evO_len]; omega]
  change wpG _ _ _ ⟨_, eT a b r es, _⟩ _
  repeat (first | refine wG_callS sp rfl ?_ | (first
    | refine wC_a rfl ?_
    | refine q_s rfl ?_
    | refine q_b rfl ?_
    | refine wG_nil ?_
    | refine wG_g rfl ?_
    | refine wG_pure (o_len_vwm rfl) ?_
    | refine wG_pure (o_not_d rfl) ?_
    | refine wG_p rfl (by first | exact rfl | omega) ?_
    | refine wG_pure (o_str2 rfl rfl rfl) ?_
    | refine wG_pure (e_istr rfl rfl (by omega)) ?_
    | refine wG_pure (e_istr0 rfl rfl (by omega)) ?_
    | refine wG_pure (o_not rfl) ?_
    | refine wG_pure (e_ia_vw0 rfl rfl (by omega) rfl) ?_
    | refine wG_pure (e_ia_vwp rfl rfl (by omega) rfl) ?_
    | refine wG_pure (e_ia_vwm rfl rfl (by omega) (by omega) rfl) ?_
    | refine wG_pure (e_ia_vwi rfl rfl (by omega) rfl) ?_
    | refine wG_pure (e_ia_vwn rfl rfl (by omega) (by omega) rfl) ?_
    | refine wG_n rfl rfl ?_
    | refine wG_u rfl rfl ?_
    | refine wG_new (o_mks rfl rfl (by omega) (by decide)) ?_))
  exact ret_sb (.inr rfl) rfl ⟨_, retV_mv rfl, retV_mv rfl, rfl⟩ hg_here
theorem con21_no (a b nn : Bool) (r : Rc) (es : List Dt) (h1 : r.cs.length ≤ 1048576) (h2 : r.xs.length ≤ 1048576) (h3 : es.length ≤ 1048576) (h : ¬ prOK r es) : Con Try.prog 21 true [.agg (rRow a b r), .vw nn (es.map tRow)] (.tup [.nilS, .bool false]) [] := by
  classical
  obtain ⟨m, hm⟩ : ∃ m, (oO r).length = m := ⟨_, rfl⟩
  refine con_of_wp mixed fun21 (by simp) [] plain_nil ?_
  unfold ac21 ro21
  simp only [zipT]
  by_cases hE : GoodE r es
  · have sp := sh46 a b r es hE hm
    rw [decide_eq_false (fun q => h ⟨hE, q⟩)] at sp
    repeat (first
    | refine wC_a rfl ?_
    | refine q_s rfl ?_
    | refine q_b rfl ?_
    | refine wG_nil ?_
    | refine wG_g rfl ?_
    | refine wG_pure (o_len_vwm rfl) ?_
    | refine wG_pure (o_not_d rfl) ?_
    | refine wG_p rfl (by first | exact rfl | omega) ?_
    | refine wG_pure (o_str2 rfl rfl rfl) ?_
    | refine wG_pure (e_istr rfl rfl (by omega)) ?_
    | refine wG_pure (e_istr0 rfl rfl (by omega)) ?_
    | refine wG_pure (o_not rfl) ?_
    | refine wG_pure (e_ia_vw0 rfl rfl (by omega) rfl) ?_
    | refine wG_pure (e_ia_vwp rfl rfl (by omega) rfl) ?_
    | refine wG_pure (e_ia_vwm rfl rfl (by omega) (by omega) rfl) ?_
    | refine wG_pure (e_ia_vwi rfl rfl (by omega) rfl) ?_
    | refine wG_pure (e_ia_vwn rfl rfl (by omega) (by omega) rfl) ?_
    | refine wG_n rfl rfl ?_
    | refine wG_u rfl rfl ?_
    | refine wG_new (o_mks rfl rfl (by omega) (by decide)) ?_)
    refine wG_callG (v' := .tup [.pt 1 0 0, .sl (1 + m) 2 0 r.cs.length, .bool true]) (con45_yes a b nn r es h1 h2 h3 hE) rfl (by rw [← hm]; rfl) rfl ?_
    rw [show 0 + 1 + (evO r es).length = m + 2 by rw [evO_len]; omega]
    change wpG _ _ _ ⟨_, eT a b r es, _⟩ _
    repeat (first | refine wG_callS sp rfl ?_ | (first
    | refine wC_a rfl ?_
    | refine q_s rfl ?_
    | refine q_b rfl ?_
    | refine wG_nil ?_
    | refine wG_g rfl ?_
    | refine wG_pure (o_len_vwm rfl) ?_
    | refine wG_pure (o_not_d rfl) ?_
    | refine wG_p rfl (by first | exact rfl | omega) ?_
    | refine wG_pure (o_str2 rfl rfl rfl) ?_
    | refine wG_pure (e_istr rfl rfl (by omega)) ?_
    | refine wG_pure (e_istr0 rfl rfl (by omega)) ?_
    | refine wG_pure (o_not rfl) ?_
    | refine wG_pure (e_ia_vw0 rfl rfl (by omega) rfl) ?_
    | refine wG_pure (e_ia_vwp rfl rfl (by omega) rfl) ?_
    | refine wG_pure (e_ia_vwm rfl rfl (by omega) (by omega) rfl) ?_
    | refine wG_pure (e_ia_vwi rfl rfl (by omega) rfl) ?_
    | refine wG_pure (e_ia_vwn rfl rfl (by omega) (by omega) rfl) ?_
    | refine wG_n rfl rfl ?_
    | refine wG_u rfl rfl ?_
    | refine wG_new (o_mks rfl rfl (by omega) (by decide)) ?_))
    exact ret_pl (.inr rfl) (retVs_2 (retV_mv rfl) (retV_mv rfl)) rfl rfl (by simp)
  · repeat (first
    | refine wC_a rfl ?_
    | refine q_s rfl ?_
    | refine q_b rfl ?_
    | refine wG_nil ?_
    | refine wG_g rfl ?_
    | refine wG_pure (o_len_vwm rfl) ?_
    | refine wG_pure (o_not_d rfl) ?_
    | refine wG_p rfl (by first | exact rfl | omega) ?_
    | refine wG_pure (o_str2 rfl rfl rfl) ?_
    | refine wG_pure (e_istr rfl rfl (by omega)) ?_
    | refine wG_pure (e_istr0 rfl rfl (by omega)) ?_
    | refine wG_pure (o_not rfl) ?_
    | refine wG_pure (e_ia_vw0 rfl rfl (by omega) rfl) ?_
    | refine wG_pure (e_ia_vwp rfl rfl (by omega) rfl) ?_
    | refine wG_pure (e_ia_vwm rfl rfl (by omega) (by omega) rfl) ?_
    | refine wG_pure (e_ia_vwi rfl rfl (by omega) rfl) ?_
    | refine wG_pure (e_ia_vwn rfl rfl (by omega) (by omega) rfl) ?_
    | refine wG_n rfl rfl ?_
    | refine wG_u rfl rfl ?_
    | refine wG_new (o_mks rfl rfl (by omega) (by decide)) ?_)
    refine wG_callG (v' := .tup [.nilP, .nilS, .bool false]) (con45_no a b nn r es h1 h2 h3 hE) rfl rfl rfl ?_
    repeat (first
    | refine wC_a rfl ?_
    | refine q_s rfl ?_
    | refine q_b rfl ?_
    | refine wG_nil ?_
    | refine wG_g rfl ?_
    | refine wG_pure (o_len_vwm rfl) ?_
    | refine wG_pure (o_not_d rfl) ?_
    | refine wG_p rfl (by first | exact rfl | omega) ?_
    | refine wG_pure (o_str2 rfl rfl rfl) ?_
    | refine wG_pure (e_istr rfl rfl (by omega)) ?_
    | refine wG_pure (e_istr0 rfl rfl (by omega)) ?_
    | refine wG_pure (o_not rfl) ?_
    | refine wG_pure (e_ia_vw0 rfl rfl (by omega) rfl) ?_
    | refine wG_pure (e_ia_vwp rfl rfl (by omega) rfl) ?_
    | refine wG_pure (e_ia_vwm rfl rfl (by omega) (by omega) rfl) ?_
    | refine wG_pure (e_ia_vwi rfl rfl (by omega) rfl) ?_
    | refine wG_pure (e_ia_vwn rfl rfl (by omega) (by omega) rfl) ?_
    | refine wG_n rfl rfl ?_
    | refine wG_u rfl rfl ?_
    | refine wG_new (o_mks rfl rfl (by omega) (by decide)) ?_)
    exact ret_pl (.inr rfl) (retVs_2 (retV_mv rfl) (retV_mv rfl)) rfl rfl (by simp)
end Go.Proofs.Ytencmeleapmjnaa.Rec
