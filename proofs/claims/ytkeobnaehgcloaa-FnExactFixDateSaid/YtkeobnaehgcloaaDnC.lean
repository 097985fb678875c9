/- Valid records with distributions and weights of datings: both sides. -/
import Derived.Test.YtkeobnaehgcloaaDnB
namespace Go.Proofs.Ytkeobnaehgcloaa.Dst
open Go Go.Proofs.Ytkeobnaehgcloaa.Ab Go.Proofs.Ytkeobnaehgcloaa.Il Go.Proofs.Ytkeobnaehgcloaa.Rec
attribute [local irreducible] wpO wpC wpDr wpQ wpG wpE stepA seqQ blkQ Ret RetG ev
set_option maxRecDepth 10000
set_option maxHeartbeats 8000000
set_option linter.unusedSimpArgs false
set_option linter.unusedVariables false

def ac23 : AC := (.seq (.reg [⟨(some 1), none, (.box 3 true (.t 0))⟩, ⟨(some 2), none, (.mv (.c (.bool false)))⟩]) (.seq (.reg [⟨(some 3), none, (.ld true 3 (.t 1))⟩, ⟨(some 4), none, (.call 47 [(.t 3)])⟩, ⟨(some 2), none, (.mv (.t 4))⟩]) .ret))
def ro23 : List AOp := [(.mv (.t 2))]
theorem fun23 : Fun Try.prog 23 5 ac23 ro23 := ⟨Try.f23, _, Try.func23, by kernel_rfl, rfl, rfl, by kernel_rfl, by kernel_rfl, by decide⟩
def ac24 : AC := (.seq (.reg [⟨(some 1), none, (.box 3 true (.t 0))⟩, ⟨(some 2), none, (.mv (.c (.bool false)))⟩]) (.seq (.seq (.reg [⟨(some 7), none, (.fa 0 (.t 1))⟩, ⟨(some 8), none, (.ld true 2 (.t 7))⟩, ⟨(some 9), none, (.call 62 [(.t 8)])⟩, ⟨(some 10), none, (.un .not (.t 9))⟩, ⟨(some 11), none, (.mv (.t 10))⟩, ⟨(some 12), (some (11, false)), (.fa 2 (.t 1))⟩, ⟨(some 13), (some (11, false)), (.ld false 1 (.t 12))⟩, ⟨(some 14), (some (11, false)), (.len (.t 13))⟩, ⟨(some 15), (some (11, false)), (.fa 0 (.t 1))⟩, ⟨(some 16), (some (11, false)), (.fa 0 (.t 15))⟩, ⟨(some 17), (some (11, false)), (.ld false 1 (.t 16))⟩, ⟨(some 18), (some (11, false)), (.len (.t 17))⟩, ⟨(some 19), (some (11, false)), (.bin .neq (.t 14) (.t 18))⟩, ⟨(some 20), none, (.pick (.t 11) (.c (.bool true)) (.t 19))⟩]) (.cond (.t 20) (.seq (.reg [⟨(some 2), none, (.mv (.c (.bool false)))⟩]) .ret) .skip)) (.seq (.reg [⟨(some 3), none, (.mv (.c (.int .i64 1)))⟩, ⟨(some 4), none, (.mv (.c (.int .i64 1)))⟩]) (.seq (.seq (.reg [⟨(some 21), none, (.fa 2 (.t 1))⟩, ⟨(some 22), none, (.ld false 1 (.t 21))⟩, ⟨(some 23), none, (.len (.t 22))⟩, ⟨(some 24), none, (.mv (.c (.int .i64 0)))⟩]) (.blk 0 (.loop (.seq (.reg [⟨(some 25), none, (.bin .lss (.t 24) (.t 23))⟩]) (.seq (.cond (.t 25) .skip (.exit 0)) (.seq (.blk 1 (.seq (.reg [⟨(some 26), none, (.ia 2 (.t 22) (.t 24))⟩, ⟨(some 27), none, (.ld true 2 (.t 26))⟩, ⟨(some 6), none, (.alloc [(.int .i64 0), .nilS])⟩, ⟨none, none, (.st 2 (.t 6) (.t 27))⟩]) (.seq (.seq (.reg [⟨(some 28), none, (.ld true 2 (.t 6))⟩, ⟨(some 29), none, (.call 63 [(.t 28)])⟩, ⟨(some 30), none, (.un .not (.t 29))⟩]) (.cond (.t 30) (.seq (.reg [⟨(some 2), none, (.mv (.c (.bool false)))⟩]) .ret) .skip)) (.seq (.reg [⟨(some 31), none, (.mv (.t 3))⟩, ⟨(some 32), none, (.fa 1 (.t 6))⟩, ⟨(some 33), none, (.ld false 1 (.t 32))⟩, ⟨(some 34), none, (.len (.t 33))⟩, ⟨(some 35), none, (.bin .mul (.t 31) (.t 34))⟩, ⟨(some 3), none, (.mv (.t 35))⟩]) (.seq (.seq (.reg [⟨(some 36), none, (.mv (.t 3))⟩, ⟨(some 37), none, (.bin .gtr (.t 36) (.c (.int .i64 5000)))⟩, ⟨(some 38), none, (.mv (.t 37))⟩, ⟨(some 39), (some (38, false)), (.mv (.t 4))⟩, ⟨(some 40), (some (38, false)), (.ld true 2 (.t 6))⟩, ⟨(some 41), (some (38, false)), (.call 64 [(.t 40)])⟩, ⟨(some 42), (some (38, false)), (.bin .quo (.c (.int .i64 1000000000000000)) (.t 41))⟩, ⟨(some 43), (some (38, false)), (.bin .gtr (.t 39) (.t 42))⟩, ⟨(some 44), none, (.pick (.t 38) (.c (.bool true)) (.t 43))⟩]) (.cond (.t 44) (.seq (.reg [⟨(some 2), none, (.mv (.c (.bool false)))⟩]) .ret) .skip)) (.reg [⟨(some 45), none, (.mv (.t 4))⟩, ⟨(some 46), none, (.ld true 2 (.t 6))⟩, ⟨(some 47), none, (.call 64 [(.t 46)])⟩, ⟨(some 48), none, (.bin .mul (.t 45) (.t 47))⟩, ⟨(some 4), none, (.mv (.t 48))⟩])))))) (.reg [⟨(some 49), none, (.bin .add (.t 24) (.c (.int .i64 1)))⟩, ⟨(some 24), none, (.mv (.t 49))⟩]))))))) (.seq (.reg [⟨(some 2), none, (.mv (.c (.bool true)))⟩]) .ret)))))
def ro24 : List AOp := [(.mv (.t 2))]
theorem fun24 : Fun Try.prog 24 50 ac24 ro24 := ⟨Try.f24, _, Try.func24, by kernel_rfl, rfl, rfl, by kernel_rfl, by kernel_rfl, by decide⟩
def ac25 : AC := (.seq (.reg [⟨(some 2), none, (.box 3 true (.t 0))⟩, ⟨(some 4), none, (.mv (.c (.int .i64 0)))⟩, ⟨(some 5), none, (.mv (.c (.bool false)))⟩]) (.seq (.seq (.reg [⟨(some 6), none, (.ld true 3 (.t 2))⟩, ⟨(some 7), none, (.call 47 [(.t 6)])⟩, ⟨(some 8), none, (.un .not (.t 7))⟩, ⟨(some 9), none, (.mv (.t 8))⟩, ⟨(some 10), (some (9, false)), (.mv (.t 1))⟩, ⟨(some 11), (some (9, false)), (.len (.t 10))⟩, ⟨(some 12), (some (9, false)), (.fa 2 (.t 2))⟩, ⟨(some 13), (some (9, false)), (.ld false 1 (.t 12))⟩, ⟨(some 14), (some (9, false)), (.len (.t 13))⟩, ⟨(some 15), (some (9, false)), (.bin .neq (.t 11) (.t 14))⟩, ⟨(some 16), none, (.pick (.t 9) (.c (.bool true)) (.t 15))⟩]) (.cond (.t 16) (.seq (.reg [⟨(some 4), none, (.mv (.c (.int .i64 0)))⟩, ⟨(some 5), none, (.mv (.c (.bool false)))⟩]) .ret) .skip)) (.seq (.reg [⟨(some 17), none, (.ld true 3 (.t 2))⟩, ⟨(some 18), none, (.mv (.t 1))⟩, ⟨(some 19), none, (.call 65 [(.t 17), (.t 18)])⟩, ⟨(some 4), none, (.mv (.t 19))⟩, ⟨(some 5), none, (.mv (.c (.bool true)))⟩]) .ret)))
def ro25 : List AOp := [(.mv (.t 4)), (.mv (.t 5))]
theorem fun25 : Fun Try.prog 25 20 ac25 ro25 := ⟨Try.f25, _, Try.func25, by kernel_rfl, rfl, rfl, by kernel_rfl, by kernel_rfl, by decide⟩
def ac27 : AC := (.seq (.reg [⟨(some 2), none, (.box 3 true (.t 0))⟩, ⟨(some 4), none, (.mv (.c (.int .i64 0)))⟩, ⟨(some 5), none, (.mv (.c (.bool false)))⟩]) (.seq (.seq (.reg [⟨(some 6), none, (.ld true 3 (.t 2))⟩, ⟨(some 7), none, (.call 24 [(.t 6)])⟩, ⟨(some 8), none, (.un .not (.t 7))⟩, ⟨(some 9), none, (.mv (.t 8))⟩, ⟨(some 10), (some (9, false)), (.mv (.t 1))⟩, ⟨(some 11), (some (9, false)), (.len (.t 10))⟩, ⟨(some 12), (some (9, false)), (.fa 2 (.t 2))⟩, ⟨(some 13), (some (9, false)), (.ld false 1 (.t 12))⟩, ⟨(some 14), (some (9, false)), (.len (.t 13))⟩, ⟨(some 15), (some (9, false)), (.bin .neq (.t 11) (.t 14))⟩, ⟨(some 16), none, (.pick (.t 9) (.c (.bool true)) (.t 15))⟩]) (.cond (.t 16) (.seq (.reg [⟨(some 4), none, (.mv (.c (.int .i64 0)))⟩, ⟨(some 5), none, (.mv (.c (.bool false)))⟩]) .ret) .skip)) (.seq (.reg [⟨(some 17), none, (.ld true 3 (.t 2))⟩, ⟨(some 18), none, (.mv (.t 1))⟩, ⟨(some 19), none, (.call 66 [(.t 17), (.t 18)])⟩, ⟨(some 4), none, (.mv (.t 19))⟩, ⟨(some 5), none, (.mv (.c (.bool true)))⟩]) .ret)))
def ro27 : List AOp := [(.mv (.t 4)), (.mv (.t 5))]
theorem fun27 : Fun Try.prog 27 20 ac27 ro27 := ⟨Try.f27, _, Try.func27, by kernel_rfl, rfl, rfl, by kernel_rfl, by kernel_rfl, by decide⟩
def ac47 : AC := (.seq (.reg [⟨(some 1), none, (.box 3 true (.t 0))⟩, ⟨(some 2), none, (.mv (.c (.bool false)))⟩]) (.seq (.seq (.reg [⟨(some 6), none, (.fa 0 (.t 1))⟩, ⟨(some 7), none, (.ld true 2 (.t 6))⟩, ⟨(some 8), none, (.call 85 [(.t 7)])⟩, ⟨(some 9), none, (.un .not (.t 8))⟩, ⟨(some 10), none, (.mv (.t 9))⟩, ⟨(some 11), (some (10, false)), (.fa 2 (.t 1))⟩, ⟨(some 12), (some (10, false)), (.ld false 1 (.t 11))⟩, ⟨(some 13), (some (10, false)), (.len (.t 12))⟩, ⟨(some 14), (some (10, false)), (.fa 0 (.t 1))⟩, ⟨(some 15), (some (10, false)), (.fa 0 (.t 14))⟩, ⟨(some 16), (some (10, false)), (.ld false 1 (.t 15))⟩, ⟨(some 17), (some (10, false)), (.len (.t 16))⟩, ⟨(some 18), (some (10, false)), (.bin .neq (.t 13) (.t 17))⟩, ⟨(some 19), none, (.pick (.t 10) (.c (.bool true)) (.t 18))⟩]) (.cond (.t 19) (.seq (.reg [⟨(some 2), none, (.mv (.c (.bool false)))⟩]) .ret) .skip)) (.seq (.reg [⟨(some 3), none, (.mv (.c (.int .i64 1)))⟩, ⟨(some 4), none, (.mv (.c (.int .i64 1)))⟩]) (.seq (.seq (.reg [⟨(some 5), none, (.mv (.c (.int .i64 0)))⟩]) (.blk 0 (.loop (.seq (.seq (.reg [⟨(some 20), none, (.mv (.t 5))⟩, ⟨(some 21), none, (.fa 2 (.t 1))⟩, ⟨(some 22), none, (.ld false 1 (.t 21))⟩, ⟨(some 23), none, (.len (.t 22))⟩, ⟨(some 24), none, (.bin .lss (.t 20) (.t 23))⟩]) (.cond (.t 24) .skip (.exit 0))) (.seq (.blk 1 (.seq (.seq (.reg [⟨(some 27), none, (.fa 2 (.t 1))⟩, ⟨(some 28), none, (.ld false 1 (.t 27))⟩, ⟨(some 29), none, (.mv (.t 5))⟩, ⟨(some 30), none, (.ia 2 (.t 28) (.t 29))⟩, ⟨(some 31), none, (.ld true 2 (.t 30))⟩, ⟨(some 32), none, (.call 86 [(.t 31)])⟩, ⟨(some 33), none, (.un .not (.t 32))⟩]) (.cond (.t 33) (.seq (.reg [⟨(some 2), none, (.mv (.c (.bool false)))⟩]) .ret) .skip)) (.seq (.reg [⟨(some 34), none, (.mv (.t 3))⟩, ⟨(some 35), none, (.fa 2 (.t 1))⟩, ⟨(some 36), none, (.ld false 1 (.t 35))⟩, ⟨(some 37), none, (.mv (.t 5))⟩, ⟨(some 38), none, (.ia 2 (.t 36) (.t 37))⟩, ⟨(some 39), none, (.fa 1 (.t 38))⟩, ⟨(some 40), none, (.ld false 1 (.t 39))⟩, ⟨(some 41), none, (.len (.t 40))⟩, ⟨(some 42), none, (.bin .mul (.t 34) (.t 41))⟩, ⟨(some 3), none, (.mv (.t 42))⟩]) (.seq (.seq (.reg [⟨(some 43), none, (.mv (.t 3))⟩, ⟨(some 44), none, (.bin .gtr (.t 43) (.c (.int .i64 5000)))⟩, ⟨(some 45), none, (.mv (.t 44))⟩, ⟨(some 46), (some (45, false)), (.mv (.t 4))⟩, ⟨(some 47), (some (45, false)), (.fa 2 (.t 1))⟩, ⟨(some 48), (some (45, false)), (.ld false 1 (.t 47))⟩, ⟨(some 49), (some (45, false)), (.mv (.t 5))⟩, ⟨(some 50), (some (45, false)), (.ia 2 (.t 48) (.t 49))⟩, ⟨(some 51), (some (45, false)), (.fa 1 (.t 50))⟩, ⟨(some 52), (some (45, false)), (.ld false 1 (.t 51))⟩, ⟨(some 53), (some (45, false)), (.call 87 [(.t 52)])⟩, ⟨(some 54), (some (45, false)), (.bin .quo (.c (.int .i64 1000000000000000)) (.t 53))⟩, ⟨(some 55), (some (45, false)), (.bin .gtr (.t 46) (.t 54))⟩, ⟨(some 56), none, (.pick (.t 45) (.c (.bool true)) (.t 55))⟩]) (.cond (.t 56) (.seq (.reg [⟨(some 2), none, (.mv (.c (.bool false)))⟩]) .ret) .skip)) (.reg [⟨(some 57), none, (.mv (.t 4))⟩, ⟨(some 58), none, (.fa 2 (.t 1))⟩, ⟨(some 59), none, (.ld false 1 (.t 58))⟩, ⟨(some 60), none, (.mv (.t 5))⟩, ⟨(some 61), none, (.ia 2 (.t 59) (.t 60))⟩, ⟨(some 62), none, (.fa 1 (.t 61))⟩, ⟨(some 63), none, (.ld false 1 (.t 62))⟩, ⟨(some 64), none, (.call 87 [(.t 63)])⟩, ⟨(some 65), none, (.bin .mul (.t 57) (.t 64))⟩, ⟨(some 4), none, (.mv (.t 65))⟩]))))) (.reg [⟨(some 25), none, (.mv (.t 5))⟩, ⟨(some 26), none, (.bin .add (.t 25) (.c (.int .i64 1)))⟩, ⟨(some 5), none, (.mv (.t 26))⟩])))))) (.seq (.reg [⟨(some 2), none, (.mv (.c (.bool true)))⟩]) .ret)))))
def ro47 : List AOp := [(.mv (.t 2))]
theorem fun47 : Fun Try.prog 47 66 ac47 ro47 := ⟨Try.f47, _, Try.func47, by kernel_rfl, rfl, rfl, by kernel_rfl, by kernel_rfl, by decide⟩
def ac65 : AC := (.seq (.reg [⟨(some 2), none, (.box 3 true (.t 0))⟩, ⟨(some 4), none, (.mv (.c (.int .i64 0)))⟩]) (.seq (.seq (.reg [⟨(some 7), none, (.fa 0 (.t 2))⟩, ⟨(some 8), none, (.ld true 2 (.t 7))⟩, ⟨(some 9), none, (.mv (.t 1))⟩, ⟨(some 10), none, (.call 114 [(.t 8), (.t 9)])⟩, ⟨(some 11), none, (.un .not (.t 10))⟩]) (.cond (.t 11) (.seq (.reg [⟨(some 4), none, (.mv (.c (.int .i64 0)))⟩]) .ret) .skip)) (.seq (.reg [⟨(some 5), none, (.mv (.c (.int .i64 1)))⟩]) (.seq (.seq (.reg [⟨(some 6), none, (.mv (.c (.int .i64 0)))⟩]) (.blk 0 (.loop (.seq (.seq (.reg [⟨(some 12), none, (.mv (.t 6))⟩, ⟨(some 13), none, (.mv (.t 1))⟩, ⟨(some 14), none, (.len (.t 13))⟩, ⟨(some 15), none, (.bin .lss (.t 12) (.t 14))⟩]) (.cond (.t 15) .skip (.exit 0))) (.seq (.blk 1 (.dreg [⟨(some 18), none, (.mv (.t 5))⟩, ⟨(some 19), none, (.fa 2 (.t 2))⟩, ⟨(some 20), none, (.ld false 1 (.t 19))⟩, ⟨(some 21), none, (.mv (.t 6))⟩, ⟨(some 22), none, (.ia 2 (.t 20) (.t 21))⟩, ⟨(some 23), none, (.ld true 2 (.t 22))⟩, ⟨(some 24), none, (.mv (.t 1))⟩, ⟨(some 25), none, (.mv (.t 6))⟩, ⟨(some 26), none, (.ia 1 (.t 24) (.t 25))⟩, ⟨(some 27), none, (.ld false 1 (.t 26))⟩, ⟨(some 28), none, (.call 88 [(.t 23), (.t 27)])⟩, ⟨(some 29), none, (.bin .mul (.t 18) (.t 28))⟩, ⟨(some 5), none, (.mv (.t 29))⟩] [[], [], [1], [], [1, 2, 3], [1, 2, 3, 4], [], [], [6, 7], [6, 7, 8], [1, 2, 3, 4, 5, 6, 7, 8, 9], [0, 1, 2, 3, 4, 5, 6, 7, 8, 9, 10], [0, 1, 2, 3, 4, 5, 6, 7, 8, 9, 10, 11]])) (.reg [⟨(some 16), none, (.mv (.t 6))⟩, ⟨(some 17), none, (.bin .add (.t 16) (.c (.int .i64 1)))⟩, ⟨(some 6), none, (.mv (.t 17))⟩])))))) (.seq (.reg [⟨(some 30), none, (.mv (.t 5))⟩, ⟨(some 4), none, (.mv (.t 30))⟩]) .ret)))))
def ro65 : List AOp := [(.mv (.t 4))]
theorem fun65 : Fun Try.prog 65 31 ac65 ro65 := ⟨Try.f65, _, Try.func65, by kernel_rfl, rfl, rfl, by kernel_rfl, by kernel_rfl, by decide⟩
def ac66 : AC := (.seq (.reg [⟨(some 2), none, (.box 3 true (.t 0))⟩, ⟨(some 4), none, (.mv (.c (.int .i64 0)))⟩]) (.seq (.seq (.reg [⟨(some 10), none, (.fa 0 (.t 2))⟩, ⟨(some 11), none, (.fa 1 (.t 10))⟩, ⟨(some 12), none, (.ld false 1 (.t 11))⟩, ⟨(some 13), none, (.len (.t 12))⟩, ⟨(some 14), none, (.mv (.c (.int .i64 0)))⟩]) (.blk 0 (.loop (.seq (.reg [⟨(some 15), none, (.bin .lss (.t 14) (.t 13))⟩]) (.seq (.cond (.t 15) .skip (.exit 0)) (.seq (.blk 1 (.seq (.reg [⟨(some 16), none, (.ia 2 (.t 12) (.t 14))⟩, ⟨(some 17), none, (.ld true 2 (.t 16))⟩, ⟨(some 6), none, (.alloc [(.int .i64 0), (.int .i64 0)])⟩, ⟨none, none, (.st 2 (.t 6) (.t 17))⟩]) (.seq (.dreg [⟨(some 18), none, (.mv (.t 1))⟩, ⟨(some 19), none, (.fa 0 (.t 2))⟩, ⟨(some 20), none, (.ld true 2 (.t 19))⟩, ⟨(some 21), none, (.fa 0 (.t 6))⟩, ⟨(some 22), none, (.ld false 1 (.t 21))⟩, ⟨(some 23), none, (.call 53 [(.t 20), (.t 22)])⟩, ⟨(some 24), none, (.ia 1 (.t 18) (.t 23))⟩, ⟨(some 25), none, (.ld false 1 (.t 24))⟩, ⟨(some 26), none, (.mv (.t 1))⟩, ⟨(some 27), none, (.fa 0 (.t 2))⟩, ⟨(some 28), none, (.ld true 2 (.t 27))⟩, ⟨(some 29), none, (.fa 1 (.t 6))⟩, ⟨(some 30), none, (.ld false 1 (.t 29))⟩, ⟨(some 31), none, (.call 53 [(.t 28), (.t 30)])⟩, ⟨(some 32), none, (.ia 1 (.t 26) (.t 31))⟩, ⟨(some 33), none, (.ld false 1 (.t 32))⟩, ⟨(some 34), none, (.bin .lss (.t 25) (.t 33))⟩] [[], [], [1], [], [3], [1, 2, 3, 4], [0, 1, 2, 3, 4, 5], [0, 1, 2, 3, 4, 5, 6], [], [], [9], [], [11], [1, 2, 3, 4, 5, 9, 10, 11, 12], [1, 2, 3, 4, 5, 8, 9, 10, 11, 12, 13], [1, 2, 3, 4, 5, 8, 9, 10, 11, 12, 13, 14], [0, 1, 2, 3, 4, 5, 6, 7, 8, 9, 10, 11, 12, 13, 14, 15]]) (.cond (.t 34) (.seq (.reg [⟨(some 4), none, (.mv (.c (.int .i64 0)))⟩]) .ret) .skip)))) (.reg [⟨(some 35), none, (.bin .add (.t 14) (.c (.int .i64 1)))⟩, ⟨(some 14), none, (.mv (.t 35))⟩]))))))) (.seq (.reg [⟨(some 7), none, (.mv (.c (.int .i64 1)))⟩]) (.seq (.seq (.reg [⟨(some 36), none, (.mv (.t 1))⟩, ⟨(some 37), none, (.len (.t 36))⟩, ⟨(some 38), none, (.mv (.c (.int .i64 0)))⟩]) (.blk 2 (.loop (.seq (.reg [⟨(some 39), none, (.bin .lss (.t 38) (.t 37))⟩]) (.seq (.cond (.t 39) .skip (.exit 2)) (.seq (.blk 3 (.seq (.reg [⟨(some 40), none, (.mv (.t 38))⟩, ⟨(some 41), none, (.ia 1 (.t 36) (.t 38))⟩, ⟨(some 42), none, (.ld false 1 (.t 41))⟩, ⟨(some 8), none, (.mv (.t 40))⟩, ⟨(some 9), none, (.mv (.t 42))⟩]) (.reg [⟨(some 43), none, (.mv (.t 7))⟩, ⟨(some 44), none, (.fa 2 (.t 2))⟩, ⟨(some 45), none, (.ld false 1 (.t 44))⟩, ⟨(some 46), none, (.mv (.t 8))⟩, ⟨(some 47), none, (.ia 2 (.t 45) (.t 46))⟩, ⟨(some 48), none, (.ld true 2 (.t 47))⟩, ⟨(some 49), none, (.mv (.t 9))⟩, ⟨(some 50), none, (.call 97 [(.t 48), (.t 49)])⟩, ⟨(some 51), none, (.bin .mul (.t 43) (.t 50))⟩, ⟨(some 7), none, (.mv (.t 51))⟩]))) (.reg [⟨(some 52), none, (.bin .add (.t 38) (.c (.int .i64 1)))⟩, ⟨(some 38), none, (.mv (.t 52))⟩]))))))) (.seq (.reg [⟨(some 53), none, (.mv (.t 7))⟩, ⟨(some 4), none, (.mv (.t 53))⟩]) .ret)))))
def ro66 : List AOp := [(.mv (.t 4))]
theorem fun66 : Fun Try.prog 66 54 ac66 ro66 := ⟨Try.f66, _, Try.func66, by kernel_rfl, rfl, rfl, by kernel_rfl, by kernel_rfl, by decide⟩
def ac114 : AC := (.seq (.reg [⟨(some 2), none, (.box 2 true (.t 0))⟩, ⟨(some 4), none, (.mv (.c (.bool false)))⟩]) (.seq (.seq (.reg [⟨(some 5), none, (.mv (.c (.int .i64 0)))⟩]) (.blk 0 (.loop (.seq (.seq (.reg [⟨(some 7), none, (.mv (.t 5))⟩, ⟨(some 8), none, (.fa 1 (.t 2))⟩, ⟨(some 9), none, (.ld false 1 (.t 8))⟩, ⟨(some 10), none, (.len (.t 9))⟩, ⟨(some 11), none, (.bin .lss (.t 7) (.t 10))⟩]) (.cond (.t 11) .skip (.exit 0))) (.seq (.blk 1 (.seq (.reg [⟨(some 14), none, (.fa 1 (.t 2))⟩, ⟨(some 15), none, (.ld false 1 (.t 14))⟩, ⟨(some 16), none, (.mv (.t 5))⟩, ⟨(some 17), none, (.ia 2 (.t 15) (.t 16))⟩, ⟨(some 18), none, (.ld true 2 (.t 17))⟩, ⟨(some 6), none, (.alloc [(.int .i64 0), (.int .i64 0)])⟩, ⟨none, none, (.st 2 (.t 6) (.t 18))⟩]) (.seq (.dreg [⟨(some 19), none, (.mv (.t 1))⟩, ⟨(some 20), none, (.ld true 2 (.t 2))⟩, ⟨(some 21), none, (.fa 0 (.t 6))⟩, ⟨(some 22), none, (.ld false 1 (.t 21))⟩, ⟨(some 23), none, (.call 48 [(.t 20), (.t 22)])⟩, ⟨(some 24), none, (.ia 1 (.t 19) (.t 23))⟩, ⟨(some 25), none, (.ld false 1 (.t 24))⟩, ⟨(some 26), none, (.mv (.t 1))⟩, ⟨(some 27), none, (.ld true 2 (.t 2))⟩, ⟨(some 28), none, (.fa 1 (.t 6))⟩, ⟨(some 29), none, (.ld false 1 (.t 28))⟩, ⟨(some 30), none, (.call 48 [(.t 27), (.t 29)])⟩, ⟨(some 31), none, (.ia 1 (.t 26) (.t 30))⟩, ⟨(some 32), none, (.ld false 1 (.t 31))⟩, ⟨(some 33), none, (.bin .lss (.t 25) (.t 32))⟩] [[], [], [], [2], [1, 2, 3], [0, 1, 2, 3, 4], [0, 1, 2, 3, 4, 5], [], [], [], [9], [1, 2, 3, 4, 8, 9, 10], [1, 2, 3, 4, 7, 8, 9, 10, 11], [1, 2, 3, 4, 7, 8, 9, 10, 11, 12], [0, 1, 2, 3, 4, 5, 6, 7, 8, 9, 10, 11, 12, 13]]) (.cond (.t 33) (.seq (.reg [⟨(some 4), none, (.mv (.c (.bool false)))⟩]) .ret) .skip)))) (.reg [⟨(some 12), none, (.mv (.t 5))⟩, ⟨(some 13), none, (.bin .add (.t 12) (.c (.int .i64 1)))⟩, ⟨(some 5), none, (.mv (.t 13))⟩])))))) (.seq (.reg [⟨(some 4), none, (.mv (.c (.bool true)))⟩]) .ret)))
def ro114 : List AOp := [(.mv (.t 4))]
theorem fun114 : Fun Try.prog 114 34 ac114 ro114 := ⟨Try.f114, _, Try.func114, by kernel_rfl, rfl, rfl, by kernel_rfl, by kernel_rfl, by decide⟩

def GoodN (r : Rc) (xs : List Dn) : Prop := GoodR r ∧ xs.length = r.cs.length ∧ ∀ i, i < xs.length → okN xs i
theorem lt_upN {P : Nat → Prop} {i : Nat} (h : ∀ j, j < i → P j) (h2 : P i) : ∀ j, j < i + 1 → P j := by
  intro j hj
  rcases Nat.lt_or_ge j i with hji | hji
  · exact h j hji
  · obtain rfl : j = i := by omega
    exact h2
open Classical in
theorem con47 (a b c : Bool) (r : Rc) (xs : List Dn) (h1 : r.cs.length ≤ 1048576) (h2 : r.xs.length ≤ 1048576) (h3 : xs.length ≤ 1048576) (hL : LenN xs 1048576) : Con Try.prog 47 true [.agg (dtR a b c r xs)] (.bool (decide (GoodN r xs))) [] := by
  refine con_of_wp mixed fun47 (by simp) [] plain_nil ?_
  unfold ac47 ro47
  simp only [zipT]
  have c1 := con85 a b r h1 h2
  by_cases hG : GoodR r
  · rw [decide_eq_true hG] at c1
    repeat (first | refine wG_call c1 rfl rfl ?_ | (first
    | refine wC_a rfl ?_
    | refine q_s rfl ?_
    | refine q_b rfl ?_
    | refine wG_nil ?_
    | refine wG_g rfl ?_
    | refine wG_pure (o_len_vwm rfl) ?_
    | refine wG_pure (o_not_d rfl) ?_
    | refine wG_p rfl (by first | exact rfl | omega) ?_
    | refine wG_pure (o_str2 rfl rfl rfl) ?_
    | refine wG_pure (e_istr rfl rfl (by omega)) ?_
    | refine wG_pure (e_istr0 rfl rfl (by omega)) ?_
    | refine wG_pure (o_not rfl) ?_
    | refine wG_pure (e_ia_vw0 rfl rfl (by omega) rfl) ?_
    | refine wG_pure (e_ia_vwp rfl rfl (by omega) rfl) ?_
    | refine wG_pure (e_ia_vwm rfl rfl (by omega) (by omega) rfl) ?_
    | refine wG_pure (e_ia_vwi rfl rfl (by omega) rfl) ?_
    | refine wG_pure (e_ia_vwn rfl rfl (by omega) (by omega) rfl) ?_
    | refine wG_n rfl rfl ?_
    | refine wG_u rfl rfl ?_
    | refine wG_new (o_mks rfl rfl (by omega) (by decide)) ?_))
    by_cases hn : xs.length = r.cs.length
    · have d0 : decide ((xs.length : Int) ≠ (r.cs.length : Int)) = false := decide_eq_false (fun h => h (by omega))
      simp only [d0]
      repeat (first
    | refine wC_a rfl ?_
    | refine q_s rfl ?_
    | refine q_b rfl ?_
    | refine wG_nil ?_
    | refine wG_g rfl ?_
    | refine wG_pure (o_len_vwm rfl) ?_
    | refine wG_pure (o_not_d rfl) ?_
    | refine wG_p rfl (by first | exact rfl | omega) ?_
    | refine wG_pure (o_str2 rfl rfl rfl) ?_
    | refine wG_pure (e_istr rfl rfl (by omega)) ?_
    | refine wG_pure (e_istr0 rfl rfl (by omega)) ?_
    | refine wG_pure (o_not rfl) ?_
    | refine wG_pure (e_ia_vw0 rfl rfl (by omega) rfl) ?_
    | refine wG_pure (e_ia_vwp rfl rfl (by omega) rfl) ?_
    | refine wG_pure (e_ia_vwm rfl rfl (by omega) (by omega) rfl) ?_
    | refine wG_pure (e_ia_vwi rfl rfl (by omega) rfl) ?_
    | refine wG_pure (e_ia_vwn rfl rfl (by omega) (by omega) rfl) ?_
    | refine wG_n rfl rfl ?_
    | refine wG_u rfl rfl ?_
    | refine wG_new (o_mks rfl rfl (by omega) (by decide)) ?_)
      refine wC_loop Nat (fun i => ⟨[(1, .pt 0 0 0), (3, .int .i64 (mny xs i)), (4, .int .i64 (wgt xs i)), (5, .int .i64 (i : Int))], [(0, some [dtR a b c r xs])], 1⟩) (fun i => i ≤ xs.length ∧ ∀ j, j < i → okN xs j) (fun i => xs.length - i) 0 ⟨Nat.zero_le _, fun j hj => absurd hj (Nat.not_lt_zero _)⟩ ?_ (fun _ _ => Nat.zero_le _) ?_
      · exact ⟨⟨⟨rfl, rfl⟩, ⟨rfl, rfl⟩, ⟨rfl, rfl⟩, ⟨rfl, rfl⟩, trivial⟩, ⟨rfl, by show 0 < 1; decide, by simp [dtR, AV.ltr]⟩, trivial⟩
      rintro i ⟨hi, hok⟩
      obtain ⟨⟨m1, m2⟩, m3, m4⟩ := okN_b i hok
      repeat (first
    | refine wC_a rfl ?_
    | refine q_s rfl ?_
    | refine q_b rfl ?_
    | refine wG_nil ?_
    | refine wG_g rfl ?_
    | refine wG_pure (o_len_vwm rfl) ?_
    | refine wG_pure (o_not_d rfl) ?_
    | refine wG_p rfl (by first | exact rfl | omega) ?_
    | refine wG_pure (o_str2 rfl rfl rfl) ?_
    | refine wG_pure (e_istr rfl rfl (by omega)) ?_
    | refine wG_pure (e_istr0 rfl rfl (by omega)) ?_
    | refine wG_pure (o_not rfl) ?_
    | refine wG_pure (e_ia_vw0 rfl rfl (by omega) rfl) ?_
    | refine wG_pure (e_ia_vwp rfl rfl (by omega) rfl) ?_
    | refine wG_pure (e_ia_vwm rfl rfl (by omega) (by omega) rfl) ?_
    | refine wG_pure (e_ia_vwi rfl rfl (by omega) rfl) ?_
    | refine wG_pure (e_ia_vwn rfl rfl (by omega) (by omega) rfl) ?_
    | refine wG_n rfl rfl ?_
    | refine wG_u rfl rfl ?_
    | refine wG_new (o_mks rfl rfl (by omega) (by decide)) ?_)
      refine wC_cond_d rfl (fun h5 => ?_) (fun h5 => ?_)
      · have hi2 : i < xs.length := by omega
        have c2 := con86 (xs.getD i default).b (xs.getD i default).d (hL i hi2)
        by_cases g1 : GoodD (xs.getD i default).d
        · rw [decide_eq_true g1] at c2
          have hl := g1.1
          have c3 := con87 (xs.getD i default).b (xs.getD i default).d.ws (hL i hi2) g1.bnd (by decide) (by omega)
          have ht := g1.pos
          have ht2 := g1.total_b.2
          change Con Try.prog _ _ _ (.int .i64 (total (xs.getD i default).d)) _ at c3
          have hmul : 0 ≤ mny xs i * ((xs.getD i default).d.ws.length : Int) ∧ mny xs i * ((xs.getD i default).d.ws.length : Int) ≤ 5000 * 60 := ⟨Int.mul_nonneg (by omega) (by omega), Int.mul_le_mul m2 (by omega) (by omega) (by omega)⟩
          have hdv : (1000000000000000 : Int).tdiv (total (xs.getD i default).d) ≤ 1000000000000000 ∧ 0 ≤ (1000000000000000 : Int).tdiv (total (xs.getD i default).d) := by
            rw [Int.tdiv_eq_ediv_of_nonneg (by omega)]
            exact ⟨Int.ediv_le_self _ (by omega), Int.ediv_nonneg (by omega) (by omega)⟩
          repeat (first | refine wG_call c2 rfl rfl ?_ | (first
    | refine wC_a rfl ?_
    | refine q_s rfl ?_
    | refine q_b rfl ?_
    | refine wG_nil ?_
    | refine wG_g rfl ?_
    | refine wG_pure (o_len_vwm rfl) ?_
    | refine wG_pure (o_not_d rfl) ?_
    | refine wG_p rfl (by first | exact rfl | omega) ?_
    | refine wG_pure (o_str2 rfl rfl rfl) ?_
    | refine wG_pure (e_istr rfl rfl (by omega)) ?_
    | refine wG_pure (e_istr0 rfl rfl (by omega)) ?_
    | refine wG_pure (o_not rfl) ?_
    | refine wG_pure (e_ia_vw0 rfl rfl (by omega) rfl) ?_
    | refine wG_pure (e_ia_vwp rfl rfl (by omega) rfl) ?_
    | refine wG_pure (e_ia_vwm rfl rfl (by omega) (by omega) rfl) ?_
    | refine wG_pure (e_ia_vwi rfl rfl (by omega) rfl) ?_
    | refine wG_pure (e_ia_vwn rfl rfl (by omega) (by omega) rfl) ?_
    | refine wG_n rfl rfl ?_
    | refine wG_u rfl rfl ?_
    | refine wG_new (o_mks rfl rfl (by omega) (by decide)) ?_))
          by_cases g2 : mny xs i * ((xs.getD i default).d.ws.length : Int) > 5000
          · simp only [decide_eq_true g2]
            repeat (first
    | refine wC_a rfl ?_
    | refine q_s rfl ?_
    | refine q_b rfl ?_
    | refine wG_nil ?_
    | refine wG_g rfl ?_
    | refine wG_pure (o_len_vwm rfl) ?_
    | refine wG_pure (o_not_d rfl) ?_
    | refine wG_p rfl (by first | exact rfl | omega) ?_
    | refine wG_pure (o_str2 rfl rfl rfl) ?_
    | refine wG_pure (e_istr rfl rfl (by omega)) ?_
    | refine wG_pure (e_istr0 rfl rfl (by omega)) ?_
    | refine wG_pure (o_not rfl) ?_
    | refine wG_pure (e_ia_vw0 rfl rfl (by omega) rfl) ?_
    | refine wG_pure (e_ia_vwp rfl rfl (by omega) rfl) ?_
    | refine wG_pure (e_ia_vwm rfl rfl (by omega) (by omega) rfl) ?_
    | refine wG_pure (e_ia_vwi rfl rfl (by omega) rfl) ?_
    | refine wG_pure (e_ia_vwn rfl rfl (by omega) (by omega) rfl) ?_
    | refine wG_n rfl rfl ?_
    | refine wG_u rfl rfl ?_
    | refine wG_new (o_mks rfl rfl (by omega) (by decide)) ?_)
            exact ret_boolE (.inr rfl) ⟨_, retV_mv rfl, (decide_eq_false fun h => (h.2.2 i hi2).2.1 g2).symm⟩
          · simp only [decide_eq_false g2]
            repeat (first | refine wG_call c3 rfl rfl ?_ | (first
    | refine wC_a rfl ?_
    | refine q_s rfl ?_
    | refine q_b rfl ?_
    | refine wG_nil ?_
    | refine wG_g rfl ?_
    | refine wG_pure (o_len_vwm rfl) ?_
    | refine wG_pure (o_not_d rfl) ?_
    | refine wG_p rfl (by first | exact rfl | omega) ?_
    | refine wG_pure (o_str2 rfl rfl rfl) ?_
    | refine wG_pure (e_istr rfl rfl (by omega)) ?_
    | refine wG_pure (e_istr0 rfl rfl (by omega)) ?_
    | refine wG_pure (o_not rfl) ?_
    | refine wG_pure (e_ia_vw0 rfl rfl (by omega) rfl) ?_
    | refine wG_pure (e_ia_vwp rfl rfl (by omega) rfl) ?_
    | refine wG_pure (e_ia_vwm rfl rfl (by omega) (by omega) rfl) ?_
    | refine wG_pure (e_ia_vwi rfl rfl (by omega) rfl) ?_
    | refine wG_pure (e_ia_vwn rfl rfl (by omega) (by omega) rfl) ?_
    | refine wG_n rfl rfl ?_
    | refine wG_u rfl rfl ?_
    | refine wG_new (o_mks rfl rfl (by omega) (by decide)) ?_))
            by_cases g3 : wgt xs i > (1000000000000000 : Int).tdiv (total (xs.getD i default).d)
            · simp only [decide_eq_true g3]
              repeat (first
    | refine wC_a rfl ?_
    | refine q_s rfl ?_
    | refine q_b rfl ?_
    | refine wG_nil ?_
    | refine wG_g rfl ?_
    | refine wG_pure (o_len_vwm rfl) ?_
    | refine wG_pure (o_not_d rfl) ?_
    | refine wG_p rfl (by first | exact rfl | omega) ?_
    | refine wG_pure (o_str2 rfl rfl rfl) ?_
    | refine wG_pure (e_istr rfl rfl (by omega)) ?_
    | refine wG_pure (e_istr0 rfl rfl (by omega)) ?_
    | refine wG_pure (o_not rfl) ?_
    | refine wG_pure (e_ia_vw0 rfl rfl (by omega) rfl) ?_
    | refine wG_pure (e_ia_vwp rfl rfl (by omega) rfl) ?_
    | refine wG_pure (e_ia_vwm rfl rfl (by omega) (by omega) rfl) ?_
    | refine wG_pure (e_ia_vwi rfl rfl (by omega) rfl) ?_
    | refine wG_pure (e_ia_vwn rfl rfl (by omega) (by omega) rfl) ?_
    | refine wG_n rfl rfl ?_
    | refine wG_u rfl rfl ?_
    | refine wG_new (o_mks rfl rfl (by omega) (by decide)) ?_)
              exact ret_boolE (.inr rfl) ⟨_, retV_mv rfl, (decide_eq_false fun h => (h.2.2 i hi2).2.2 g3).symm⟩
            · simp only [decide_eq_false g3]
              have hw := le_tdiv ht (by omega) g3
              have hw0 : 0 ≤ wgt xs i * total (xs.getD i default).d := Int.mul_nonneg (by omega) (by omega)
              repeat (first | refine wG_call c3 rfl rfl ?_ | (first
    | refine wC_a rfl ?_
    | refine q_s rfl ?_
    | refine q_b rfl ?_
    | refine wG_nil ?_
    | refine wG_g rfl ?_
    | refine wG_pure (o_len_vwm rfl) ?_
    | refine wG_pure (o_not_d rfl) ?_
    | refine wG_p rfl (by first | exact rfl | omega) ?_
    | refine wG_pure (o_str2 rfl rfl rfl) ?_
    | refine wG_pure (e_istr rfl rfl (by omega)) ?_
    | refine wG_pure (e_istr0 rfl rfl (by omega)) ?_
    | refine wG_pure (o_not rfl) ?_
    | refine wG_pure (e_ia_vw0 rfl rfl (by omega) rfl) ?_
    | refine wG_pure (e_ia_vwp rfl rfl (by omega) rfl) ?_
    | refine wG_pure (e_ia_vwm rfl rfl (by omega) (by omega) rfl) ?_
    | refine wG_pure (e_ia_vwi rfl rfl (by omega) rfl) ?_
    | refine wG_pure (e_ia_vwn rfl rfl (by omega) (by omega) rfl) ?_
    | refine wG_n rfl rfl ?_
    | refine wG_u rfl rfl ?_
    | refine wG_new (o_mks rfl rfl (by omega) (by decide)) ?_))
              exact ⟨i + 1, ⟨hi2, lt_upN hok ⟨g1, g2, g3⟩⟩, by omega, ⟨⟨rfl, rfl⟩, ⟨rfl, rfl⟩, ⟨rfl, rfl⟩, ⟨rfl, rfl⟩, trivial⟩, ⟨rfl, by show 0 < 1; decide, by simp [dtR, AV.ltr]⟩, trivial⟩
        · rw [decide_eq_false g1] at c2
          repeat (first | refine wG_call c2 rfl rfl ?_ | (first
    | refine wC_a rfl ?_
    | refine q_s rfl ?_
    | refine q_b rfl ?_
    | refine wG_nil ?_
    | refine wG_g rfl ?_
    | refine wG_pure (o_len_vwm rfl) ?_
    | refine wG_pure (o_not_d rfl) ?_
    | refine wG_p rfl (by first | exact rfl | omega) ?_
    | refine wG_pure (o_str2 rfl rfl rfl) ?_
    | refine wG_pure (e_istr rfl rfl (by omega)) ?_
    | refine wG_pure (e_istr0 rfl rfl (by omega)) ?_
    | refine wG_pure (o_not rfl) ?_
    | refine wG_pure (e_ia_vw0 rfl rfl (by omega) rfl) ?_
    | refine wG_pure (e_ia_vwp rfl rfl (by omega) rfl) ?_
    | refine wG_pure (e_ia_vwm rfl rfl (by omega) (by omega) rfl) ?_
    | refine wG_pure (e_ia_vwi rfl rfl (by omega) rfl) ?_
    | refine wG_pure (e_ia_vwn rfl rfl (by omega) (by omega) rfl) ?_
    | refine wG_n rfl rfl ?_
    | refine wG_u rfl rfl ?_
    | refine wG_new (o_mks rfl rfl (by omega) (by decide)) ?_))
          exact ret_boolE (.inr rfl) ⟨_, retV_mv rfl, (decide_eq_false fun h => g1 (h.2.2 i hi2).1).symm⟩
      · have hi3 : i = xs.length := by omega
        subst hi3
        repeat (first
    | refine wC_a rfl ?_
    | refine q_s rfl ?_
    | refine q_b rfl ?_
    | refine wG_nil ?_
    | refine wG_g rfl ?_
    | refine wG_pure (o_len_vwm rfl) ?_
    | refine wG_pure (o_not_d rfl) ?_
    | refine wG_p rfl (by first | exact rfl | omega) ?_
    | refine wG_pure (o_str2 rfl rfl rfl) ?_
    | refine wG_pure (e_istr rfl rfl (by omega)) ?_
    | refine wG_pure (e_istr0 rfl rfl (by omega)) ?_
    | refine wG_pure (o_not rfl) ?_
    | refine wG_pure (e_ia_vw0 rfl rfl (by omega) rfl) ?_
    | refine wG_pure (e_ia_vwp rfl rfl (by omega) rfl) ?_
    | refine wG_pure (e_ia_vwm rfl rfl (by omega) (by omega) rfl) ?_
    | refine wG_pure (e_ia_vwi rfl rfl (by omega) rfl) ?_
    | refine wG_pure (e_ia_vwn rfl rfl (by omega) (by omega) rfl) ?_
    | refine wG_n rfl rfl ?_
    | refine wG_u rfl rfl ?_
    | refine wG_new (o_mks rfl rfl (by omega) (by decide)) ?_)
        exact ret_boolE (.inr rfl) ⟨_, retV_mv rfl, (decide_eq_true ⟨hG, hn, hok⟩).symm⟩
    · have d0 : decide ((xs.length : Int) ≠ (r.cs.length : Int)) = true := decide_eq_true (by omega)
      simp only [d0]
      repeat (first
    | refine wC_a rfl ?_
    | refine q_s rfl ?_
    | refine q_b rfl ?_
    | refine wG_nil ?_
    | refine wG_g rfl ?_
    | refine wG_pure (o_len_vwm rfl) ?_
    | refine wG_pure (o_not_d rfl) ?_
    | refine wG_p rfl (by first | exact rfl | omega) ?_
    | refine wG_pure (o_str2 rfl rfl rfl) ?_
    | refine wG_pure (e_istr rfl rfl (by omega)) ?_
    | refine wG_pure (e_istr0 rfl rfl (by omega)) ?_
    | refine wG_pure (o_not rfl) ?_
    | refine wG_pure (e_ia_vw0 rfl rfl (by omega) rfl) ?_
    | refine wG_pure (e_ia_vwp rfl rfl (by omega) rfl) ?_
    | refine wG_pure (e_ia_vwm rfl rfl (by omega) (by omega) rfl) ?_
    | refine wG_pure (e_ia_vwi rfl rfl (by omega) rfl) ?_
    | refine wG_pure (e_ia_vwn rfl rfl (by omega) (by omega) rfl) ?_
    | refine wG_n rfl rfl ?_
    | refine wG_u rfl rfl ?_
    | refine wG_new (o_mks rfl rfl (by omega) (by decide)) ?_)
      exact ret_boolE (.inr rfl) ⟨_, retV_mv rfl, (decide_eq_false fun h => hn h.2.1).symm⟩
  · rw [decide_eq_false hG] at c1
    repeat (first | refine wG_call c1 rfl rfl ?_ | (first
    | refine wC_a rfl ?_
    | refine q_s rfl ?_
    | refine q_b rfl ?_
    | refine wG_nil ?_
    | refine wG_g rfl ?_
    | refine wG_pure (o_len_vwm rfl) ?_
    | refine wG_pure (o_not_d rfl) ?_
    | refine wG_p rfl (by first | exact rfl | omega) ?_
    | refine wG_pure (o_str2 rfl rfl rfl) ?_
    | refine wG_pure (e_istr rfl rfl (by omega)) ?_
    | refine wG_pure (e_istr0 rfl rfl (by omega)) ?_
    | refine wG_pure (o_not rfl) ?_
    | refine wG_pure (e_ia_vw0 rfl rfl (by omega) rfl) ?_
    | refine wG_pure (e_ia_vwp rfl rfl (by omega) rfl) ?_
    | refine wG_pure (e_ia_vwm rfl rfl (by omega) (by omega) rfl) ?_
    | refine wG_pure (e_ia_vwi rfl rfl (by omega) rfl) ?_
    | refine wG_pure (e_ia_vwn rfl rfl (by omega) (by omega) rfl) ?_
    | refine wG_n rfl rfl ?_
    | refine wG_u rfl rfl ?_
    | refine wG_new (o_mks rfl rfl (by omega) (by decide)) ?_))
    exact ret_boolE (.inr rfl) ⟨_, retV_mv rfl, (decide_eq_false fun h => hG h.1).symm⟩
open Classical in
theorem con23 (a b c : Bool) (r : Rc) (xs : List Dn) (h1 : r.cs.length ≤ 1048576) (h2 : r.xs.length ≤ 1048576) (h3 : xs.length ≤ 1048576) (hL : LenN xs 1048576) : Con Try.prog 23 true [.agg (dtR a b c r xs)] (.bool (decide (GoodN r xs))) [] := by
  refine con_of_wp mixed fun23 (by simp) [] plain_nil ?_
  unfold ac23 ro23
  simp only [zipT]
  have c1 := con47 a b c r xs h1 h2 h3 hL
  repeat (first | refine wG_call c1 rfl rfl ?_ | (first
    | refine wC_a rfl ?_
    | refine q_s rfl ?_
    | refine q_b rfl ?_
    | refine wG_nil ?_
    | refine wG_g rfl ?_
    | refine wG_pure (o_len_vwm rfl) ?_
    | refine wG_pure (o_not_d rfl) ?_
    | refine wG_p rfl (by first | exact rfl | omega) ?_
    | refine wG_pure (o_str2 rfl rfl rfl) ?_
    | refine wG_pure (e_istr rfl rfl (by omega)) ?_
    | refine wG_pure (e_istr0 rfl rfl (by omega)) ?_
    | refine wG_pure (o_not rfl) ?_
    | refine wG_pure (e_ia_vw0 rfl rfl (by omega) rfl) ?_
    | refine wG_pure (e_ia_vwp rfl rfl (by omega) rfl) ?_
    | refine wG_pure (e_ia_vwm rfl rfl (by omega) (by omega) rfl) ?_
    | refine wG_pure (e_ia_vwi rfl rfl (by omega) rfl) ?_
    | refine wG_pure (e_ia_vwn rfl rfl (by omega) (by omega) rfl) ?_
    | refine wG_n rfl rfl ?_
    | refine wG_u rfl rfl ?_
    | refine wG_new (o_mks rfl rfl (by omega) (by decide)) ?_))
  exact ret_boolE (.inr rfl) ⟨_, retV_mv rfl, rfl⟩
open Classical in
theorem con24 (a b c : Bool) (r : Rc) (xs : List Dn) (h1 : r.cs.length ≤ 1048576) (h2 : r.xs.length ≤ 1048576) (h3 : xs.length ≤ 1048576) (hL : LenN xs 1048576) : Con Try.prog 24 true [.agg (dtR a b c r xs)] (.bool (decide (GoodN r xs))) [] := by
  refine con_of_wp mixed fun24 (by simp) [] plain_nil ?_
  unfold ac24 ro24
  simp only [zipT]
  have c1 := con62 a b r h1 h2
  by_cases hG : GoodR r
  · rw [decide_eq_true hG] at c1
    repeat (first | refine wG_call c1 rfl rfl ?_ | (first
    | refine wC_a rfl ?_
    | refine q_s rfl ?_
    | refine q_b rfl ?_
    | refine wG_nil ?_
    | refine wG_g rfl ?_
    | refine wG_pure (o_len_vwm rfl) ?_
    | refine wG_pure (o_not_d rfl) ?_
    | refine wG_p rfl (by first | exact rfl | omega) ?_
    | refine wG_pure (o_str2 rfl rfl rfl) ?_
    | refine wG_pure (e_istr rfl rfl (by omega)) ?_
    | refine wG_pure (e_istr0 rfl rfl (by omega)) ?_
    | refine wG_pure (o_not rfl) ?_
    | refine wG_pure (e_ia_vw0 rfl rfl (by omega) rfl) ?_
    | refine wG_pure (e_ia_vwp rfl rfl (by omega) rfl) ?_
    | refine wG_pure (e_ia_vwm rfl rfl (by omega) (by omega) rfl) ?_
    | refine wG_pure (e_ia_vwi rfl rfl (by omega) rfl) ?_
    | refine wG_pure (e_ia_vwn rfl rfl (by omega) (by omega) rfl) ?_
    | refine wG_n rfl rfl ?_
    | refine wG_u rfl rfl ?_
    | refine wG_new (o_mks rfl rfl (by omega) (by decide)) ?_))
    by_cases hn : xs.length = r.cs.length
    · have d0 : decide ((xs.length : Int) ≠ (r.cs.length : Int)) = false := decide_eq_false (fun h => h (by omega))
      simp only [d0]
      repeat (first
    | refine wC_a rfl ?_
    | refine q_s rfl ?_
    | refine q_b rfl ?_
    | refine wG_nil ?_
    | refine wG_g rfl ?_
    | refine wG_pure (o_len_vwm rfl) ?_
    | refine wG_pure (o_not_d rfl) ?_
    | refine wG_p rfl (by first | exact rfl | omega) ?_
    | refine wG_pure (o_str2 rfl rfl rfl) ?_
    | refine wG_pure (e_istr rfl rfl (by omega)) ?_
    | refine wG_pure (e_istr0 rfl rfl (by omega)) ?_
    | refine wG_pure (o_not rfl) ?_
    | refine wG_pure (e_ia_vw0 rfl rfl (by omega) rfl) ?_
    | refine wG_pure (e_ia_vwp rfl rfl (by omega) rfl) ?_
    | refine wG_pure (e_ia_vwm rfl rfl (by omega) (by omega) rfl) ?_
    | refine wG_pure (e_ia_vwi rfl rfl (by omega) rfl) ?_
    | refine wG_pure (e_ia_vwn rfl rfl (by omega) (by omega) rfl) ?_
    | refine wG_n rfl rfl ?_
    | refine wG_u rfl rfl ?_
    | refine wG_new (o_mks rfl rfl (by omega) (by decide)) ?_)
      refine wC_loop Nat (fun i => ⟨[(1, .pt 0 0 0), (3, .int .i64 (mny xs i)), (4, .int .i64 (wgt xs i)), (22, .vw c (xs.map nD)), (23, .int .i64 (xs.length : Int)), (24, .int .i64 (i : Int))], [(0, some [dtR a b c r xs])], 1⟩) (fun i => i ≤ xs.length ∧ ∀ j, j < i → okN xs j) (fun i => xs.length - i) 0 ⟨Nat.zero_le _, fun j hj => absurd hj (Nat.not_lt_zero _)⟩ ?_ (fun _ _ => Nat.zero_le _) ?_
      · exact ⟨⟨⟨rfl, rfl⟩, ⟨rfl, rfl⟩, ⟨rfl, rfl⟩, ⟨rfl, rfl⟩, ⟨rfl, rfl⟩, ⟨rfl, rfl⟩, trivial⟩, ⟨rfl, by show 0 < 1; decide, by simp [dtR, AV.ltr]⟩, trivial⟩
      rintro i ⟨hi, hok⟩
      obtain ⟨⟨m1, m2⟩, m3, m4⟩ := okN_b i hok
      repeat (first
    | refine wC_a rfl ?_
    | refine q_s rfl ?_
    | refine q_b rfl ?_
    | refine wG_nil ?_
    | refine wG_g rfl ?_
    | refine wG_pure (o_len_vwm rfl) ?_
    | refine wG_pure (o_not_d rfl) ?_
    | refine wG_p rfl (by first | exact rfl | omega) ?_
    | refine wG_pure (o_str2 rfl rfl rfl) ?_
    | refine wG_pure (e_istr rfl rfl (by omega)) ?_
    | refine wG_pure (e_istr0 rfl rfl (by omega)) ?_
    | refine wG_pure (o_not rfl) ?_
    | refine wG_pure (e_ia_vw0 rfl rfl (by omega) rfl) ?_
    | refine wG_pure (e_ia_vwp rfl rfl (by omega) rfl) ?_
    | refine wG_pure (e_ia_vwm rfl rfl (by omega) (by omega) rfl) ?_
    | refine wG_pure (e_ia_vwi rfl rfl (by omega) rfl) ?_
    | refine wG_pure (e_ia_vwn rfl rfl (by omega) (by omega) rfl) ?_
    | refine wG_n rfl rfl ?_
    | refine wG_u rfl rfl ?_
    | refine wG_new (o_mks rfl rfl (by omega) (by decide)) ?_)
      refine wC_cond_d rfl (fun h5 => ?_) (fun h5 => ?_)
      · have hi2 : i < xs.length := by omega
        have c2 := con63 (xs.getD i default).b (xs.getD i default).d (hL i hi2)
        by_cases g1 : GoodD (xs.getD i default).d
        · rw [decide_eq_true g1] at c2
          have hl := g1.1
          have c3 := con64 (xs.getD i default).b (xs.getD i default).d g1
          have ht := g1.pos
          have ht2 := g1.total_b.2
          have hmul : 0 ≤ mny xs i * ((xs.getD i default).d.ws.length : Int) ∧ mny xs i * ((xs.getD i default).d.ws.length : Int) ≤ 5000 * 60 := ⟨Int.mul_nonneg (by omega) (by omega), Int.mul_le_mul m2 (by omega) (by omega) (by omega)⟩
          have hdv : (1000000000000000 : Int).tdiv (total (xs.getD i default).d) ≤ 1000000000000000 ∧ 0 ≤ (1000000000000000 : Int).tdiv (total (xs.getD i default).d) := by
            rw [Int.tdiv_eq_ediv_of_nonneg (by omega)]
            exact ⟨Int.ediv_le_self _ (by omega), Int.ediv_nonneg (by omega) (by omega)⟩
          repeat (first | refine wG_call c2 rfl rfl ?_ | (first
    | refine wC_a rfl ?_
    | refine q_s rfl ?_
    | refine q_b rfl ?_
    | refine wG_nil ?_
    | refine wG_g rfl ?_
    | refine wG_pure (o_len_vwm rfl) ?_
    | refine wG_pure (o_not_d rfl) ?_
    | refine wG_p rfl (by first | exact rfl | omega) ?_
    | refine wG_pure (o_str2 rfl rfl rfl) ?_
    | refine wG_pure (e_istr rfl rfl (by omega)) ?_
    | refine wG_pure (e_istr0 rfl rfl (by omega)) ?_
    | refine wG_pure (o_not rfl) ?_
    | refine wG_pure (e_ia_vw0 rfl rfl (by omega) rfl) ?_
    | refine wG_pure (e_ia_vwp rfl rfl (by omega) rfl) ?_
    | refine wG_pure (e_ia_vwm rfl rfl (by omega) (by omega) rfl) ?_
    | refine wG_pure (e_ia_vwi rfl rfl (by omega) rfl) ?_
    | refine wG_pure (e_ia_vwn rfl rfl (by omega) (by omega) rfl) ?_
    | refine wG_n rfl rfl ?_
    | refine wG_u rfl rfl ?_
    | refine wG_new (o_mks rfl rfl (by omega) (by decide)) ?_))
          by_cases g2 : mny xs i * ((xs.getD i default).d.ws.length : Int) > 5000
          · simp only [decide_eq_true g2]
            repeat (first
    | refine wC_a rfl ?_
    | refine q_s rfl ?_
    | refine q_b rfl ?_
    | refine wG_nil ?_
    | refine wG_g rfl ?_
    | refine wG_pure (o_len_vwm rfl) ?_
    | refine wG_pure (o_not_d rfl) ?_
    | refine wG_p rfl (by first | exact rfl | omega) ?_
    | refine wG_pure (o_str2 rfl rfl rfl) ?_
    | refine wG_pure (e_istr rfl rfl (by omega)) ?_
    | refine wG_pure (e_istr0 rfl rfl (by omega)) ?_
    | refine wG_pure (o_not rfl) ?_
    | refine wG_pure (e_ia_vw0 rfl rfl (by omega) rfl) ?_
    | refine wG_pure (e_ia_vwp rfl rfl (by omega) rfl) ?_
    | refine wG_pure (e_ia_vwm rfl rfl (by omega) (by omega) rfl) ?_
    | refine wG_pure (e_ia_vwi rfl rfl (by omega) rfl) ?_
    | refine wG_pure (e_ia_vwn rfl rfl (by omega) (by omega) rfl) ?_
    | refine wG_n rfl rfl ?_
    | refine wG_u rfl rfl ?_
    | refine wG_new (o_mks rfl rfl (by omega) (by decide)) ?_)
            exact ret_boolE (.inr rfl) ⟨_, retV_mv rfl, (decide_eq_false fun h => (h.2.2 i hi2).2.1 g2).symm⟩
          · simp only [decide_eq_false g2]
            repeat (first | refine wG_call c3 rfl rfl ?_ | (first
    | refine wC_a rfl ?_
    | refine q_s rfl ?_
    | refine q_b rfl ?_
    | refine wG_nil ?_
    | refine wG_g rfl ?_
    | refine wG_pure (o_len_vwm rfl) ?_
    | refine wG_pure (o_not_d rfl) ?_
    | refine wG_p rfl (by first | exact rfl | omega) ?_
    | refine wG_pure (o_str2 rfl rfl rfl) ?_
    | refine wG_pure (e_istr rfl rfl (by omega)) ?_
    | refine wG_pure (e_istr0 rfl rfl (by omega)) ?_
    | refine wG_pure (o_not rfl) ?_
    | refine wG_pure (e_ia_vw0 rfl rfl (by omega) rfl) ?_
    | refine wG_pure (e_ia_vwp rfl rfl (by omega) rfl) ?_
    | refine wG_pure (e_ia_vwm rfl rfl (by omega) (by omega) rfl) ?_
    | refine wG_pure (e_ia_vwi rfl rfl (by omega) rfl) ?_
    | refine wG_pure (e_ia_vwn rfl rfl (by omega) (by omega) rfl) ?_
    | refine wG_n rfl rfl ?_
    | refine wG_u rfl rfl ?_
    | refine wG_new (o_mks rfl rfl (by omega) (by decide)) ?_))
            by_cases g3 : wgt xs i > (1000000000000000 : Int).tdiv (total (xs.getD i default).d)
            · simp only [decide_eq_true g3]
              repeat (first
    | refine wC_a rfl ?_
    | refine q_s rfl ?_
    | refine q_b rfl ?_
    | refine wG_nil ?_
    | refine wG_g rfl ?_
    | refine wG_pure (o_len_vwm rfl) ?_
    | refine wG_pure (o_not_d rfl) ?_
    | refine wG_p rfl (by first | exact rfl | omega) ?_
    | refine wG_pure (o_str2 rfl rfl rfl) ?_
    | refine wG_pure (e_istr rfl rfl (by omega)) ?_
    | refine wG_pure (e_istr0 rfl rfl (by omega)) ?_
    | refine wG_pure (o_not rfl) ?_
    | refine wG_pure (e_ia_vw0 rfl rfl (by omega) rfl) ?_
    | refine wG_pure (e_ia_vwp rfl rfl (by omega) rfl) ?_
    | refine wG_pure (e_ia_vwm rfl rfl (by omega) (by omega) rfl) ?_
    | refine wG_pure (e_ia_vwi rfl rfl (by omega) rfl) ?_
    | refine wG_pure (e_ia_vwn rfl rfl (by omega) (by omega) rfl) ?_
    | refine wG_n rfl rfl ?_
    | refine wG_u rfl rfl ?_
    | refine wG_new (o_mks rfl rfl (by omega) (by decide)) ?_)
              exact ret_boolE (.inr rfl) ⟨_, retV_mv rfl, (decide_eq_false fun h => (h.2.2 i hi2).2.2 g3).symm⟩
            · simp only [decide_eq_false g3]
              have hw := le_tdiv ht (by omega) g3
              have hw0 : 0 ≤ wgt xs i * total (xs.getD i default).d := Int.mul_nonneg (by omega) (by omega)
              repeat (first | refine wG_call c3 rfl rfl ?_ | (first
    | refine wC_a rfl ?_
    | refine q_s rfl ?_
    | refine q_b rfl ?_
    | refine wG_nil ?_
    | refine wG_g rfl ?_
    | refine wG_pure (o_len_vwm rfl) ?_
    | refine wG_pure (o_not_d rfl) ?_
    | refine wG_p rfl (by first | exact rfl | omega) ?_
    | refine wG_pure (o_str2 rfl rfl rfl) ?_
    | refine wG_pure (e_istr rfl rfl (by omega)) ?_
    | refine wG_pure (e_istr0 rfl rfl (by omega)) ?_
    | refine wG_pure (o_not rfl) ?_
    | refine wG_pure (e_ia_vw0 rfl rfl (by omega) rfl) ?_
    | refine wG_pure (e_ia_vwp rfl rfl (by omega) rfl) ?_
    | refine wG_pure (e_ia_vwm rfl rfl (by omega) (by omega) rfl) ?_
    | refine wG_pure (e_ia_vwi rfl rfl (by omega) rfl) ?_
    | refine wG_pure (e_ia_vwn rfl rfl (by omega) (by omega) rfl) ?_
    | refine wG_n rfl rfl ?_
    | refine wG_u rfl rfl ?_
    | refine wG_new (o_mks rfl rfl (by omega) (by decide)) ?_))
              exact ⟨i + 1, ⟨hi2, lt_upN hok ⟨g1, g2, g3⟩⟩, by omega, ⟨⟨rfl, rfl⟩, ⟨rfl, rfl⟩, ⟨rfl, rfl⟩, ⟨rfl, rfl⟩, ⟨rfl, rfl⟩, ⟨rfl, rfl⟩, trivial⟩, ⟨rfl, by show 0 < 1; decide, by simp [dtR, AV.ltr]⟩, trivial⟩
        · rw [decide_eq_false g1] at c2
          repeat (first | refine wG_call c2 rfl rfl ?_ | (first
    | refine wC_a rfl ?_
    | refine q_s rfl ?_
    | refine q_b rfl ?_
    | refine wG_nil ?_
    | refine wG_g rfl ?_
    | refine wG_pure (o_len_vwm rfl) ?_
    | refine wG_pure (o_not_d rfl) ?_
    | refine wG_p rfl (by first | exact rfl | omega) ?_
    | refine wG_pure (o_str2 rfl rfl rfl) ?_
    | refine wG_pure (e_istr rfl rfl (by omega)) ?_
    | refine wG_pure (e_istr0 rfl rfl (by omega)) ?_
    | refine wG_pure (o_not rfl) ?_
    | refine wG_pure (e_ia_vw0 rfl rfl (by omega) rfl) ?_
    | refine wG_pure (e_ia_vwp rfl rfl (by omega) rfl) ?_
    | refine wG_pure (e_ia_vwm rfl rfl (by omega) (by omega) rfl) ?_
    | refine wG_pure (e_ia_vwi rfl rfl (by omega) rfl) ?_
    | refine wG_pure (e_ia_vwn rfl rfl (by omega) (by omega) rfl) ?_
    | refine wG_n rfl rfl ?_
    | refine wG_u rfl rfl ?_
    | refine wG_new (o_mks rfl rfl (by omega) (by decide)) ?_))
          exact ret_boolE (.inr rfl) ⟨_, retV_mv rfl, (decide_eq_false fun h => g1 (h.2.2 i hi2).1).symm⟩
      · have hi3 : i = xs.length := by omega
        subst hi3
        repeat (first
    | refine wC_a rfl ?_
    | refine q_s rfl ?_
    | refine q_b rfl ?_
    | refine wG_nil ?_
    | refine wG_g rfl ?_
    | refine wG_pure (o_len_vwm rfl) ?_
    | refine wG_pure (o_not_d rfl) ?_
    | refine wG_p rfl (by first | exact rfl | omega) ?_
    | refine wG_pure (o_str2 rfl rfl rfl) ?_
    | refine wG_pure (e_istr rfl rfl (by omega)) ?_
    | refine wG_pure (e_istr0 rfl rfl (by omega)) ?_
    | refine wG_pure (o_not rfl) ?_
    | refine wG_pure (e_ia_vw0 rfl rfl (by omega) rfl) ?_
    | refine wG_pure (e_ia_vwp rfl rfl (by omega) rfl) ?_
    | refine wG_pure (e_ia_vwm rfl rfl (by omega) (by omega) rfl) ?_
    | refine wG_pure (e_ia_vwi rfl rfl (by omega) rfl) ?_
    | refine wG_pure (e_ia_vwn rfl rfl (by omega) (by omega) rfl) ?_
    | refine wG_n rfl rfl ?_
    | refine wG_u rfl rfl ?_
    | refine wG_new (o_mks rfl rfl (by omega) (by decide)) ?_)
        exact ret_boolE (.inr rfl) ⟨_, retV_mv rfl, (decide_eq_true ⟨hG, hn, hok⟩).symm⟩
    · have d0 : decide ((xs.length : Int) ≠ (r.cs.length : Int)) = true := decide_eq_true (by omega)
      simp only [d0]
      repeat (first
    | refine wC_a rfl ?_
    | refine q_s rfl ?_
    | refine q_b rfl ?_
    | refine wG_nil ?_
    | refine wG_g rfl ?_
    | refine wG_pure (o_len_vwm rfl) ?_
    | refine wG_pure (o_not_d rfl) ?_
    | refine wG_p rfl (by first | exact rfl | omega) ?_
    | refine wG_pure (o_str2 rfl rfl rfl) ?_
    | refine wG_pure (e_istr rfl rfl (by omega)) ?_
    | refine wG_pure (e_istr0 rfl rfl (by omega)) ?_
    | refine wG_pure (o_not rfl) ?_
    | refine wG_pure (e_ia_vw0 rfl rfl (by omega) rfl) ?_
    | refine wG_pure (e_ia_vwp rfl rfl (by omega) rfl) ?_
    | refine wG_pure (e_ia_vwm rfl rfl (by omega) (by omega) rfl) ?_
    | refine wG_pure (e_ia_vwi rfl rfl (by omega) rfl) ?_
    | refine wG_pure (e_ia_vwn rfl rfl (by omega) (by omega) rfl) ?_
    | refine wG_n rfl rfl ?_
    | refine wG_u rfl rfl ?_
    | refine wG_new (o_mks rfl rfl (by omega) (by decide)) ?_)
      exact ret_boolE (.inr rfl) ⟨_, retV_mv rfl, (decide_eq_false fun h => hn h.2.1).symm⟩
  · rw [decide_eq_false hG] at c1
    repeat (first | refine wG_call c1 rfl rfl ?_ | (first
    | refine wC_a rfl ?_
    | refine q_s rfl ?_
    | refine q_b rfl ?_
    | refine wG_nil ?_
    | refine wG_g rfl ?_
    | refine wG_pure (o_len_vwm rfl) ?_
    | refine wG_pure (o_not_d rfl) ?_
    | refine wG_p rfl (by first | exact rfl | omega) ?_
    | refine wG_pure (o_str2 rfl rfl rfl) ?_
    | refine wG_pure (e_istr rfl rfl (by omega)) ?_
    | refine wG_pure (e_istr0 rfl rfl (by omega)) ?_
    | refine wG_pure (o_not rfl) ?_
    | refine wG_pure (e_ia_vw0 rfl rfl (by omega) rfl) ?_
    | refine wG_pure (e_ia_vwp rfl rfl (by omega) rfl) ?_
    | refine wG_pure (e_ia_vwm rfl rfl (by omega) (by omega) rfl) ?_
    | refine wG_pure (e_ia_vwi rfl rfl (by omega) rfl) ?_
    | refine wG_pure (e_ia_vwn rfl rfl (by omega) (by omega) rfl) ?_
    | refine wG_n rfl rfl ?_
    | refine wG_u rfl rfl ?_
    | refine wG_new (o_mks rfl rfl (by omega) (by decide)) ?_))
    exact ret_boolE (.inr rfl) ⟨_, retV_mv rfl, (decide_eq_false fun h => hG h.1).symm⟩

/-! ### Weights -/
noncomputable def yrU (r : Rc) (ys : List Int) (q : Nat) : Int := ys.getD (idx r (r.xs.getD q default).u).toNat default
noncomputable def yrL (r : Rc) (ys : List Int) (q : Nat) : Int := ys.getD (idx r (r.xs.getD q default).l).toNat default
def rsp (r : Rc) (ys : List Int) : Prop := ∀ q, q < r.xs.length → ¬ yrU r ys q < yrL r ys q
open Classical in
noncomputable def wtI (r : Rc) (xs : List Dn) (ys : List Int) : Int := if rsp r ys then prd xs ys ys.length else 0
open Classical in
theorem con114 (a b nn : Bool) (r : Rc) (ys : List Int) (hG : GoodR r) (hy : ys.length = r.cs.length) : Con Try.prog 114 true [.agg (rRow a b r), .vw nn (ys.map iRow)] (.bool (decide (rsp r ys))) [] := by
  refine con_of_wp mixed fun114 (by simp) [] plain_nil ?_
  unfold ac114 ro114
  simp only [zipT]
  have h10 := hG.1
  have h24 := hG.2.1
  have cI := fun m => con48 a b r m (by omega)
  repeat (first
    | refine wC_a rfl ?_
    | refine q_s rfl ?_
    | refine q_b rfl ?_
    | refine wG_nil ?_
    | refine wG_g rfl ?_
    | refine wG_pure (o_len_vwm rfl) ?_
    | refine wG_pure (o_not_d rfl) ?_
    | refine wG_p rfl (by first | exact rfl | omega) ?_
    | refine wG_pure (o_str2 rfl rfl rfl) ?_
    | refine wG_pure (e_istr rfl rfl (by omega)) ?_
    | refine wG_pure (e_istr0 rfl rfl (by omega)) ?_
    | refine wG_pure (o_not rfl) ?_
    | refine wG_pure (e_ia_vw0 rfl rfl (by omega) rfl) ?_
    | refine wG_pure (e_ia_vwp rfl rfl (by omega) rfl) ?_
    | refine wG_pure (e_ia_vwm rfl rfl (by omega) (by omega) rfl) ?_
    | refine wG_pure (e_ia_vwi rfl rfl (by omega) rfl) ?_
    | refine wG_pure (e_ia_vwn rfl rfl (by omega) (by omega) rfl) ?_
    | refine wG_n rfl rfl ?_
    | refine wG_u rfl rfl ?_
    | refine wG_new (o_mks rfl rfl (by omega) (by decide)) ?_)
  refine wC_loop Nat (fun q => ⟨[(1, .vw nn (ys.map iRow)), (2, .pt 0 0 0), (5, .int .i64 (q : Int))], [(0, some [rRow a b r])], 1⟩) (fun q => q ≤ r.xs.length ∧ ∀ j, j < q → ¬ yrU r ys j < yrL r ys j) (fun q => r.xs.length - q) 0 ⟨Nat.zero_le _, fun j hj => absurd hj (Nat.not_lt_zero _)⟩ ?_ (fun _ _ => Nat.zero_le _) ?_
  · exact ⟨⟨⟨rfl, rfl⟩, ⟨rfl, rfl⟩, ⟨rfl, rfl⟩, trivial⟩, ⟨rfl, by show 0 < 1; decide, by simp [rRow, AV.ltr]⟩, trivial⟩
  rintro q ⟨hq, hok⟩
  repeat (first
    | refine wC_a rfl ?_
    | refine q_s rfl ?_
    | refine q_b rfl ?_
    | refine wG_nil ?_
    | refine wG_g rfl ?_
    | refine wG_pure (o_len_vwm rfl) ?_
    | refine wG_pure (o_not_d rfl) ?_
    | refine wG_p rfl (by first | exact rfl | omega) ?_
    | refine wG_pure (o_str2 rfl rfl rfl) ?_
    | refine wG_pure (e_istr rfl rfl (by omega)) ?_
    | refine wG_pure (e_istr0 rfl rfl (by omega)) ?_
    | refine wG_pure (o_not rfl) ?_
    | refine wG_pure (e_ia_vw0 rfl rfl (by omega) rfl) ?_
    | refine wG_pure (e_ia_vwp rfl rfl (by omega) rfl) ?_
    | refine wG_pure (e_ia_vwm rfl rfl (by omega) (by omega) rfl) ?_
    | refine wG_pure (e_ia_vwi rfl rfl (by omega) rfl) ?_
    | refine wG_pure (e_ia_vwn rfl rfl (by omega) (by omega) rfl) ?_
    | refine wG_n rfl rfl ?_
    | refine wG_u rfl rfl ?_
    | refine wG_new (o_mks rfl rfl (by omega) (by decide)) ?_)
  refine wC_cond_d rfl (fun h4 => ?_) (fun h4 => ?_)
  · have hq2 : q < r.xs.length := by omega
    obtain ⟨g1, g2, g3, g4⟩ := hG.2.2.2 q hq2
    have b1 := idx_b r (r.xs.getD q default).u
    have b2 := idx_b r (r.xs.getD q default).l
    have c1 := cI (r.xs.getD q default).u
    have c2 := cI (r.xs.getD q default).l
    obtain ⟨A, hA⟩ : ∃ A : Nat, idx r (r.xs.getD q default).u = A := ⟨_, (Int.toNat_of_nonneg g2).symm⟩
    obtain ⟨B, hB⟩ : ∃ B : Nat, idx r (r.xs.getD q default).l = B := ⟨_, (Int.toNat_of_nonneg g3).symm⟩
    have eU : yrU r ys q = ys.getD A default := by unfold yrU; rw [hA]; rfl
    have eL : yrL r ys q = ys.getD B default := by unfold yrL; rw [hB]; rfl
    rw [hA] at c1 b1
    rw [hB] at c2 b2
    repeat (first | refine wG_call c1 rfl rfl ?_ | refine wG_call c2 rfl rfl ?_ | (first
    | refine wC_a rfl ?_
    | refine q_s rfl ?_
    | refine q_b rfl ?_
    | refine wG_nil ?_
    | refine wG_g rfl ?_
    | refine wG_pure (o_len_vwm rfl) ?_
    | refine wG_pure (o_not_d rfl) ?_
    | refine wG_p rfl (by first | exact rfl | omega) ?_
    | refine wG_pure (o_str2 rfl rfl rfl) ?_
    | refine wG_pure (e_istr rfl rfl (by omega)) ?_
    | refine wG_pure (e_istr0 rfl rfl (by omega)) ?_
    | refine wG_pure (o_not rfl) ?_
    | refine wG_pure (e_ia_vw0 rfl rfl (by omega) rfl) ?_
    | refine wG_pure (e_ia_vwp rfl rfl (by omega) rfl) ?_
    | refine wG_pure (e_ia_vwm rfl rfl (by omega) (by omega) rfl) ?_
    | refine wG_pure (e_ia_vwi rfl rfl (by omega) rfl) ?_
    | refine wG_pure (e_ia_vwn rfl rfl (by omega) (by omega) rfl) ?_
    | refine wG_n rfl rfl ?_
    | refine wG_u rfl rfl ?_
    | refine wG_new (o_mks rfl rfl (by omega) (by decide)) ?_))
    refine wC_cond_d rfl (fun h5 => ?_) (fun h5 => ?_)
    · repeat (first
    | refine wC_a rfl ?_
    | refine q_s rfl ?_
    | refine q_b rfl ?_
    | refine wG_nil ?_
    | refine wG_g rfl ?_
    | refine wG_pure (o_len_vwm rfl) ?_
    | refine wG_pure (o_not_d rfl) ?_
    | refine wG_p rfl (by first | exact rfl | omega) ?_
    | refine wG_pure (o_str2 rfl rfl rfl) ?_
    | refine wG_pure (e_istr rfl rfl (by omega)) ?_
    | refine wG_pure (e_istr0 rfl rfl (by omega)) ?_
    | refine wG_pure (o_not rfl) ?_
    | refine wG_pure (e_ia_vw0 rfl rfl (by omega) rfl) ?_
    | refine wG_pure (e_ia_vwp rfl rfl (by omega) rfl) ?_
    | refine wG_pure (e_ia_vwm rfl rfl (by omega) (by omega) rfl) ?_
    | refine wG_pure (e_ia_vwi rfl rfl (by omega) rfl) ?_
    | refine wG_pure (e_ia_vwn rfl rfl (by omega) (by omega) rfl) ?_
    | refine wG_n rfl rfl ?_
    | refine wG_u rfl rfl ?_
    | refine wG_new (o_mks rfl rfl (by omega) (by decide)) ?_)
      exact ret_boolE (.inr rfl) ⟨_, retV_mv rfl, (decide_eq_false fun h => h q hq2 (by rw [eU, eL]; exact h5)).symm⟩
    · repeat (first
    | refine wC_a rfl ?_
    | refine q_s rfl ?_
    | refine q_b rfl ?_
    | refine wG_nil ?_
    | refine wG_g rfl ?_
    | refine wG_pure (o_len_vwm rfl) ?_
    | refine wG_pure (o_not_d rfl) ?_
    | refine wG_p rfl (by first | exact rfl | omega) ?_
    | refine wG_pure (o_str2 rfl rfl rfl) ?_
    | refine wG_pure (e_istr rfl rfl (by omega)) ?_
    | refine wG_pure (e_istr0 rfl rfl (by omega)) ?_
    | refine wG_pure (o_not rfl) ?_
    | refine wG_pure (e_ia_vw0 rfl rfl (by omega) rfl) ?_
    | refine wG_pure (e_ia_vwp rfl rfl (by omega) rfl) ?_
    | refine wG_pure (e_ia_vwm rfl rfl (by omega) (by omega) rfl) ?_
    | refine wG_pure (e_ia_vwi rfl rfl (by omega) rfl) ?_
    | refine wG_pure (e_ia_vwn rfl rfl (by omega) (by omega) rfl) ?_
    | refine wG_n rfl rfl ?_
    | refine wG_u rfl rfl ?_
    | refine wG_new (o_mks rfl rfl (by omega) (by decide)) ?_)
      exact ⟨q + 1, ⟨hq2, lt_upN hok (by rw [eU, eL]; exact h5)⟩, by omega, ⟨⟨rfl, rfl⟩, ⟨rfl, rfl⟩, ⟨rfl, rfl⟩, trivial⟩, ⟨rfl, by show 0 < 1; decide, by simp [rRow, AV.ltr]⟩, trivial⟩
  · have hq3 : q = r.xs.length := by omega
    subst hq3
    repeat (first
    | refine wC_a rfl ?_
    | refine q_s rfl ?_
    | refine q_b rfl ?_
    | refine wG_nil ?_
    | refine wG_g rfl ?_
    | refine wG_pure (o_len_vwm rfl) ?_
    | refine wG_pure (o_not_d rfl) ?_
    | refine wG_p rfl (by first | exact rfl | omega) ?_
    | refine wG_pure (o_str2 rfl rfl rfl) ?_
    | refine wG_pure (e_istr rfl rfl (by omega)) ?_
    | refine wG_pure (e_istr0 rfl rfl (by omega)) ?_
    | refine wG_pure (o_not rfl) ?_
    | refine wG_pure (e_ia_vw0 rfl rfl (by omega) rfl) ?_
    | refine wG_pure (e_ia_vwp rfl rfl (by omega) rfl) ?_
    | refine wG_pure (e_ia_vwm rfl rfl (by omega) (by omega) rfl) ?_
    | refine wG_pure (e_ia_vwi rfl rfl (by omega) rfl) ?_
    | refine wG_pure (e_ia_vwn rfl rfl (by omega) (by omega) rfl) ?_
    | refine wG_n rfl rfl ?_
    | refine wG_u rfl rfl ?_
    | refine wG_new (o_mks rfl rfl (by omega) (by decide)) ?_)
    exact ret_boolE (.inr rfl) ⟨_, retV_mv rfl, (decide_eq_true (p := rsp r ys) hok).symm⟩
theorem con65 (a b c nn : Bool) (r : Rc) (xs : List Dn) (ys : List Int) (hG : GoodN r xs) (hy : ys.length = xs.length) : Con Try.prog 65 true [.agg (dtR a b c r xs), .vw nn (ys.map iRow)] (.int .i64 (wtI r xs ys)) [] := by
  classical
  refine con_of_wp mixed fun65 (by simp) [] plain_nil ?_
  unfold ac65 ro65
  simp only [zipT]
  have h10 := hG.1.1
  have hn := hG.2.1
  have c1 := con114 a b nn r ys hG.1 (by omega)
  by_cases hr : rsp r ys
  · rw [decide_eq_true hr] at c1
    rw [show wtI r xs ys = prd xs ys ys.length from if_pos hr]
    repeat (first | refine wG_call c1 rfl rfl ?_ | (first
    | refine wC_a rfl ?_
    | refine q_s rfl ?_
    | refine q_b rfl ?_
    | refine wG_nil ?_
    | refine wG_g rfl ?_
    | refine wG_pure (o_len_vwm rfl) ?_
    | refine wG_pure (o_not_d rfl) ?_
    | refine wG_p rfl (by first | exact rfl | omega) ?_
    | refine wG_pure (o_str2 rfl rfl rfl) ?_
    | refine wG_pure (e_istr rfl rfl (by omega)) ?_
    | refine wG_pure (e_istr0 rfl rfl (by omega)) ?_
    | refine wG_pure (o_not rfl) ?_
    | refine wG_pure (e_ia_vw0 rfl rfl (by omega) rfl) ?_
    | refine wG_pure (e_ia_vwp rfl rfl (by omega) rfl) ?_
    | refine wG_pure (e_ia_vwm rfl rfl (by omega) (by omega) rfl) ?_
    | refine wG_pure (e_ia_vwi rfl rfl (by omega) rfl) ?_
    | refine wG_pure (e_ia_vwn rfl rfl (by omega) (by omega) rfl) ?_
    | refine wG_n rfl rfl ?_
    | refine wG_u rfl rfl ?_
    | refine wG_new (o_mks rfl rfl (by omega) (by decide)) ?_))
    refine wC_loop Nat (fun i => ⟨[(1, .vw nn (ys.map iRow)), (2, .pt 0 0 0), (5, .int .i64 (prd xs ys i)), (6, .int .i64 (i : Int))], [(0, some [dtR a b c r xs])], 1⟩) (fun i => i ≤ ys.length) (fun i => ys.length - i) 0 (Nat.zero_le _) ?_ (fun _ _ => Nat.zero_le _) ?_
    · exact ⟨⟨⟨rfl, rfl⟩, ⟨rfl, rfl⟩, ⟨rfl, rfl⟩, ⟨rfl, rfl⟩, trivial⟩, ⟨rfl, by show 0 < 1; decide, by simp [dtR, AV.ltr]⟩, trivial⟩
    intro i hi
    repeat (first
    | refine wC_a rfl ?_
    | refine q_s rfl ?_
    | refine q_b rfl ?_
    | refine wG_nil ?_
    | refine wG_g rfl ?_
    | refine wG_pure (o_len_vwm rfl) ?_
    | refine wG_pure (o_not_d rfl) ?_
    | refine wG_p rfl (by first | exact rfl | omega) ?_
    | refine wG_pure (o_str2 rfl rfl rfl) ?_
    | refine wG_pure (e_istr rfl rfl (by omega)) ?_
    | refine wG_pure (e_istr0 rfl rfl (by omega)) ?_
    | refine wG_pure (o_not rfl) ?_
    | refine wG_pure (e_ia_vw0 rfl rfl (by omega) rfl) ?_
    | refine wG_pure (e_ia_vwp rfl rfl (by omega) rfl) ?_
    | refine wG_pure (e_ia_vwm rfl rfl (by omega) (by omega) rfl) ?_
    | refine wG_pure (e_ia_vwi rfl rfl (by omega) rfl) ?_
    | refine wG_pure (e_ia_vwn rfl rfl (by omega) (by omega) rfl) ?_
    | refine wG_n rfl rfl ?_
    | refine wG_u rfl rfl ?_
    | refine wG_new (o_mks rfl rfl (by omega) (by decide)) ?_)
    refine wC_cond_d rfl (fun h5 => ?_) (fun h5 => ?_)
    · have hi2 : i < xs.length := by omega
      have hi3 : i < ys.length := by omega
      have hb := prd_b (xs := xs) (ys := ys) (i + 1) (fun j hj => hG.2.2 j (by omega))
      have hwb := (okN_b (xs := xs) (i + 1) (fun j hj => hG.2.2 j (by omega))).2.2
      have c2 := con88 (xs.getD i default).b (xs.getD i default).d (hG.2.2 i hi2).1 (ys.getD i default)
      rw [prd] at hb
      repeat (first | refine wG_call c2 rfl rfl ?_ | (first
    | refine wC_a rfl ?_
    | refine q_s rfl ?_
    | refine q_b rfl ?_
    | refine wG_nil ?_
    | refine wG_g rfl ?_
    | refine wG_pure (o_len_vwm rfl) ?_
    | refine wG_pure (o_not_d rfl) ?_
    | refine wG_p rfl (by first | exact rfl | omega) ?_
    | refine wG_pure (o_str2 rfl rfl rfl) ?_
    | refine wG_pure (e_istr rfl rfl (by omega)) ?_
    | refine wG_pure (e_istr0 rfl rfl (by omega)) ?_
    | refine wG_pure (o_not rfl) ?_
    | refine wG_pure (e_ia_vw0 rfl rfl (by omega) rfl) ?_
    | refine wG_pure (e_ia_vwp rfl rfl (by omega) rfl) ?_
    | refine wG_pure (e_ia_vwm rfl rfl (by omega) (by omega) rfl) ?_
    | refine wG_pure (e_ia_vwi rfl rfl (by omega) rfl) ?_
    | refine wG_pure (e_ia_vwn rfl rfl (by omega) (by omega) rfl) ?_
    | refine wG_n rfl rfl ?_
    | refine wG_u rfl rfl ?_
    | refine wG_new (o_mks rfl rfl (by omega) (by decide)) ?_))
      exact ⟨i + 1, hi3, by omega, ⟨⟨rfl, rfl⟩, ⟨rfl, rfl⟩, ⟨rfl, rfl⟩, ⟨rfl, rfl⟩, trivial⟩, ⟨rfl, by show 0 < 1; decide, by simp [dtR, AV.ltr]⟩, trivial⟩
    · have hi3 : i = ys.length := by omega
      subst hi3
      repeat (first
    | refine wC_a rfl ?_
    | refine q_s rfl ?_
    | refine q_b rfl ?_
    | refine wG_nil ?_
    | refine wG_g rfl ?_
    | refine wG_pure (o_len_vwm rfl) ?_
    | refine wG_pure (o_not_d rfl) ?_
    | refine wG_p rfl (by first | exact rfl | omega) ?_
    | refine wG_pure (o_str2 rfl rfl rfl) ?_
    | refine wG_pure (e_istr rfl rfl (by omega)) ?_
    | refine wG_pure (e_istr0 rfl rfl (by omega)) ?_
    | refine wG_pure (o_not rfl) ?_
    | refine wG_pure (e_ia_vw0 rfl rfl (by omega) rfl) ?_
    | refine wG_pure (e_ia_vwp rfl rfl (by omega) rfl) ?_
    | refine wG_pure (e_ia_vwm rfl rfl (by omega) (by omega) rfl) ?_
    | refine wG_pure (e_ia_vwi rfl rfl (by omega) rfl) ?_
    | refine wG_pure (e_ia_vwn rfl rfl (by omega) (by omega) rfl) ?_
    | refine wG_n rfl rfl ?_
    | refine wG_u rfl rfl ?_
    | refine wG_new (o_mks rfl rfl (by omega) (by decide)) ?_)
      exact ret_intE (.inr rfl) ⟨_, retV_mv rfl, rfl⟩
  · rw [decide_eq_false hr] at c1
    rw [show wtI r xs ys = 0 from if_neg hr]
    repeat (first | refine wG_call c1 rfl rfl ?_ | (first
    | refine wC_a rfl ?_
    | refine q_s rfl ?_
    | refine q_b rfl ?_
    | refine wG_nil ?_
    | refine wG_g rfl ?_
    | refine wG_pure (o_len_vwm rfl) ?_
    | refine wG_pure (o_not_d rfl) ?_
    | refine wG_p rfl (by first | exact rfl | omega) ?_
    | refine wG_pure (o_str2 rfl rfl rfl) ?_
    | refine wG_pure (e_istr rfl rfl (by omega)) ?_
    | refine wG_pure (e_istr0 rfl rfl (by omega)) ?_
    | refine wG_pure (o_not rfl) ?_
    | refine wG_pure (e_ia_vw0 rfl rfl (by omega) rfl) ?_
    | refine wG_pure (e_ia_vwp rfl rfl (by omega) rfl) ?_
    | refine wG_pure (e_ia_vwm rfl rfl (by omega) (by omega) rfl) ?_
    | refine wG_pure (e_ia_vwi rfl rfl (by omega) rfl) ?_
    | refine wG_pure (e_ia_vwn rfl rfl (by omega) (by omega) rfl) ?_
    | refine wG_n rfl rfl ?_
    | refine wG_u rfl rfl ?_
    | refine wG_new (o_mks rfl rfl (by omega) (by decide)) ?_))
    exact ret_intE (.inr rfl) ⟨_, retV_mv rfl, rfl⟩
theorem con66 (a b c nn : Bool) (r : Rc) (xs : List Dn) (ys : List Int) (hG : GoodN r xs) (hy : ys.length = xs.length) : Con Try.prog 66 true [.agg (dtR a b c r xs), .vw nn (ys.map iRow)] (.int .i64 (wtI r xs ys)) [] := by
  classical
  refine con_of_wp mixed fun66 (by simp) [] plain_nil ?_
  unfold ac66 ro66
  simp only [zipT]
  have h10 := hG.1.1
  have h24 := hG.1.2.1
  have hn := hG.2.1
  have cI := fun m => con53 a b r m (by omega)
  repeat (first
    | refine wC_a rfl ?_
    | refine q_s rfl ?_
    | refine q_b rfl ?_
    | refine wG_nil ?_
    | refine wG_g rfl ?_
    | refine wG_pure (o_len_vwm rfl) ?_
    | refine wG_pure (o_not_d rfl) ?_
    | refine wG_p rfl (by first | exact rfl | omega) ?_
    | refine wG_pure (o_str2 rfl rfl rfl) ?_
    | refine wG_pure (e_istr rfl rfl (by omega)) ?_
    | refine wG_pure (e_istr0 rfl rfl (by omega)) ?_
    | refine wG_pure (o_not rfl) ?_
    | refine wG_pure (e_ia_vw0 rfl rfl (by omega) rfl) ?_
    | refine wG_pure (e_ia_vwp rfl rfl (by omega) rfl) ?_
    | refine wG_pure (e_ia_vwm rfl rfl (by omega) (by omega) rfl) ?_
    | refine wG_pure (e_ia_vwi rfl rfl (by omega) rfl) ?_
    | refine wG_pure (e_ia_vwn rfl rfl (by omega) (by omega) rfl) ?_
    | refine wG_n rfl rfl ?_
    | refine wG_u rfl rfl ?_
    | refine wG_new (o_mks rfl rfl (by omega) (by decide)) ?_)
  refine wC_loop Nat (fun q => ⟨[(1, .vw nn (ys.map iRow)), (2, .pt 0 0 0), (12, .vw b (r.xs.map xRow)), (13, .int .i64 (r.xs.length : Int)), (14, .int .i64 (q : Int))], [(0, some [dtR a b c r xs])], 1⟩) (fun q => q ≤ r.xs.length ∧ ∀ j, j < q → ¬ yrU r ys j < yrL r ys j) (fun q => r.xs.length - q) 0 ⟨Nat.zero_le _, fun j hj => absurd hj (Nat.not_lt_zero _)⟩ ?_ (fun _ _ => Nat.zero_le _) ?_
  · exact ⟨⟨⟨rfl, rfl⟩, ⟨rfl, rfl⟩, ⟨rfl, rfl⟩, ⟨rfl, rfl⟩, ⟨rfl, rfl⟩, trivial⟩, ⟨rfl, by show 0 < 1; decide, by simp [dtR, AV.ltr]⟩, trivial⟩
  rintro q ⟨hq, hok⟩
  repeat (first
    | refine wC_a rfl ?_
    | refine q_s rfl ?_
    | refine q_b rfl ?_
    | refine wG_nil ?_
    | refine wG_g rfl ?_
    | refine wG_pure (o_len_vwm rfl) ?_
    | refine wG_pure (o_not_d rfl) ?_
    | refine wG_p rfl (by first | exact rfl | omega) ?_
    | refine wG_pure (o_str2 rfl rfl rfl) ?_
    | refine wG_pure (e_istr rfl rfl (by omega)) ?_
    | refine wG_pure (e_istr0 rfl rfl (by omega)) ?_
    | refine wG_pure (o_not rfl) ?_
    | refine wG_pure (e_ia_vw0 rfl rfl (by omega) rfl) ?_
    | refine wG_pure (e_ia_vwp rfl rfl (by omega) rfl) ?_
    | refine wG_pure (e_ia_vwm rfl rfl (by omega) (by omega) rfl) ?_
    | refine wG_pure (e_ia_vwi rfl rfl (by omega) rfl) ?_
    | refine wG_pure (e_ia_vwn rfl rfl (by omega) (by omega) rfl) ?_
    | refine wG_n rfl rfl ?_
    | refine wG_u rfl rfl ?_
    | refine wG_new (o_mks rfl rfl (by omega) (by decide)) ?_)
  refine wC_cond_d rfl (fun h4 => ?_) (fun h4 => ?_)
  · have hq2 : q < r.xs.length := by omega
    obtain ⟨g1, g2, g3, g4⟩ := hG.1.2.2.2 q hq2
    have b1 := idx_b r (r.xs.getD q default).u
    have b2 := idx_b r (r.xs.getD q default).l
    have c1 := cI (r.xs.getD q default).u
    have c2 := cI (r.xs.getD q default).l
    obtain ⟨A, hA⟩ : ∃ A : Nat, idx r (r.xs.getD q default).u = A := ⟨_, (Int.toNat_of_nonneg g2).symm⟩
    obtain ⟨B, hB⟩ : ∃ B : Nat, idx r (r.xs.getD q default).l = B := ⟨_, (Int.toNat_of_nonneg g3).symm⟩
    have eU : yrU r ys q = ys.getD A default := by unfold yrU; rw [hA]; rfl
    have eL : yrL r ys q = ys.getD B default := by unfold yrL; rw [hB]; rfl
    rw [hA] at c1 b1
    rw [hB] at c2 b2
    repeat (first | refine wG_call c1 rfl rfl ?_ | refine wG_call c2 rfl rfl ?_ | (first
    | refine wC_a rfl ?_
    | refine q_s rfl ?_
    | refine q_b rfl ?_
    | refine wG_nil ?_
    | refine wG_g rfl ?_
    | refine wG_pure (o_len_vwm rfl) ?_
    | refine wG_pure (o_not_d rfl) ?_
    | refine wG_p rfl (by first | exact rfl | omega) ?_
    | refine wG_pure (o_str2 rfl rfl rfl) ?_
    | refine wG_pure (e_istr rfl rfl (by omega)) ?_
    | refine wG_pure (e_istr0 rfl rfl (by omega)) ?_
    | refine wG_pure (o_not rfl) ?_
    | refine wG_pure (e_ia_vw0 rfl rfl (by omega) rfl) ?_
    | refine wG_pure (e_ia_vwp rfl rfl (by omega) rfl) ?_
    | refine wG_pure (e_ia_vwm rfl rfl (by omega) (by omega) rfl) ?_
    | refine wG_pure (e_ia_vwi rfl rfl (by omega) rfl) ?_
    | refine wG_pure (e_ia_vwn rfl rfl (by omega) (by omega) rfl) ?_
    | refine wG_n rfl rfl ?_
    | refine wG_u rfl rfl ?_
    | refine wG_new (o_mks rfl rfl (by omega) (by decide)) ?_))
    refine wC_cond_d rfl (fun h5 => ?_) (fun h5 => ?_)
    · rw [show wtI r xs ys = 0 from if_neg fun h => h q hq2 (by rw [eU, eL]; exact h5)]
      repeat (first
    | refine wC_a rfl ?_
    | refine q_s rfl ?_
    | refine q_b rfl ?_
    | refine wG_nil ?_
    | refine wG_g rfl ?_
    | refine wG_pure (o_len_vwm rfl) ?_
    | refine wG_pure (o_not_d rfl) ?_
    | refine wG_p rfl (by first | exact rfl | omega) ?_
    | refine wG_pure (o_str2 rfl rfl rfl) ?_
    | refine wG_pure (e_istr rfl rfl (by omega)) ?_
    | refine wG_pure (e_istr0 rfl rfl (by omega)) ?_
    | refine wG_pure (o_not rfl) ?_
    | refine wG_pure (e_ia_vw0 rfl rfl (by omega) rfl) ?_
    | refine wG_pure (e_ia_vwp rfl rfl (by omega) rfl) ?_
    | refine wG_pure (e_ia_vwm rfl rfl (by omega) (by omega) rfl) ?_
    | refine wG_pure (e_ia_vwi rfl rfl (by omega) rfl) ?_
    | refine wG_pure (e_ia_vwn rfl rfl (by omega) (by omega) rfl) ?_
    | refine wG_n rfl rfl ?_
    | refine wG_u rfl rfl ?_
    | refine wG_new (o_mks rfl rfl (by omega) (by decide)) ?_)
      exact ret_intE (.inr rfl) ⟨_, retV_mv rfl, rfl⟩
    · repeat (first
    | refine wC_a rfl ?_
    | refine q_s rfl ?_
    | refine q_b rfl ?_
    | refine wG_nil ?_
    | refine wG_g rfl ?_
    | refine wG_pure (o_len_vwm rfl) ?_
    | refine wG_pure (o_not_d rfl) ?_
    | refine wG_p rfl (by first | exact rfl | omega) ?_
    | refine wG_pure (o_str2 rfl rfl rfl) ?_
    | refine wG_pure (e_istr rfl rfl (by omega)) ?_
    | refine wG_pure (e_istr0 rfl rfl (by omega)) ?_
    | refine wG_pure (o_not rfl) ?_
    | refine wG_pure (e_ia_vw0 rfl rfl (by omega) rfl) ?_
    | refine wG_pure (e_ia_vwp rfl rfl (by omega) rfl) ?_
    | refine wG_pure (e_ia_vwm rfl rfl (by omega) (by omega) rfl) ?_
    | refine wG_pure (e_ia_vwi rfl rfl (by omega) rfl) ?_
    | refine wG_pure (e_ia_vwn rfl rfl (by omega) (by omega) rfl) ?_
    | refine wG_n rfl rfl ?_
    | refine wG_u rfl rfl ?_
    | refine wG_new (o_mks rfl rfl (by omega) (by decide)) ?_)
      exact ⟨q + 1, ⟨hq2, lt_upN hok (by rw [eU, eL]; exact h5)⟩, by omega, ⟨⟨rfl, rfl⟩, ⟨rfl, rfl⟩, ⟨rfl, rfl⟩, ⟨rfl, rfl⟩, ⟨rfl, rfl⟩, trivial⟩, ⟨rfl, by show 0 < 1; decide, by simp [dtR, AV.ltr]⟩, trivial⟩
  · have hq3 : q = r.xs.length := by omega
    subst hq3
    rw [show wtI r xs ys = prd xs ys ys.length from if_pos hok]
    repeat (first
    | refine wC_a rfl ?_
    | refine q_s rfl ?_
    | refine q_b rfl ?_
    | refine wG_nil ?_
    | refine wG_g rfl ?_
    | refine wG_pure (o_len_vwm rfl) ?_
    | refine wG_pure (o_not_d rfl) ?_
    | refine wG_p rfl (by first | exact rfl | omega) ?_
    | refine wG_pure (o_str2 rfl rfl rfl) ?_
    | refine wG_pure (e_istr rfl rfl (by omega)) ?_
    | refine wG_pure (e_istr0 rfl rfl (by omega)) ?_
    | refine wG_pure (o_not rfl) ?_
    | refine wG_pure (e_ia_vw0 rfl rfl (by omega) rfl) ?_
    | refine wG_pure (e_ia_vwp rfl rfl (by omega) rfl) ?_
    | refine wG_pure (e_ia_vwm rfl rfl (by omega) (by omega) rfl) ?_
    | refine wG_pure (e_ia_vwi rfl rfl (by omega) rfl) ?_
    | refine wG_pure (e_ia_vwn rfl rfl (by omega) (by omega) rfl) ?_
    | refine wG_n rfl rfl ?_
    | refine wG_u rfl rfl ?_
    | refine wG_new (o_mks rfl rfl (by omega) (by decide)) ?_)
    refine wC_loop Nat (fun i => ⟨[(2, .pt 0 0 0), (7, .int .i64 (prd xs ys i)), (36, .vw nn (ys.map iRow)), (37, .int .i64 (ys.length : Int)), (38, .int .i64 (i : Int))], [(0, some [dtR a b c r xs])], 1⟩) (fun i => i ≤ ys.length) (fun i => ys.length - i) 0 (Nat.zero_le _) ?_ (fun _ _ => Nat.zero_le _) ?_
    · exact ⟨⟨⟨rfl, rfl⟩, ⟨rfl, rfl⟩, ⟨rfl, rfl⟩, ⟨rfl, rfl⟩, ⟨rfl, rfl⟩, trivial⟩, ⟨rfl, by show 0 < 1; decide, by simp [dtR, AV.ltr]⟩, trivial⟩
    intro i hi
    repeat (first
    | refine wC_a rfl ?_
    | refine q_s rfl ?_
    | refine q_b rfl ?_
    | refine wG_nil ?_
    | refine wG_g rfl ?_
    | refine wG_pure (o_len_vwm rfl) ?_
    | refine wG_pure (o_not_d rfl) ?_
    | refine wG_p rfl (by first | exact rfl | omega) ?_
    | refine wG_pure (o_str2 rfl rfl rfl) ?_
    | refine wG_pure (e_istr rfl rfl (by omega)) ?_
    | refine wG_pure (e_istr0 rfl rfl (by omega)) ?_
    | refine wG_pure (o_not rfl) ?_
    | refine wG_pure (e_ia_vw0 rfl rfl (by omega) rfl) ?_
    | refine wG_pure (e_ia_vwp rfl rfl (by omega) rfl) ?_
    | refine wG_pure (e_ia_vwm rfl rfl (by omega) (by omega) rfl) ?_
    | refine wG_pure (e_ia_vwi rfl rfl (by omega) rfl) ?_
    | refine wG_pure (e_ia_vwn rfl rfl (by omega) (by omega) rfl) ?_
    | refine wG_n rfl rfl ?_
    | refine wG_u rfl rfl ?_
    | refine wG_new (o_mks rfl rfl (by omega) (by decide)) ?_)
    refine wC_cond_d rfl (fun h5 => ?_) (fun h5 => ?_)
    · have hi2 : i < xs.length := by omega
      have hi3 : i < ys.length := by omega
      have hb := prd_b (xs := xs) (ys := ys) (i + 1) (fun j hj => hG.2.2 j (by omega))
      have hwb := (okN_b (xs := xs) (i + 1) (fun j hj => hG.2.2 j (by omega))).2.2
      have c2 := con97 (xs.getD i default).b (xs.getD i default).d (hG.2.2 i hi2).1 (ys.getD i default)
      rw [prd] at hb
      repeat (first | refine wG_call c2 rfl rfl ?_ | (first
    | refine wC_a rfl ?_
    | refine q_s rfl ?_
    | refine q_b rfl ?_
    | refine wG_nil ?_
    | refine wG_g rfl ?_
    | refine wG_pure (o_len_vwm rfl) ?_
    | refine wG_pure (o_not_d rfl) ?_
    | refine wG_p rfl (by first | exact rfl | omega) ?_
    | refine wG_pure (o_str2 rfl rfl rfl) ?_
    | refine wG_pure (e_istr rfl rfl (by omega)) ?_
    | refine wG_pure (e_istr0 rfl rfl (by omega)) ?_
    | refine wG_pure (o_not rfl) ?_
    | refine wG_pure (e_ia_vw0 rfl rfl (by omega) rfl) ?_
    | refine wG_pure (e_ia_vwp rfl rfl (by omega) rfl) ?_
    | refine wG_pure (e_ia_vwm rfl rfl (by omega) (by omega) rfl) ?_
    | refine wG_pure (e_ia_vwi rfl rfl (by omega) rfl) ?_
    | refine wG_pure (e_ia_vwn rfl rfl (by omega) (by omega) rfl) ?_
    | refine wG_n rfl rfl ?_
    | refine wG_u rfl rfl ?_
    | refine wG_new (o_mks rfl rfl (by omega) (by decide)) ?_))
      exact ⟨i + 1, hi3, by omega, ⟨⟨rfl, rfl⟩, ⟨rfl, rfl⟩, ⟨rfl, rfl⟩, ⟨rfl, rfl⟩, ⟨rfl, rfl⟩, trivial⟩, ⟨rfl, by show 0 < 1; decide, by simp [dtR, AV.ltr]⟩, trivial⟩
    · have hi3 : i = ys.length := by omega
      subst hi3
      repeat (first
    | refine wC_a rfl ?_
    | refine q_s rfl ?_
    | refine q_b rfl ?_
    | refine wG_nil ?_
    | refine wG_g rfl ?_
    | refine wG_pure (o_len_vwm rfl) ?_
    | refine wG_pure (o_not_d rfl) ?_
    | refine wG_p rfl (by first | exact rfl | omega) ?_
    | refine wG_pure (o_str2 rfl rfl rfl) ?_
    | refine wG_pure (e_istr rfl rfl (by omega)) ?_
    | refine wG_pure (e_istr0 rfl rfl (by omega)) ?_
    | refine wG_pure (o_not rfl) ?_
    | refine wG_pure (e_ia_vw0 rfl rfl (by omega) rfl) ?_
    | refine wG_pure (e_ia_vwp rfl rfl (by omega) rfl) ?_
    | refine wG_pure (e_ia_vwm rfl rfl (by omega) (by omega) rfl) ?_
    | refine wG_pure (e_ia_vwi rfl rfl (by omega) rfl) ?_
    | refine wG_pure (e_ia_vwn rfl rfl (by omega) (by omega) rfl) ?_
    | refine wG_n rfl rfl ?_
    | refine wG_u rfl rfl ?_
    | refine wG_new (o_mks rfl rfl (by omega) (by decide)) ?_)
      exact ret_intE (.inr rfl) ⟨_, retV_mv rfl, rfl⟩
def okY (r : Rc) (xs : List Dn) (ys : List Int) : Prop := GoodN r xs ∧ ys.length = xs.length
theorem con25_yes (a b c nn : Bool) (r : Rc) (xs : List Dn) (ys : List Int) (h1 : r.cs.length ≤ 1048576) (h2 : r.xs.length ≤ 1048576) (h3 : xs.length ≤ 1048576) (hL : LenN xs 1048576) (hk : okY r xs ys) : Con Try.prog 25 true [.agg (dtR a b c r xs), .vw nn (ys.map iRow)] (.tup [.int .i64 (wtI r xs ys), .bool true]) [] := by
  classical
  refine con_of_wp mixed fun25 (by simp) [] plain_nil ?_
  unfold ac25 ro25
  simp only [zipT]
  have c1 := con47 a b c r xs h1 h2 h3 hL
  rw [decide_eq_true hk.1] at c1
  have c2 := con65 a b c nn r xs ys hk.1 hk.2
  have d0 : decide ((ys.length : Int) ≠ (xs.length : Int)) = false := decide_eq_false (fun h => h (by have := hk.2; omega))
  repeat (first | refine wG_call c1 rfl rfl ?_ | (first
    | refine wC_a rfl ?_
    | refine q_s rfl ?_
    | refine q_b rfl ?_
    | refine wG_nil ?_
    | refine wG_g rfl ?_
    | refine wG_pure (o_len_vwm rfl) ?_
    | refine wG_pure (o_not_d rfl) ?_
    | refine wG_p rfl (by first | exact rfl | omega) ?_
    | refine wG_pure (o_str2 rfl rfl rfl) ?_
    | refine wG_pure (e_istr rfl rfl (by omega)) ?_
    | refine wG_pure (e_istr0 rfl rfl (by omega)) ?_
    | refine wG_pure (o_not rfl) ?_
    | refine wG_pure (e_ia_vw0 rfl rfl (by omega) rfl) ?_
    | refine wG_pure (e_ia_vwp rfl rfl (by omega) rfl) ?_
    | refine wG_pure (e_ia_vwm rfl rfl (by omega) (by omega) rfl) ?_
    | refine wG_pure (e_ia_vwi rfl rfl (by omega) rfl) ?_
    | refine wG_pure (e_ia_vwn rfl rfl (by omega) (by omega) rfl) ?_
    | refine wG_n rfl rfl ?_
    | refine wG_u rfl rfl ?_
    | refine wG_new (o_mks rfl rfl (by omega) (by decide)) ?_))
  simp only [d0]
  repeat (first | refine wG_call c2 rfl rfl ?_ | (first
    | refine wC_a rfl ?_
    | refine q_s rfl ?_
    | refine q_b rfl ?_
    | refine wG_nil ?_
    | refine wG_g rfl ?_
    | refine wG_pure (o_len_vwm rfl) ?_
    | refine wG_pure (o_not_d rfl) ?_
    | refine wG_p rfl (by first | exact rfl | omega) ?_
    | refine wG_pure (o_str2 rfl rfl rfl) ?_
    | refine wG_pure (e_istr rfl rfl (by omega)) ?_
    | refine wG_pure (e_istr0 rfl rfl (by omega)) ?_
    | refine wG_pure (o_not rfl) ?_
    | refine wG_pure (e_ia_vw0 rfl rfl (by omega) rfl) ?_
    | refine wG_pure (e_ia_vwp rfl rfl (by omega) rfl) ?_
    | refine wG_pure (e_ia_vwm rfl rfl (by omega) (by omega) rfl) ?_
    | refine wG_pure (e_ia_vwi rfl rfl (by omega) rfl) ?_
    | refine wG_pure (e_ia_vwn rfl rfl (by omega) (by omega) rfl) ?_
    | refine wG_n rfl rfl ?_
    | refine wG_u rfl rfl ?_
    | refine wG_new (o_mks rfl rfl (by omega) (by decide)) ?_))
  exact ret_pl (.inr rfl) (retVs_2 (retV_mv rfl) (retV_mv rfl)) rfl rfl (by simp)
theorem con25_no (a b c nn : Bool) (r : Rc) (xs : List Dn) (ys : List Int) (h1 : r.cs.length ≤ 1048576) (h2 : r.xs.length ≤ 1048576) (h3 : xs.length ≤ 1048576) (hL : LenN xs 1048576) (hk : ¬ okY r xs ys) : Con Try.prog 25 true [.agg (dtR a b c r xs), .vw nn (ys.map iRow)] (.tup [.int .i64 0, .bool false]) [] := by
  classical
  refine con_of_wp mixed fun25 (by simp) [] plain_nil ?_
  unfold ac25 ro25
  simp only [zipT]
  have c1 := con47 a b c r xs h1 h2 h3 hL
  by_cases hG : GoodN r xs
  · rw [decide_eq_true hG] at c1
    have d0 : decide ((ys.length : Int) ≠ (xs.length : Int)) = true := decide_eq_true (fun h => hk ⟨hG, by omega⟩)
    repeat (first | refine wG_call c1 rfl rfl ?_ | (first
    | refine wC_a rfl ?_
    | refine q_s rfl ?_
    | refine q_b rfl ?_
    | refine wG_nil ?_
    | refine wG_g rfl ?_
    | refine wG_pure (o_len_vwm rfl) ?_
    | refine wG_pure (o_not_d rfl) ?_
    | refine wG_p rfl (by first | exact rfl | omega) ?_
    | refine wG_pure (o_str2 rfl rfl rfl) ?_
    | refine wG_pure (e_istr rfl rfl (by omega)) ?_
    | refine wG_pure (e_istr0 rfl rfl (by omega)) ?_
    | refine wG_pure (o_not rfl) ?_
    | refine wG_pure (e_ia_vw0 rfl rfl (by omega) rfl) ?_
    | refine wG_pure (e_ia_vwp rfl rfl (by omega) rfl) ?_
    | refine wG_pure (e_ia_vwm rfl rfl (by omega) (by omega) rfl) ?_
    | refine wG_pure (e_ia_vwi rfl rfl (by omega) rfl) ?_
    | refine wG_pure (e_ia_vwn rfl rfl (by omega) (by omega) rfl) ?_
    | refine wG_n rfl rfl ?_
    | refine wG_u rfl rfl ?_
    | refine wG_new (o_mks rfl rfl (by omega) (by decide)) ?_))
    simp only [d0]
    repeat (first
    | refine wC_a rfl ?_
    | refine q_s rfl ?_
    | refine q_b rfl ?_
    | refine wG_nil ?_
    | refine wG_g rfl ?_
    | refine wG_pure (o_len_vwm rfl) ?_
    | refine wG_pure (o_not_d rfl) ?_
    | refine wG_p rfl (by first | exact rfl | omega) ?_
    | refine wG_pure (o_str2 rfl rfl rfl) ?_
    | refine wG_pure (e_istr rfl rfl (by omega)) ?_
    | refine wG_pure (e_istr0 rfl rfl (by omega)) ?_
    | refine wG_pure (o_not rfl) ?_
    | refine wG_pure (e_ia_vw0 rfl rfl (by omega) rfl) ?_
    | refine wG_pure (e_ia_vwp rfl rfl (by omega) rfl) ?_
    | refine wG_pure (e_ia_vwm rfl rfl (by omega) (by omega) rfl) ?_
    | refine wG_pure (e_ia_vwi rfl rfl (by omega) rfl) ?_
    | refine wG_pure (e_ia_vwn rfl rfl (by omega) (by omega) rfl) ?_
    | refine wG_n rfl rfl ?_
    | refine wG_u rfl rfl ?_
    | refine wG_new (o_mks rfl rfl (by omega) (by decide)) ?_)
    exact ret_pl (.inr rfl) (retVs_2 (retV_mv rfl) (retV_mv rfl)) rfl rfl (by simp)
  · rw [decide_eq_false hG] at c1
    repeat (first | refine wG_call c1 rfl rfl ?_ | (first
    | refine wC_a rfl ?_
    | refine q_s rfl ?_
    | refine q_b rfl ?_
    | refine wG_nil ?_
    | refine wG_g rfl ?_
    | refine wG_pure (o_len_vwm rfl) ?_
    | refine wG_pure (o_not_d rfl) ?_
    | refine wG_p rfl (by first | exact rfl | omega) ?_
    | refine wG_pure (o_str2 rfl rfl rfl) ?_
    | refine wG_pure (e_istr rfl rfl (by omega)) ?_
    | refine wG_pure (e_istr0 rfl rfl (by omega)) ?_
    | refine wG_pure (o_not rfl) ?_
    | refine wG_pure (e_ia_vw0 rfl rfl (by omega) rfl) ?_
    | refine wG_pure (e_ia_vwp rfl rfl (by omega) rfl) ?_
    | refine wG_pure (e_ia_vwm rfl rfl (by omega) (by omega) rfl) ?_
    | refine wG_pure (e_ia_vwi rfl rfl (by omega) rfl) ?_
    | refine wG_pure (e_ia_vwn rfl rfl (by omega) (by omega) rfl) ?_
    | refine wG_n rfl rfl ?_
    | refine wG_u rfl rfl ?_
    | refine wG_new (o_mks rfl rfl (by omega) (by decide)) ?_))
    exact ret_pl (.inr rfl) (retVs_2 (retV_mv rfl) (retV_mv rfl)) rfl rfl (by simp)
theorem con27_yes (a b c nn : Bool) (r : Rc) (xs : List Dn) (ys : List Int) (h1 : r.cs.length ≤ 1048576) (h2 : r.xs.length ≤ 1048576) (h3 : xs.length ≤ 1048576) (hL : LenN xs 1048576) (hk : okY r xs ys) : Con Try.prog 27 true [.agg (dtR a b c r xs), .vw nn (ys.map iRow)] (.tup [.int .i64 (wtI r xs ys), .bool true]) [] := by
  classical
  refine con_of_wp mixed fun27 (by simp) [] plain_nil ?_
  unfold ac27 ro27
  simp only [zipT]
  have c1 := con24 a b c r xs h1 h2 h3 hL
  rw [decide_eq_true hk.1] at c1
  have c2 := con66 a b c nn r xs ys hk.1 hk.2
  have d0 : decide ((ys.length : Int) ≠ (xs.length : Int)) = false := decide_eq_false (fun h => h (by have := hk.2; omega))
  repeat (first | refine wG_call c1 rfl rfl ?_ | (first
    | refine wC_a rfl ?_
    | refine q_s rfl ?_
    | refine q_b rfl ?_
    | refine wG_nil ?_
    | refine wG_g rfl ?_
    | refine wG_pure (o_len_vwm rfl) ?_
    | refine wG_pure (o_not_d rfl) ?_
    | refine wG_p rfl (by first | exact rfl | omega) ?_
    | refine wG_pure (o_str2 rfl rfl rfl) ?_
    | refine wG_pure (e_istr rfl rfl (by omega)) ?_
    | refine wG_pure (e_istr0 rfl rfl (by omega)) ?_
    | refine wG_pure (o_not rfl) ?_
    | refine wG_pure (e_ia_vw0 rfl rfl (by omega) rfl) ?_
    | refine wG_pure (e_ia_vwp rfl rfl (by omega) rfl) ?_
    | refine wG_pure (e_ia_vwm rfl rfl (by omega) (by omega) rfl) ?_
    | refine wG_pure (e_ia_vwi rfl rfl (by omega) rfl) ?_
    | refine wG_pure (e_ia_vwn rfl rfl (by omega) (by omega) rfl) ?_
    | refine wG_n rfl rfl ?_
    | refine wG_u rfl rfl ?_
    | refine wG_new (o_mks rfl rfl (by omega) (by decide)) ?_))
  simp only [d0]
  repeat (first | refine wG_call c2 rfl rfl ?_ | (first
    | refine wC_a rfl ?_
    | refine q_s rfl ?_
    | refine q_b rfl ?_
    | refine wG_nil ?_
    | refine wG_g rfl ?_
    | refine wG_pure (o_len_vwm rfl) ?_
    | refine wG_pure (o_not_d rfl) ?_
    | refine wG_p rfl (by first | exact rfl | omega) ?_
    | refine wG_pure (o_str2 rfl rfl rfl) ?_
    | refine wG_pure (e_istr rfl rfl (by omega)) ?_
    | refine wG_pure (e_istr0 rfl rfl (by omega)) ?_
    | refine wG_pure (o_not rfl) ?_
    | refine wG_pure (e_ia_vw0 rfl rfl (by omega) rfl) ?_
    | refine wG_pure (e_ia_vwp rfl rfl (by omega) rfl) ?_
    | refine wG_pure (e_ia_vwm rfl rfl (by omega) (by omega) rfl) ?_
    | refine wG_pure (e_ia_vwi rfl rfl (by omega) rfl) ?_
    | refine wG_pure (e_ia_vwn rfl rfl (by omega) (by omega) rfl) ?_
    | refine wG_n rfl rfl ?_
    | refine wG_u rfl rfl ?_
    | refine wG_new (o_mks rfl rfl (by omega) (by decide)) ?_))
  exact ret_pl (.inr rfl) (retVs_2 (retV_mv rfl) (retV_mv rfl)) rfl rfl (by simp)
theorem con27_no (a b c nn : Bool) (r : Rc) (xs : List Dn) (ys : List Int) (h1 : r.cs.length ≤ 1048576) (h2 : r.xs.length ≤ 1048576) (h3 : xs.length ≤ 1048576) (hL : LenN xs 1048576) (hk : ¬ okY r xs ys) : Con Try.prog 27 true [.agg (dtR a b c r xs), .vw nn (ys.map iRow)] (.tup [.int .i64 0, .bool false]) [] := by
  classical
  refine con_of_wp mixed fun27 (by simp) [] plain_nil ?_
  unfold ac27 ro27
  simp only [zipT]
  have c1 := con24 a b c r xs h1 h2 h3 hL
  by_cases hG : GoodN r xs
  · rw [decide_eq_true hG] at c1
    have d0 : decide ((ys.length : Int) ≠ (xs.length : Int)) = true := decide_eq_true (fun h => hk ⟨hG, by omega⟩)
    repeat (first | refine wG_call c1 rfl rfl ?_ | (first
    | refine wC_a rfl ?_
    | refine q_s rfl ?_
    | refine q_b rfl ?_
    | refine wG_nil ?_
    | refine wG_g rfl ?_
    | refine wG_pure (o_len_vwm rfl) ?_
    | refine wG_pure (o_not_d rfl) ?_
    | refine wG_p rfl (by first | exact rfl | omega) ?_
    | refine wG_pure (o_str2 rfl rfl rfl) ?_
    | refine wG_pure (e_istr rfl rfl (by omega)) ?_
    | refine wG_pure (e_istr0 rfl rfl (by omega)) ?_
    | refine wG_pure (o_not rfl) ?_
    | refine wG_pure (e_ia_vw0 rfl rfl (by omega) rfl) ?_
    | refine wG_pure (e_ia_vwp rfl rfl (by omega) rfl) ?_
    | refine wG_pure (e_ia_vwm rfl rfl (by omega) (by omega) rfl) ?_
    | refine wG_pure (e_ia_vwi rfl rfl (by omega) rfl) ?_
    | refine wG_pure (e_ia_vwn rfl rfl (by omega) (by omega) rfl) ?_
    | refine wG_n rfl rfl ?_
    | refine wG_u rfl rfl ?_
    | refine wG_new (o_mks rfl rfl (by omega) (by decide)) ?_))
    simp only [d0]
    repeat (first
    | refine wC_a rfl ?_
    | refine q_s rfl ?_
    | refine q_b rfl ?_
    | refine wG_nil ?_
    | refine wG_g rfl ?_
    | refine wG_pure (o_len_vwm rfl) ?_
    | refine wG_pure (o_not_d rfl) ?_
    | refine wG_p rfl (by first | exact rfl | omega) ?_
    | refine wG_pure (o_str2 rfl rfl rfl) ?_
    | refine wG_pure (e_istr rfl rfl (by omega)) ?_
    | refine wG_pure (e_istr0 rfl rfl (by omega)) ?_
    | refine wG_pure (o_not rfl) ?_
    | refine wG_pure (e_ia_vw0 rfl rfl (by omega) rfl) ?_
    | refine wG_pure (e_ia_vwp rfl rfl (by omega) rfl) ?_
    | refine wG_pure (e_ia_vwm rfl rfl (by omega) (by omega) rfl) ?_
    | refine wG_pure (e_ia_vwi rfl rfl (by omega) rfl) ?_
    | refine wG_pure (e_ia_vwn rfl rfl (by omega) (by omega) rfl) ?_
    | refine wG_n rfl rfl ?_
    | refine wG_u rfl rfl ?_
    | refine wG_new (o_mks rfl rfl (by omega) (by decide)) ?_)
    exact ret_pl (.inr rfl) (retVs_2 (retV_mv rfl) (retV_mv rfl)) rfl rfl (by simp)
  · rw [decide_eq_false hG] at c1
    repeat (first | refine wG_call c1 rfl rfl ?_ | (first
    | refine wC_a rfl ?_
    | refine q_s rfl ?_
    | refine q_b rfl ?_
    | refine wG_nil ?_
    | refine wG_g rfl ?_
    | refine wG_pure (o_len_vwm rfl) ?_
    | refine wG_pure (o_not_d rfl) ?_
    | refine wG_p rfl (by first | exact rfl | omega) ?_
    | refine wG_pure (o_str2 rfl rfl rfl) ?_
    | refine wG_pure (e_istr rfl rfl (by omega)) ?_
    | refine wG_pure (e_istr0 rfl rfl (by omega)) ?_
    | refine wG_pure (o_not rfl) ?_
    | refine wG_pure (e_ia_vw0 rfl rfl (by omega) rfl) ?_
    | refine wG_pure (e_ia_vwp rfl rfl (by omega) rfl) ?_
    | refine wG_pure (e_ia_vwm rfl rfl (by omega) (by omega) rfl) ?_
    | refine wG_pure (e_ia_vwi rfl rfl (by omega) rfl) ?_
    | refine wG_pure (e_ia_vwn rfl rfl (by omega) (by omega) rfl) ?_
    | refine wG_n rfl rfl ?_
    | refine wG_u rfl rfl ?_
    | refine wG_new (o_mks rfl rfl (by omega) (by decide)) ?_))
    exact ret_pl (.inr rfl) (retVs_2 (retV_mv rfl) (retV_mv rfl)) rfl rfl (by simp)
end Go.Proofs.Ytkeobnaehgcloaa.Dst
