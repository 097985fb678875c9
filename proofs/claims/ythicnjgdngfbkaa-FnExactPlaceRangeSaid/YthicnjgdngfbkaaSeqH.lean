/- Counts, sequences, ranks: both sides. -/
import Derived.Test.YthicnjgdngfbkaaSeqG
namespace Go.Proofs.Ythicnjgdngfbkaa.Rec
open Go Go.Proofs.Ythicnjgdngfbkaa.Ab Go.Proofs.Ythicnjgdngfbkaa.Il
attribute [local irreducible] wpO wpC wpDr wpQ wpG wpE stepA seqQ blkQ Ret RetG ev
set_option maxRecDepth 10000
set_option maxHeartbeats 8000000
set_option linter.unusedSimpArgs false
set_option linter.unusedVariables false

def ac13 : AC := (.seq (.reg [⟨(some 1), none, (.box 2 true (.t 0))⟩, ⟨(some 2), none, (.mv (.c (.int .i64 0)))⟩, ⟨(some 3), none, (.mv (.c (.bool false)))⟩]) (.seq (.seq (.reg [⟨(some 4), none, (.ld true 2 (.t 1))⟩, ⟨(some 5), none, (.call 40 [(.t 4)])⟩, ⟨(some 6), none, (.un .not (.t 5))⟩]) (.cond (.t 6) (.seq (.reg [⟨(some 2), none, (.mv (.c (.int .i64 0)))⟩, ⟨(some 3), none, (.mv (.c (.bool false)))⟩]) .ret) .skip)) (.seq (.reg [⟨(some 7), none, (.ld true 2 (.t 1))⟩, ⟨(some 8), none, (.call 42 [(.t 7)])⟩, ⟨(some 9), none, (.call 41 [(.t 8)])⟩, ⟨(some 10), none, (.ia 1 (.t 9) (.c (.int .i64 0)))⟩, ⟨(some 11), none, (.ld false 1 (.t 10))⟩, ⟨(some 2), none, (.mv (.t 11))⟩, ⟨(some 3), none, (.mv (.c (.bool true)))⟩]) .ret)))
def ro13 : List AOp := [(.mv (.t 2)), (.mv (.t 3))]
theorem fun13 : Fun Try.prog 13 12 ac13 ro13 := ⟨Try.f13, _, Try.func13, by kernel_rfl, rfl, rfl, by kernel_rfl, by kernel_rfl, by decide⟩
def ac15 : AC := (.seq (.reg [⟨(some 1), none, (.box 2 true (.t 0))⟩, ⟨(some 2), none, (.mv (.c (.int .i64 0)))⟩, ⟨(some 3), none, (.mv (.c (.bool false)))⟩]) (.seq (.reg [⟨(some 7), none, (.ld true 2 (.t 1))⟩, ⟨(some 8), none, (.call 45 [(.t 7)])⟩, ⟨(some 6), none, (.mv (.t 8))⟩, ⟨(some 9), none, (.ext (.t 6) 0)⟩, ⟨(some 10), none, (.ext (.t 6) 1)⟩, ⟨(some 4), none, (.mv (.t 9))⟩, ⟨(some 5), none, (.mv (.t 10))⟩]) (.seq (.seq (.reg [⟨(some 11), none, (.mv (.t 5))⟩, ⟨(some 12), none, (.un .not (.t 11))⟩]) (.cond (.t 12) (.seq (.reg [⟨(some 2), none, (.mv (.c (.int .i64 0)))⟩, ⟨(some 3), none, (.mv (.c (.bool false)))⟩]) .ret) .skip)) (.seq (.reg [⟨(some 13), none, (.mv (.t 4))⟩, ⟨(some 14), none, (.nck (.t 13))⟩, ⟨(some 15), none, (.fa 2 (.t 14))⟩, ⟨(some 16), none, (.ld false 1 (.t 15))⟩, ⟨(some 17), none, (.ia 1 (.t 16) (.c (.int .i64 0)))⟩, ⟨(some 18), none, (.ld false 1 (.t 17))⟩, ⟨(some 2), none, (.mv (.t 18))⟩, ⟨(some 3), none, (.mv (.c (.bool true)))⟩]) .ret))))
def ro15 : List AOp := [(.mv (.t 2)), (.mv (.t 3))]
theorem fun15 : Fun Try.prog 15 19 ac15 ro15 := ⟨Try.f15, _, Try.func15, by kernel_rfl, rfl, rfl, by kernel_rfl, by kernel_rfl, by decide⟩
def ac21 : AC := (.seq (.reg [⟨(some 2), none, (.box 2 true (.t 0))⟩, ⟨(some 4), none, (.mv (.c (.bool false)))⟩, ⟨(some 5), none, (.mv (.c (.bool false)))⟩]) (.seq (.seq (.reg [⟨(some 6), none, (.ld true 2 (.t 2))⟩, ⟨(some 7), none, (.call 40 [(.t 6)])⟩, ⟨(some 8), none, (.un .not (.t 7))⟩]) (.cond (.t 8) (.seq (.reg [⟨(some 4), none, (.mv (.c (.bool false)))⟩, ⟨(some 5), none, (.mv (.c (.bool false)))⟩]) .ret) .skip)) (.seq (.reg [⟨(some 9), none, (.ld true 2 (.t 2))⟩, ⟨(some 10), none, (.mv (.t 1))⟩, ⟨(some 11), none, (.call 52 [(.t 9), (.t 10)])⟩, ⟨(some 4), none, (.mv (.t 11))⟩, ⟨(some 5), none, (.mv (.c (.bool true)))⟩]) .ret)))
def ro21 : List AOp := [(.mv (.t 4)), (.mv (.t 5))]
theorem fun21 : Fun Try.prog 21 12 ac21 ro21 := ⟨Try.f21, _, Try.func21, by kernel_rfl, rfl, rfl, by kernel_rfl, by kernel_rfl, by decide⟩
def ac23 : AC := (.seq (.reg [⟨(some 2), none, (.box 2 true (.t 0))⟩, ⟨(some 4), none, (.mv (.c (.bool false)))⟩, ⟨(some 5), none, (.mv (.c (.bool false)))⟩]) (.seq (.reg [⟨(some 9), none, (.ld true 2 (.t 2))⟩, ⟨(some 10), none, (.call 45 [(.t 9)])⟩, ⟨(some 8), none, (.mv (.t 10))⟩, ⟨(some 11), none, (.ext (.t 8) 0)⟩, ⟨(some 12), none, (.ext (.t 8) 1)⟩, ⟨(some 6), none, (.mv (.t 11))⟩, ⟨(some 7), none, (.mv (.t 12))⟩]) (.seq (.seq (.reg [⟨(some 13), none, (.mv (.t 7))⟩, ⟨(some 14), none, (.un .not (.t 13))⟩]) (.cond (.t 14) (.seq (.reg [⟨(some 4), none, (.mv (.c (.bool false)))⟩, ⟨(some 5), none, (.mv (.c (.bool false)))⟩]) .ret) .skip)) (.seq (.reg [⟨(some 15), none, (.mv (.t 6))⟩, ⟨(some 16), none, (.mv (.t 1))⟩, ⟨(some 17), none, (.call 53 [(.t 15), (.t 16)])⟩, ⟨(some 4), none, (.mv (.t 17))⟩, ⟨(some 5), none, (.mv (.c (.bool true)))⟩]) .ret))))
def ro23 : List AOp := [(.mv (.t 4)), (.mv (.t 5))]
theorem fun23 : Fun Try.prog 23 18 ac23 ro23 := ⟨Try.f23, _, Try.func23, by kernel_rfl, rfl, rfl, by kernel_rfl, by kernel_rfl, by decide⟩
def ac27 : AC := (.seq (.reg [⟨(some 2), none, (.box 2 true (.t 0))⟩, ⟨(some 4), none, (.mv (.c (.int .i64 0)))⟩, ⟨(some 5), none, (.mv (.c (.bool false)))⟩]) (.seq (.seq (.reg [⟨(some 13), none, (.ld true 2 (.t 2))⟩, ⟨(some 14), none, (.call 40 [(.t 13)])⟩, ⟨(some 15), none, (.un .not (.t 14))⟩, ⟨(some 16), none, (.mv (.t 15))⟩, ⟨(some 17), (some (16, false)), (.ld true 2 (.t 2))⟩, ⟨(some 18), (some (16, false)), (.mv (.t 1))⟩, ⟨(some 19), (some (16, false)), (.call 52 [(.t 17), (.t 18)])⟩, ⟨(some 20), (some (16, false)), (.un .not (.t 19))⟩, ⟨(some 21), none, (.pick (.t 16) (.c (.bool true)) (.t 20))⟩]) (.cond (.t 21) (.seq (.reg [⟨(some 4), none, (.mv (.c (.int .i64 0)))⟩, ⟨(some 5), none, (.mv (.c (.bool false)))⟩]) .ret) .skip)) (.seq (.reg [⟨(some 22), none, (.ld true 2 (.t 2))⟩, ⟨(some 23), none, (.call 42 [(.t 22)])⟩, ⟨(some 6), none, (.mv (.t 23))⟩]) (.seq (.reg [⟨(some 24), none, (.mv (.t 6))⟩, ⟨(some 25), none, (.call 41 [(.t 24)])⟩, ⟨(some 7), none, (.mv (.t 25))⟩]) (.seq (.reg [⟨(some 8), none, (.mv (.c (.int .i64 0)))⟩, ⟨(some 9), none, (.mv (.c (.int .i64 0)))⟩]) (.seq (.seq (.reg [⟨(some 10), none, (.mv (.c (.int .i64 0)))⟩]) (.blk 0 (.loop (.seq (.seq (.reg [⟨(some 26), none, (.mv (.t 10))⟩, ⟨(some 27), none, (.mv (.t 1))⟩, ⟨(some 28), none, (.len (.t 27))⟩, ⟨(some 29), none, (.bin .lss (.t 26) (.t 28))⟩]) (.cond (.t 29) .skip (.exit 0))) (.seq (.blk 1 (.seq (.dreg [⟨(some 32), none, (.ld true 2 (.t 2))⟩, ⟨(some 33), none, (.mv (.t 1))⟩, ⟨(some 34), none, (.mv (.t 10))⟩, ⟨(some 35), none, (.ia 1 (.t 33) (.t 34))⟩, ⟨(some 36), none, (.ld false 1 (.t 35))⟩, ⟨(some 37), none, (.call 48 [(.t 32), (.t 36)])⟩, ⟨(some 11), none, (.mv (.t 37))⟩] [[], [], [], [1, 2], [1, 2, 3], [0, 1, 2, 3, 4], [0, 1, 2, 3, 4, 5]]) (.seq (.seq (.reg [⟨(some 12), none, (.mv (.c (.int .i64 0)))⟩]) (.blk 2 (.loop (.seq (.seq (.reg [⟨(some 38), none, (.mv (.t 12))⟩, ⟨(some 39), none, (.mv (.t 11))⟩, ⟨(some 40), none, (.bin .lss (.t 38) (.t 39))⟩]) (.cond (.t 40) .skip (.exit 2))) (.seq (.blk 3 (.seq (.reg [⟨(some 43), none, (.mv (.t 6))⟩, ⟨(some 44), none, (.mv (.t 9))⟩, ⟨(some 45), none, (.mv (.t 12))⟩, ⟨(some 46), none, (.call 56 [(.t 43), (.t 44), (.t 45)])⟩]) (.cond (.t 46) (.reg [⟨(some 47), none, (.mv (.t 8))⟩, ⟨(some 48), none, (.mv (.t 7))⟩, ⟨(some 49), none, (.mv (.t 9))⟩, ⟨(some 50), none, (.mv (.t 12))⟩, ⟨(some 51), none, (.cv .u64 (.t 50))⟩, ⟨(some 52), none, (.bin .shl (.c (.int .i64 1)) (.t 51))⟩, ⟨(some 53), none, (.bin .or (.t 49) (.t 52))⟩, ⟨(some 54), none, (.ia 1 (.t 48) (.t 53))⟩, ⟨(some 55), none, (.ld false 1 (.t 54))⟩, ⟨(some 56), none, (.bin .add (.t 47) (.t 55))⟩, ⟨(some 8), none, (.mv (.t 56))⟩]) .skip))) (.reg [⟨(some 41), none, (.mv (.t 12))⟩, ⟨(some 42), none, (.bin .add (.t 41) (.c (.int .i64 1)))⟩, ⟨(some 12), none, (.mv (.t 42))⟩])))))) (.reg [⟨(some 57), none, (.mv (.t 9))⟩, ⟨(some 58), none, (.mv (.t 11))⟩, ⟨(some 59), none, (.cv .u64 (.t 58))⟩, ⟨(some 60), none, (.bin .shl (.c (.int .i64 1)) (.t 59))⟩, ⟨(some 61), none, (.bin .or (.t 57) (.t 60))⟩, ⟨(some 9), none, (.mv (.t 61))⟩])))) (.reg [⟨(some 30), none, (.mv (.t 10))⟩, ⟨(some 31), none, (.bin .add (.t 30) (.c (.int .i64 1)))⟩, ⟨(some 10), none, (.mv (.t 31))⟩])))))) (.seq (.reg [⟨(some 62), none, (.mv (.t 8))⟩, ⟨(some 4), none, (.mv (.t 62))⟩, ⟨(some 5), none, (.mv (.c (.bool true)))⟩]) .ret)))))))
def ro27 : List AOp := [(.mv (.t 4)), (.mv (.t 5))]
theorem fun27 : Fun Try.prog 27 63 ac27 ro27 := ⟨Try.f27, _, Try.func27, by kernel_rfl, rfl, rfl, by kernel_rfl, by kernel_rfl, by decide⟩
def ac28 : AC := (.seq (.reg [⟨(some 2), none, (.box 2 true (.t 0))⟩, ⟨(some 4), none, (.mv (.c (.int .i64 0)))⟩, ⟨(some 5), none, (.mv (.c (.bool false)))⟩]) (.seq (.reg [⟨(some 9), none, (.ld true 2 (.t 2))⟩, ⟨(some 10), none, (.call 45 [(.t 9)])⟩, ⟨(some 8), none, (.mv (.t 10))⟩, ⟨(some 11), none, (.ext (.t 8) 0)⟩, ⟨(some 12), none, (.ext (.t 8) 1)⟩, ⟨(some 6), none, (.mv (.t 11))⟩, ⟨(some 7), none, (.mv (.t 12))⟩]) (.seq (.seq (.reg [⟨(some 13), none, (.mv (.t 7))⟩, ⟨(some 14), none, (.un .not (.t 13))⟩, ⟨(some 15), none, (.mv (.t 14))⟩, ⟨(some 16), (some (15, false)), (.mv (.t 6))⟩, ⟨(some 17), (some (15, false)), (.mv (.t 1))⟩, ⟨(some 18), (some (15, false)), (.call 53 [(.t 16), (.t 17)])⟩, ⟨(some 19), (some (15, false)), (.un .not (.t 18))⟩, ⟨(some 20), none, (.pick (.t 15) (.c (.bool true)) (.t 19))⟩]) (.cond (.t 20) (.seq (.reg [⟨(some 4), none, (.mv (.c (.int .i64 0)))⟩, ⟨(some 5), none, (.mv (.c (.bool false)))⟩]) .ret) .skip)) (.seq (.reg [⟨(some 21), none, (.mv (.t 6))⟩, ⟨(some 22), none, (.mv (.t 1))⟩, ⟨(some 23), none, (.call 57 [(.t 21), (.t 22)])⟩, ⟨(some 4), none, (.mv (.t 23))⟩, ⟨(some 5), none, (.mv (.c (.bool true)))⟩]) .ret))))
def ro28 : List AOp := [(.mv (.t 4)), (.mv (.t 5))]
theorem fun28 : Fun Try.prog 28 24 ac28 ro28 := ⟨Try.f28, _, Try.func28, by kernel_rfl, rfl, rfl, by kernel_rfl, by kernel_rfl, by decide⟩
def ac52 : AC := (.seq (.reg [⟨(some 2), none, (.box 2 true (.t 0))⟩, ⟨(some 4), none, (.mv (.c (.bool false)))⟩]) (.seq (.reg [⟨(some 9), none, (.ld true 2 (.t 2))⟩, ⟨(some 10), none, (.call 42 [(.t 9)])⟩, ⟨(some 5), none, (.mv (.t 10))⟩]) (.seq (.reg [⟨(some 6), none, (.mv (.c (.int .i64 0)))⟩]) (.seq (.seq (.reg [⟨(some 7), none, (.mv (.c (.int .i64 0)))⟩]) (.blk 0 (.loop (.seq (.seq (.reg [⟨(some 11), none, (.mv (.t 7))⟩, ⟨(some 12), none, (.mv (.t 1))⟩, ⟨(some 13), none, (.len (.t 12))⟩, ⟨(some 14), none, (.bin .lss (.t 11) (.t 13))⟩]) (.cond (.t 14) .skip (.exit 0))) (.seq (.blk 1 (.seq (.dreg [⟨(some 17), none, (.ld true 2 (.t 2))⟩, ⟨(some 18), none, (.mv (.t 1))⟩, ⟨(some 19), none, (.mv (.t 7))⟩, ⟨(some 20), none, (.ia 1 (.t 18) (.t 19))⟩, ⟨(some 21), none, (.ld false 1 (.t 20))⟩, ⟨(some 22), none, (.call 48 [(.t 17), (.t 21)])⟩, ⟨(some 8), none, (.mv (.t 22))⟩] [[], [], [], [1, 2], [1, 2, 3], [0, 1, 2, 3, 4], [0, 1, 2, 3, 4, 5]]) (.seq (.seq (.reg [⟨(some 23), none, (.mv (.t 8))⟩, ⟨(some 24), none, (.bin .lss (.t 23) (.c (.int .i64 0)))⟩, ⟨(some 25), none, (.mv (.t 24))⟩, ⟨(some 26), (some (25, false)), (.mv (.t 5))⟩, ⟨(some 27), (some (25, false)), (.mv (.t 6))⟩, ⟨(some 28), (some (25, false)), (.mv (.t 8))⟩, ⟨(some 29), (some (25, false)), (.call 56 [(.t 26), (.t 27), (.t 28)])⟩, ⟨(some 30), (some (25, false)), (.un .not (.t 29))⟩, ⟨(some 31), none, (.pick (.t 25) (.c (.bool true)) (.t 30))⟩]) (.cond (.t 31) (.seq (.reg [⟨(some 4), none, (.mv (.c (.bool false)))⟩]) .ret) .skip)) (.reg [⟨(some 32), none, (.mv (.t 6))⟩, ⟨(some 33), none, (.mv (.t 8))⟩, ⟨(some 34), none, (.cv .u64 (.t 33))⟩, ⟨(some 35), none, (.bin .shl (.c (.int .i64 1)) (.t 34))⟩, ⟨(some 36), none, (.bin .or (.t 32) (.t 35))⟩, ⟨(some 6), none, (.mv (.t 36))⟩])))) (.reg [⟨(some 15), none, (.mv (.t 7))⟩, ⟨(some 16), none, (.bin .add (.t 15) (.c (.int .i64 1)))⟩, ⟨(some 7), none, (.mv (.t 16))⟩])))))) (.seq (.reg [⟨(some 37), none, (.mv (.t 1))⟩, ⟨(some 38), none, (.len (.t 37))⟩, ⟨(some 39), none, (.fa 0 (.t 2))⟩, ⟨(some 40), none, (.ld false 1 (.t 39))⟩, ⟨(some 41), none, (.len (.t 40))⟩, ⟨(some 42), none, (.bin .eql (.t 38) (.t 41))⟩, ⟨(some 4), none, (.mv (.t 42))⟩]) .ret)))))
def ro52 : List AOp := [(.mv (.t 4))]
theorem fun52 : Fun Try.prog 52 43 ac52 ro52 := ⟨Try.f52, _, Try.func52, by kernel_rfl, rfl, rfl, by kernel_rfl, by kernel_rfl, by decide⟩
def ac57 : AC := (.seq (.reg [⟨(some 4), none, (.mv (.c (.int .i64 0)))⟩]) (.seq (.reg [⟨(some 5), none, (.mv (.c (.int .i64 0)))⟩, ⟨(some 6), none, (.mv (.c (.int .i64 0)))⟩]) (.seq (.seq (.reg [⟨(some 11), none, (.mv (.t 1))⟩, ⟨(some 12), none, (.len (.t 11))⟩, ⟨(some 13), none, (.mv (.c (.int .i64 0)))⟩]) (.blk 0 (.loop (.seq (.reg [⟨(some 14), none, (.bin .lss (.t 13) (.t 12))⟩]) (.seq (.cond (.t 14) .skip (.exit 0)) (.seq (.blk 1 (.seq (.reg [⟨(some 15), none, (.ia 1 (.t 11) (.t 13))⟩, ⟨(some 16), none, (.ld false 1 (.t 15))⟩, ⟨(some 8), none, (.mv (.t 16))⟩]) (.seq (.reg [⟨(some 17), none, (.mv (.t 0))⟩, ⟨(some 18), none, (.nck (.t 17))⟩, ⟨(some 19), none, (.fa 0 (.t 18))⟩, ⟨(some 20), none, (.ld false 1 (.t 19))⟩, ⟨(some 21), none, (.nck (.t 20))⟩, ⟨(some 22), none, (.fa 0 (.t 21))⟩, ⟨(some 23), none, (.ld false 1 (.t 22))⟩, ⟨(some 24), none, (.mv (.t 8))⟩, ⟨(some 25), none, (.call 55 [(.t 23), (.t 24)])⟩, ⟨(some 9), none, (.mv (.t 25))⟩]) (.seq (.seq (.reg [⟨(some 26), none, (.mv (.t 9))⟩, ⟨(some 27), none, (.mv (.c (.int .i64 0)))⟩]) (.blk 2 (.loop (.seq (.reg [⟨(some 28), none, (.bin .lss (.t 27) (.t 26))⟩]) (.seq (.cond (.t 28) .skip (.exit 2)) (.seq (.blk 3 (.seq (.reg [⟨(some 29), none, (.mv (.t 27))⟩, ⟨(some 10), none, (.mv (.t 29))⟩]) (.seq (.reg [⟨(some 30), none, (.mv (.t 0))⟩, ⟨(some 31), none, (.nck (.t 30))⟩, ⟨(some 32), none, (.fa 0 (.t 31))⟩, ⟨(some 33), none, (.ld false 1 (.t 32))⟩, ⟨(some 34), none, (.mv (.t 6))⟩, ⟨(some 35), none, (.mv (.t 10))⟩, ⟨(some 36), none, (.call 51 [(.t 33), (.t 34), (.t 35)])⟩]) (.cond (.t 36) (.dreg [⟨(some 37), none, (.mv (.t 5))⟩, ⟨(some 38), none, (.mv (.t 0))⟩, ⟨(some 39), none, (.nck (.t 38))⟩, ⟨(some 40), none, (.fa 2 (.t 39))⟩, ⟨(some 41), none, (.ld false 1 (.t 40))⟩, ⟨(some 42), none, (.mv (.t 6))⟩, ⟨(some 43), none, (.mv (.t 10))⟩, ⟨(some 44), none, (.bin .shl (.c (.int .i64 1)) (.t 43))⟩, ⟨(some 45), none, (.bin .or (.t 42) (.t 44))⟩, ⟨(some 46), none, (.ia 1 (.t 41) (.t 45))⟩, ⟨(some 47), none, (.ld false 1 (.t 46))⟩, ⟨(some 48), none, (.bin .add (.t 37) (.t 47))⟩, ⟨(some 5), none, (.mv (.t 48))⟩] [[], [], [1], [1, 2], [1, 2, 3], [], [], [6], [5, 6, 7], [1, 2, 3, 4, 5, 6, 7, 8], [1, 2, 3, 4, 5, 6, 7, 8, 9], [0, 1, 2, 3, 4, 5, 6, 7, 8, 9, 10], [0, 1, 2, 3, 4, 5, 6, 7, 8, 9, 10, 11]]) .skip)))) (.reg [⟨(some 49), none, (.bin .add (.t 27) (.c (.int .i64 1)))⟩, ⟨(some 27), none, (.mv (.t 49))⟩]))))))) (.reg [⟨(some 50), none, (.mv (.t 6))⟩, ⟨(some 51), none, (.mv (.t 9))⟩, ⟨(some 52), none, (.bin .shl (.c (.int .i64 1)) (.t 51))⟩, ⟨(some 53), none, (.bin .or (.t 50) (.t 52))⟩, ⟨(some 6), none, (.mv (.t 53))⟩]))))) (.reg [⟨(some 54), none, (.bin .add (.t 13) (.c (.int .i64 1)))⟩, ⟨(some 13), none, (.mv (.t 54))⟩]))))))) (.seq (.reg [⟨(some 55), none, (.mv (.t 5))⟩, ⟨(some 4), none, (.mv (.t 55))⟩]) .ret))))
def ro57 : List AOp := [(.mv (.t 4))]
theorem fun57 : Fun Try.prog 57 56 ac57 ro57 := ⟨Try.f57, _, Try.func57, by kernel_rfl, rfl, rfl, by kernel_rfl, by kernel_rfl, by decide⟩

/-! ### A counting's memory behind the call that made it -/
noncomputable def gH (a b : Bool) (r : Rc) : List (Nat × Option Ab.Rows) := mkh 1 ((cgO r).map (shR 1)) ++ [(0, some [rRow a b r])]
section
variable {a b : Bool} {r : Rc}
theorem gH_0 : hg (gH a b r) 0 = some [rRow a b r] := hg_out (fun h => by have := h.1; omega) rfl
theorem gH_in {i : Nat} {rows : Ab.Rows} (h : (cgO r)[i]? = some rows) : hg (gH a b r) (1 + i) = some (shR 1 rows) := shO_get h
theorem gH_o {i : Nat} {rows : Ab.Rows} (h : (oO r)[i]? = some rows) : hg (gH a b r) (1 + i) = some (shR 1 rows) :=
  gH_in (by rw [cgO, List.getElem?_append_left (List.getElem?_eq_some_iff.1 h).1]; exact h)
theorem gH_b : hg (gH a b r) (1 + (oO r).length) = some ((befL r.cs.length (later r)).map iRow) := by
  have := gH_in (a := a) (b := b) (r := r) (i := (oO r).length) (rows := (befL r.cs.length (later r)).map iRow) (by rw [cgO, List.getElem?_append_right (Nat.le_refl _), Nat.sub_self]; rfl)
  rwa [shR_plain (rowsP _)] at this
theorem gH_h : hg (gH a b r) (1 + ((oO r).length + 1)) = some ((cntL r.cs.length (later r)).map iRow) := by
  have := gH_in (a := a) (b := b) (r := r) (i := (oO r).length + 1) (rows := (cntL r.cs.length (later r)).map iRow) (by rw [cgO, List.getElem?_append_right (by omega), Nat.add_sub_cancel_left]; rfl)
  rwa [shR_plain (rowsP _)] at this
theorem gH_c : hg (gH a b r) (1 + ((oO r).length + 2)) = some (shR 1 [[.pt 0 0 0, .sl (oO r).length 1 0 (2 ^ r.cs.length), .sl ((oO r).length + 1) 1 0 (2 ^ r.cs.length)]]) :=
  gH_in (by rw [cgO, List.getElem?_append_right (by omega), Nat.add_sub_cancel_left]; rfl)
theorem dr_gH {t : List (Nat × Option Ab.Rows)} (ht : ∀ q rows, hg (gH a b r) q = some rows → q ≠ 0 → hg t q = some rows) : dr (hg t) 6 (.pt (1 + ((oO r).length + 2)) 0 0) = cgC r := by
  rw [dr_pt3 (b := 1) (ht _ _ gH_c (by omega))]
  show AV.vp [dr _ (1 + 4) (.pt (1 + 0) 0 0), dr _ (3 + 2) (.sl (1 + (oO r).length) 1 0 _), dr _ (3 + 2) (.sl (1 + ((oO r).length + 1)) 1 0 _)] = _
  rw [dr_rows (ht _ _ gH_b (by omega)) (by rw [befL_len]) iRow_plain, dr_rows (ht _ _ gH_h (by omega)) (by rw [cntL_len]) iRow_plain]
  have e := dr_ordH (H := hg t) (nums r r.cs.length) (later r) (lk0 r r.xs.length) r.cs.length 1 1 (nums_len (Nat.le_refl _)) (fun i rows h => ht _ _ (gH_o h) (by omega))
  rw [show (1 + 4 : Nat) = 1 + 4 from rfl, e]
  rfl
end
theorem cnt0_get {n : Nat} {W : Nat → Nat → Bool} : ((cntL n W).map iRow)[0]? = some (iRow ((cnt n W 0 : Nat) : Int)) := cntL_get (Nat.pow_pos (by decide))
theorem con13_yes (a b : Bool) (r : Rc) (h1 : r.cs.length ≤ 1048576) (h2 : r.xs.length ≤ 1048576) (hC : GoodC r) : Con Try.prog 13 true [.agg (rRow a b r)] (.tup [.int .i64 ((cnt r.cs.length (later r) 0 : Nat) : Int), .bool true]) [] := by
  classical
  refine con_of_wp mixed fun13 (by simp) [] plain_nil ?_
  unfold ac13 ro13
  simp only [zipT]
  have c1 := con40 a b r h1 h2
  rw [decide_eq_true hC] at c1
  have c2 := con42 a b r hC.1
  have c3 := con41 true (later r) hC.1.1
  have hp : 0 < 2 ^ r.cs.length := Nat.pow_pos (by decide)
  repeat (first | refine wG_call c1 rfl rfl ?_ | refine wG_call1 c2 rfl rfl ?_ | refine wG_call1 c3 (ag_sl rfl rfl (maskL_len _ _).symm iRow_plain ag_nil) rfl ?_ | refine wG_pure (e_ia_sl (n := 0) rfl rfl (by decide) (by omega)) ?_ | refine wG_pure (o_ldf_pt rfl rfl cnt0_get rfl) ?_ | (first
    | refine wC_a rfl ?_
    | refine q_s rfl ?_
    | refine q_b rfl ?_
    | refine wG_nil ?_
    | refine wG_g rfl ?_
    | refine wG_pure (o_len_vwm rfl) ?_
    | refine wG_pure (o_not_d rfl) ?_
    | refine wG_p rfl (by first | exact rfl | omega) ?_
    | refine wG_pure (o_str2 rfl rfl rfl) ?_
    | refine wG_pure (e_istr rfl rfl (by omega)) ?_
    | refine wG_pure (e_istr0 rfl rfl (by omega)) ?_
    | refine wG_pure (o_not rfl) ?_
    | refine wG_pure (e_ia_vw0 rfl rfl (by omega) rfl) ?_
    | refine wG_pure (e_ia_vwp rfl rfl (by omega) rfl) ?_
    | refine wG_pure (e_ia_vwm rfl rfl (by omega) (by omega) rfl) ?_
    | refine wG_pure (e_ia_vwi rfl rfl (by omega) rfl) ?_
    | refine wG_pure (e_ia_vwn rfl rfl (by omega) (by omega) rfl) ?_
    | refine wG_n rfl rfl ?_
    | refine wG_u rfl rfl ?_
    | refine wG_new (o_mks rfl rfl (by omega) (by decide)) ?_))
  exact ret_pl (.inr rfl) (retVs_2 (retV_mv rfl) (retV_mv rfl)) rfl rfl (by simp)
theorem con13_no (a b : Bool) (r : Rc) (h1 : r.cs.length ≤ 1048576) (h2 : r.xs.length ≤ 1048576) (hC : ¬ GoodC r) : Con Try.prog 13 true [.agg (rRow a b r)] (.tup [.int .i64 0, .bool false]) [] := by
  classical
  refine con_of_wp mixed fun13 (by simp) [] plain_nil ?_
  unfold ac13 ro13
  simp only [zipT]
  have c1 := con40 a b r h1 h2
  rw [decide_eq_false hC] at c1
  repeat (first | refine wG_call c1 rfl rfl ?_ | (first
    | refine wC_a rfl ?_
    | refine q_s rfl ?_
    | refine q_b rfl ?_
    | refine wG_nil ?_
    | refine wG_g rfl ?_
    | refine wG_pure (o_len_vwm rfl) ?_
    | refine wG_pure (o_not_d rfl) ?_
    | refine wG_p rfl (by first | exact rfl | omega) ?_
    | refine wG_pure (o_str2 rfl rfl rfl) ?_
    | refine wG_pure (e_istr rfl rfl (by omega)) ?_
    | refine wG_pure (e_istr0 rfl rfl (by omega)) ?_
    | refine wG_pure (o_not rfl) ?_
    | refine wG_pure (e_ia_vw0 rfl rfl (by omega) rfl) ?_
    | refine wG_pure (e_ia_vwp rfl rfl (by omega) rfl) ?_
    | refine wG_pure (e_ia_vwm rfl rfl (by omega) (by omega) rfl) ?_
    | refine wG_pure (e_ia_vwi rfl rfl (by omega) rfl) ?_
    | refine wG_pure (e_ia_vwn rfl rfl (by omega) (by omega) rfl) ?_
    | refine wG_n rfl rfl ?_
    | refine wG_u rfl rfl ?_
    | refine wG_new (o_mks rfl rfl (by omega) (by decide)) ?_))
  exact ret_pl (.inr rfl) (retVs_2 (retV_mv rfl) (retV_mv rfl)) rfl rfl (by simp)
theorem con15_yes (a b : Bool) (r : Rc) (h1 : r.cs.length ≤ 1048576) (h2 : r.xs.length ≤ 1048576) (hC : GoodC r) : Con Try.prog 15 true [.agg (rRow a b r)] (.tup [.int .i64 ((cnt r.cs.length (later r) 0 : Nat) : Int), .bool true]) [] := by
  refine con_of_wp mixed fun15 (by simp) [] plain_nil ?_
  unfold ac15 ro15
  simp only [zipT]
  have hp : 0 < 2 ^ r.cs.length := Nat.pow_pos (by decide)
  repeat (first
    | refine wC_a rfl ?_
    | refine q_s rfl ?_
    | refine q_b rfl ?_
    | refine wG_nil ?_
    | refine wG_g rfl ?_
    | refine wG_pure (o_len_vwm rfl) ?_
    | refine wG_pure (o_not_d rfl) ?_
    | refine wG_p rfl (by first | exact rfl | omega) ?_
    | refine wG_pure (o_str2 rfl rfl rfl) ?_
    | refine wG_pure (e_istr rfl rfl (by omega)) ?_
    | refine wG_pure (e_istr0 rfl rfl (by omega)) ?_
    | refine wG_pure (o_not rfl) ?_
    | refine wG_pure (e_ia_vw0 rfl rfl (by omega) rfl) ?_
    | refine wG_pure (e_ia_vwp rfl rfl (by omega) rfl) ?_
    | refine wG_pure (e_ia_vwm rfl rfl (by omega) (by omega) rfl) ?_
    | refine wG_pure (e_ia_vwi rfl rfl (by omega) rfl) ?_
    | refine wG_pure (e_ia_vwn rfl rfl (by omega) (by omega) rfl) ?_
    | refine wG_n rfl rfl ?_
    | refine wG_u rfl rfl ?_
    | refine wG_new (o_mks rfl rfl (by omega) (by decide)) ?_)
  refine wG_callG (v' := .tup [.pt (1 + ((oO r).length + 2)) 0 0, .bool true]) (con45_yes a b r h1 h2 hC) rfl rfl rfl ?_
  change wpG _ _ _ ⟨_, gH a b r, _⟩ _
  repeat (first | refine wG_pure (o_ldf_pt rfl gH_c rfl rfl) ?_ | refine wG_pure (e_ia_sl (n := 0) rfl rfl (by decide) (by omega)) ?_ | refine wG_pure (o_ldf_pt rfl gH_h cnt0_get rfl) ?_ | (first
    | refine wC_a rfl ?_
    | refine q_s rfl ?_
    | refine q_b rfl ?_
    | refine wG_nil ?_
    | refine wG_g rfl ?_
    | refine wG_pure (o_len_vwm rfl) ?_
    | refine wG_pure (o_not_d rfl) ?_
    | refine wG_p rfl (by first | exact rfl | omega) ?_
    | refine wG_pure (o_str2 rfl rfl rfl) ?_
    | refine wG_pure (e_istr rfl rfl (by omega)) ?_
    | refine wG_pure (e_istr0 rfl rfl (by omega)) ?_
    | refine wG_pure (o_not rfl) ?_
    | refine wG_pure (e_ia_vw0 rfl rfl (by omega) rfl) ?_
    | refine wG_pure (e_ia_vwp rfl rfl (by omega) rfl) ?_
    | refine wG_pure (e_ia_vwm rfl rfl (by omega) (by omega) rfl) ?_
    | refine wG_pure (e_ia_vwi rfl rfl (by omega) rfl) ?_
    | refine wG_pure (e_ia_vwn rfl rfl (by omega) (by omega) rfl) ?_
    | refine wG_n rfl rfl ?_
    | refine wG_u rfl rfl ?_
    | refine wG_new (o_mks rfl rfl (by omega) (by decide)) ?_))
  exact ret_pl (.inr rfl) (retVs_2 (retV_mv rfl) (retV_mv rfl)) rfl rfl (by simp)
theorem con15_no (a b : Bool) (r : Rc) (h1 : r.cs.length ≤ 1048576) (h2 : r.xs.length ≤ 1048576) (hC : ¬ GoodC r) : Con Try.prog 15 true [.agg (rRow a b r)] (.tup [.int .i64 0, .bool false]) [] := by
  refine con_of_wp mixed fun15 (by simp) [] plain_nil ?_
  unfold ac15 ro15
  simp only [zipT]
  have c1 := con45_no a b r h1 h2 hC
  repeat (first | refine wG_call c1 rfl rfl ?_ | (first
    | refine wC_a rfl ?_
    | refine q_s rfl ?_
    | refine q_b rfl ?_
    | refine wG_nil ?_
    | refine wG_g rfl ?_
    | refine wG_pure (o_len_vwm rfl) ?_
    | refine wG_pure (o_not_d rfl) ?_
    | refine wG_p rfl (by first | exact rfl | omega) ?_
    | refine wG_pure (o_str2 rfl rfl rfl) ?_
    | refine wG_pure (e_istr rfl rfl (by omega)) ?_
    | refine wG_pure (e_istr0 rfl rfl (by omega)) ?_
    | refine wG_pure (o_not rfl) ?_
    | refine wG_pure (e_ia_vw0 rfl rfl (by omega) rfl) ?_
    | refine wG_pure (e_ia_vwp rfl rfl (by omega) rfl) ?_
    | refine wG_pure (e_ia_vwm rfl rfl (by omega) (by omega) rfl) ?_
    | refine wG_pure (e_ia_vwi rfl rfl (by omega) rfl) ?_
    | refine wG_pure (e_ia_vwn rfl rfl (by omega) (by omega) rfl) ?_
    | refine wG_n rfl rfl ?_
    | refine wG_u rfl rfl ?_
    | refine wG_new (o_mks rfl rfl (by omega) (by decide)) ?_))
  exact ret_pl (.inr rfl) (retVs_2 (retV_mv rfl) (retV_mv rfl)) rfl rfl (by simp)

/-! ### Sequences -/
open Classical in
theorem con52 (a b nn : Bool) (r : Rc) (ls : List Int) (hG : GoodR r) (h3 : ls.length ≤ 1048576) : Con Try.prog 52 true [.agg (rRow a b r), .vw nn (ls.map iRow)] (.bool (decide (isSeq r ls))) [] := by
  refine con_of_wp mixed fun52 (by simp) [] plain_nil ?_
  unfold ac52 ro52
  simp only [zipT]
  have h10 := hG.1
  have cL := con42 a b r hG
  have cI := fun m => con48 a b r m (by omega)
  repeat (first | refine wG_call1 cL rfl rfl ?_ | (first
    | refine wC_a rfl ?_
    | refine q_s rfl ?_
    | refine q_b rfl ?_
    | refine wG_nil ?_
    | refine wG_g rfl ?_
    | refine wG_pure (o_len_vwm rfl) ?_
    | refine wG_pure (o_not_d rfl) ?_
    | refine wG_p rfl (by first | exact rfl | omega) ?_
    | refine wG_pure (o_str2 rfl rfl rfl) ?_
    | refine wG_pure (e_istr rfl rfl (by omega)) ?_
    | refine wG_pure (e_istr0 rfl rfl (by omega)) ?_
    | refine wG_pure (o_not rfl) ?_
    | refine wG_pure (e_ia_vw0 rfl rfl (by omega) rfl) ?_
    | refine wG_pure (e_ia_vwp rfl rfl (by omega) rfl) ?_
    | refine wG_pure (e_ia_vwm rfl rfl (by omega) (by omega) rfl) ?_
    | refine wG_pure (e_ia_vwi rfl rfl (by omega) rfl) ?_
    | refine wG_pure (e_ia_vwn rfl rfl (by omega) (by omega) rfl) ?_
    | refine wG_n rfl rfl ?_
    | refine wG_u rfl rfl ?_
    | refine wG_new (o_mks rfl rfl (by omega) (by decide)) ?_))
  refine wC_loop Nat (fun q => ⟨[(1, .vw nn (ls.map iRow)), (2, .pt 0 0 0), (5, .sl 1 1 0 r.cs.length), (6, .int .i64 ((sqS r ls q : Nat) : Int)), (7, .int .i64 (q : Int))], [(1, some ((maskL (later r) r.cs.length).map iRow)), (0, some [rRow a b r])], 2⟩) (fun q => q ≤ ls.length ∧ ∀ j, j < q → okQ r ls j) (fun q => ls.length - q) 0 ⟨Nat.zero_le _, fun j hj => absurd hj (Nat.not_lt_zero _)⟩ ?_ (fun _ _ => Nat.zero_le _) ?_
  · exact ⟨⟨⟨rfl, rfl⟩, ⟨rfl, rfl⟩, ⟨rfl, rfl⟩, ⟨rfl, rfl⟩, ⟨rfl, rfl⟩, trivial⟩, ⟨rfl, by show 1 < 2; decide, ltrI _ _⟩, ⟨rfl, by show 0 < 2; decide, by simp [rRow, AV.ltr]⟩, trivial⟩
  rintro q ⟨hq, hok⟩
  repeat (first
    | refine wC_a rfl ?_
    | refine q_s rfl ?_
    | refine q_b rfl ?_
    | refine wG_nil ?_
    | refine wG_g rfl ?_
    | refine wG_pure (o_len_vwm rfl) ?_
    | refine wG_pure (o_not_d rfl) ?_
    | refine wG_p rfl (by first | exact rfl | omega) ?_
    | refine wG_pure (o_str2 rfl rfl rfl) ?_
    | refine wG_pure (e_istr rfl rfl (by omega)) ?_
    | refine wG_pure (e_istr0 rfl rfl (by omega)) ?_
    | refine wG_pure (o_not rfl) ?_
    | refine wG_pure (e_ia_vw0 rfl rfl (by omega) rfl) ?_
    | refine wG_pure (e_ia_vwp rfl rfl (by omega) rfl) ?_
    | refine wG_pure (e_ia_vwm rfl rfl (by omega) (by omega) rfl) ?_
    | refine wG_pure (e_ia_vwi rfl rfl (by omega) rfl) ?_
    | refine wG_pure (e_ia_vwn rfl rfl (by omega) (by omega) rfl) ?_
    | refine wG_n rfl rfl ?_
    | refine wG_u rfl rfl ?_
    | refine wG_new (o_mks rfl rfl (by omega) (by decide)) ?_)
  refine wC_cond_d rfl (fun h4 => ?_) (fun h4 => ?_)
  · have hq2 : q < ls.length := by omega
    have cq := cI (ls.getD q default)
    have bq := idx_b r (ls.getD q default)
    have hS := sqS_lt q hok
    have hS2 := lt10 h10 hS
    by_cases hi : 0 ≤ idx r (ls.getD q default)
    · obtain ⟨k, hk⟩ : ∃ k : Nat, idx r (ls.getD q default) = k := ⟨_, (Int.toNat_of_nonneg hi).symm⟩
      have hsk : sqI r ls q = k := by unfold sqI; rw [hk]; rfl
      rw [hk] at cq bq
      have hk2 : k < r.cs.length := by omega
      have cF := con56 true (later r) h10 hS2 hk2
      have hd : decide ((k : Int) < 0) = false := decide_eq_false (by omega)
      have hp := p10 hk2 h10
      by_cases hr : rdy r.cs.length (later r) (sqS r ls q) k
      · rw [decide_eq_true hr] at cF
        repeat (first | refine wG_call cq rfl rfl ?_ | (first
    | refine wC_a rfl ?_
    | refine q_s rfl ?_
    | refine q_b rfl ?_
    | refine wG_nil ?_
    | refine wG_g rfl ?_
    | refine wG_pure (o_len_vwm rfl) ?_
    | refine wG_pure (o_not_d rfl) ?_
    | refine wG_p rfl (by first | exact rfl | omega) ?_
    | refine wG_pure (o_str2 rfl rfl rfl) ?_
    | refine wG_pure (e_istr rfl rfl (by omega)) ?_
    | refine wG_pure (e_istr0 rfl rfl (by omega)) ?_
    | refine wG_pure (o_not rfl) ?_
    | refine wG_pure (e_ia_vw0 rfl rfl (by omega) rfl) ?_
    | refine wG_pure (e_ia_vwp rfl rfl (by omega) rfl) ?_
    | refine wG_pure (e_ia_vwm rfl rfl (by omega) (by omega) rfl) ?_
    | refine wG_pure (e_ia_vwi rfl rfl (by omega) rfl) ?_
    | refine wG_pure (e_ia_vwn rfl rfl (by omega) (by omega) rfl) ?_
    | refine wG_n rfl rfl ?_
    | refine wG_u rfl rfl ?_
    | refine wG_new (o_mks rfl rfl (by omega) (by decide)) ?_))
        simp only [hd]
        repeat (first | refine wG_call cF (ag_sl rfl rfl (maskL_len _ _).symm iRow_plain (ag_int rfl (ag_int rfl ag_nil))) rfl ?_ | refine wG_pure (o_cvu rfl (by omega)) ?_ | refine wG_pure (o_shl1 rfl rfl (by omega)) ?_ | refine wG_pure (o_or rfl rfl (by omega) (by omega)) ?_ | (first
    | refine wC_a rfl ?_
    | refine q_s rfl ?_
    | refine q_b rfl ?_
    | refine wG_nil ?_
    | refine wG_g rfl ?_
    | refine wG_pure (o_len_vwm rfl) ?_
    | refine wG_pure (o_not_d rfl) ?_
    | refine wG_p rfl (by first | exact rfl | omega) ?_
    | refine wG_pure (o_str2 rfl rfl rfl) ?_
    | refine wG_pure (e_istr rfl rfl (by omega)) ?_
    | refine wG_pure (e_istr0 rfl rfl (by omega)) ?_
    | refine wG_pure (o_not rfl) ?_
    | refine wG_pure (e_ia_vw0 rfl rfl (by omega) rfl) ?_
    | refine wG_pure (e_ia_vwp rfl rfl (by omega) rfl) ?_
    | refine wG_pure (e_ia_vwm rfl rfl (by omega) (by omega) rfl) ?_
    | refine wG_pure (e_ia_vwi rfl rfl (by omega) rfl) ?_
    | refine wG_pure (e_ia_vwn rfl rfl (by omega) (by omega) rfl) ?_
    | refine wG_n rfl rfl ?_
    | refine wG_u rfl rfl ?_
    | refine wG_new (o_mks rfl rfl (by omega) (by decide)) ?_))
        have hokq : okQ r ls q := ⟨hi, by rw [hsk]; exact hr⟩
        refine ⟨q + 1, ⟨by omega, lt_up' hok hokq⟩, by omega, ⟨⟨rfl, rfl⟩, ⟨rfl, rfl⟩, ⟨rfl, rfl⟩, ⟨?_, rfl⟩, ⟨rfl, rfl⟩, trivial⟩, ⟨rfl, by show 1 < 2; decide, ltrI _ _⟩, ⟨rfl, by show 0 < 2; decide, by simp [rRow, AV.ltr]⟩, trivial⟩
        rw [sqS, hsk]; rfl
      · rw [decide_eq_false hr] at cF
        repeat (first | refine wG_call cq rfl rfl ?_ | (first
    | refine wC_a rfl ?_
    | refine q_s rfl ?_
    | refine q_b rfl ?_
    | refine wG_nil ?_
    | refine wG_g rfl ?_
    | refine wG_pure (o_len_vwm rfl) ?_
    | refine wG_pure (o_not_d rfl) ?_
    | refine wG_p rfl (by first | exact rfl | omega) ?_
    | refine wG_pure (o_str2 rfl rfl rfl) ?_
    | refine wG_pure (e_istr rfl rfl (by omega)) ?_
    | refine wG_pure (e_istr0 rfl rfl (by omega)) ?_
    | refine wG_pure (o_not rfl) ?_
    | refine wG_pure (e_ia_vw0 rfl rfl (by omega) rfl) ?_
    | refine wG_pure (e_ia_vwp rfl rfl (by omega) rfl) ?_
    | refine wG_pure (e_ia_vwm rfl rfl (by omega) (by omega) rfl) ?_
    | refine wG_pure (e_ia_vwi rfl rfl (by omega) rfl) ?_
    | refine wG_pure (e_ia_vwn rfl rfl (by omega) (by omega) rfl) ?_
    | refine wG_n rfl rfl ?_
    | refine wG_u rfl rfl ?_
    | refine wG_new (o_mks rfl rfl (by omega) (by decide)) ?_))
        simp only [hd]
        repeat (first | refine wG_call cF (ag_sl rfl rfl (maskL_len _ _).symm iRow_plain (ag_int rfl (ag_int rfl ag_nil))) rfl ?_ | (first
    | refine wC_a rfl ?_
    | refine q_s rfl ?_
    | refine q_b rfl ?_
    | refine wG_nil ?_
    | refine wG_g rfl ?_
    | refine wG_pure (o_len_vwm rfl) ?_
    | refine wG_pure (o_not_d rfl) ?_
    | refine wG_p rfl (by first | exact rfl | omega) ?_
    | refine wG_pure (o_str2 rfl rfl rfl) ?_
    | refine wG_pure (e_istr rfl rfl (by omega)) ?_
    | refine wG_pure (e_istr0 rfl rfl (by omega)) ?_
    | refine wG_pure (o_not rfl) ?_
    | refine wG_pure (e_ia_vw0 rfl rfl (by omega) rfl) ?_
    | refine wG_pure (e_ia_vwp rfl rfl (by omega) rfl) ?_
    | refine wG_pure (e_ia_vwm rfl rfl (by omega) (by omega) rfl) ?_
    | refine wG_pure (e_ia_vwi rfl rfl (by omega) rfl) ?_
    | refine wG_pure (e_ia_vwn rfl rfl (by omega) (by omega) rfl) ?_
    | refine wG_n rfl rfl ?_
    | refine wG_u rfl rfl ?_
    | refine wG_new (o_mks rfl rfl (by omega) (by decide)) ?_))
        refine ret_boolE (.inr rfl) ⟨_, retV_mv rfl, (decide_eq_false fun h => hr ?_).symm⟩
        have := (h.1 q hq2).2
        rwa [hsk] at this
    · have hd : decide (idx r (ls.getD q default) < 0) = true := decide_eq_true (by omega)
      repeat (first | refine wG_call cq rfl rfl ?_ | (first
    | refine wC_a rfl ?_
    | refine q_s rfl ?_
    | refine q_b rfl ?_
    | refine wG_nil ?_
    | refine wG_g rfl ?_
    | refine wG_pure (o_len_vwm rfl) ?_
    | refine wG_pure (o_not_d rfl) ?_
    | refine wG_p rfl (by first | exact rfl | omega) ?_
    | refine wG_pure (o_str2 rfl rfl rfl) ?_
    | refine wG_pure (e_istr rfl rfl (by omega)) ?_
    | refine wG_pure (e_istr0 rfl rfl (by omega)) ?_
    | refine wG_pure (o_not rfl) ?_
    | refine wG_pure (e_ia_vw0 rfl rfl (by omega) rfl) ?_
    | refine wG_pure (e_ia_vwp rfl rfl (by omega) rfl) ?_
    | refine wG_pure (e_ia_vwm rfl rfl (by omega) (by omega) rfl) ?_
    | refine wG_pure (e_ia_vwi rfl rfl (by omega) rfl) ?_
    | refine wG_pure (e_ia_vwn rfl rfl (by omega) (by omega) rfl) ?_
    | refine wG_n rfl rfl ?_
    | refine wG_u rfl rfl ?_
    | refine wG_new (o_mks rfl rfl (by omega) (by decide)) ?_))
      simp only [hd]
      repeat (first
    | refine wC_a rfl ?_
    | refine q_s rfl ?_
    | refine q_b rfl ?_
    | refine wG_nil ?_
    | refine wG_g rfl ?_
    | refine wG_pure (o_len_vwm rfl) ?_
    | refine wG_pure (o_not_d rfl) ?_
    | refine wG_p rfl (by first | exact rfl | omega) ?_
    | refine wG_pure (o_str2 rfl rfl rfl) ?_
    | refine wG_pure (e_istr rfl rfl (by omega)) ?_
    | refine wG_pure (e_istr0 rfl rfl (by omega)) ?_
    | refine wG_pure (o_not rfl) ?_
    | refine wG_pure (e_ia_vw0 rfl rfl (by omega) rfl) ?_
    | refine wG_pure (e_ia_vwp rfl rfl (by omega) rfl) ?_
    | refine wG_pure (e_ia_vwm rfl rfl (by omega) (by omega) rfl) ?_
    | refine wG_pure (e_ia_vwi rfl rfl (by omega) rfl) ?_
    | refine wG_pure (e_ia_vwn rfl rfl (by omega) (by omega) rfl) ?_
    | refine wG_n rfl rfl ?_
    | refine wG_u rfl rfl ?_
    | refine wG_new (o_mks rfl rfl (by omega) (by decide)) ?_)
      exact ret_boolE (.inr rfl) ⟨_, retV_mv rfl, (decide_eq_false fun h => hi (h.1 q hq2).1).symm⟩
  · have hq3 : q = ls.length := by omega
    subst hq3
    repeat (first
    | refine wC_a rfl ?_
    | refine q_s rfl ?_
    | refine q_b rfl ?_
    | refine wG_nil ?_
    | refine wG_g rfl ?_
    | refine wG_pure (o_len_vwm rfl) ?_
    | refine wG_pure (o_not_d rfl) ?_
    | refine wG_p rfl (by first | exact rfl | omega) ?_
    | refine wG_pure (o_str2 rfl rfl rfl) ?_
    | refine wG_pure (e_istr rfl rfl (by omega)) ?_
    | refine wG_pure (e_istr0 rfl rfl (by omega)) ?_
    | refine wG_pure (o_not rfl) ?_
    | refine wG_pure (e_ia_vw0 rfl rfl (by omega) rfl) ?_
    | refine wG_pure (e_ia_vwp rfl rfl (by omega) rfl) ?_
    | refine wG_pure (e_ia_vwm rfl rfl (by omega) (by omega) rfl) ?_
    | refine wG_pure (e_ia_vwi rfl rfl (by omega) rfl) ?_
    | refine wG_pure (e_ia_vwn rfl rfl (by omega) (by omega) rfl) ?_
    | refine wG_n rfl rfl ?_
    | refine wG_u rfl rfl ?_
    | refine wG_new (o_mks rfl rfl (by omega) (by decide)) ?_)
    refine ret_boolE (.inr rfl) ⟨_, retV_mv rfl, decide_eq_decide.2 ?_⟩
    constructor
    · intro h; exact ⟨hok, by omega⟩
    · intro h; have := h.2; omega
open Classical in
theorem con21_yes (a b nn : Bool) (r : Rc) (ls : List Int) (h1 : r.cs.length ≤ 1048576) (h2 : r.xs.length ≤ 1048576) (h3 : ls.length ≤ 1048576) (hC : GoodC r) : Con Try.prog 21 true [.agg (rRow a b r), .vw nn (ls.map iRow)] (.tup [.bool (decide (isSeq r ls)), .bool true]) [] := by
  refine con_of_wp mixed fun21 (by simp) [] plain_nil ?_
  unfold ac21 ro21
  simp only [zipT]
  have c1 := con40 a b r h1 h2
  rw [decide_eq_true hC] at c1
  have c2 := con52 a b nn r ls hC.1 h3
  repeat (first | refine wG_call c1 rfl rfl ?_ | refine wG_call c2 rfl rfl ?_ | (first
    | refine wC_a rfl ?_
    | refine q_s rfl ?_
    | refine q_b rfl ?_
    | refine wG_nil ?_
    | refine wG_g rfl ?_
    | refine wG_pure (o_len_vwm rfl) ?_
    | refine wG_pure (o_not_d rfl) ?_
    | refine wG_p rfl (by first | exact rfl | omega) ?_
    | refine wG_pure (o_str2 rfl rfl rfl) ?_
    | refine wG_pure (e_istr rfl rfl (by omega)) ?_
    | refine wG_pure (e_istr0 rfl rfl (by omega)) ?_
    | refine wG_pure (o_not rfl) ?_
    | refine wG_pure (e_ia_vw0 rfl rfl (by omega) rfl) ?_
    | refine wG_pure (e_ia_vwp rfl rfl (by omega) rfl) ?_
    | refine wG_pure (e_ia_vwm rfl rfl (by omega) (by omega) rfl) ?_
    | refine wG_pure (e_ia_vwi rfl rfl (by omega) rfl) ?_
    | refine wG_pure (e_ia_vwn rfl rfl (by omega) (by omega) rfl) ?_
    | refine wG_n rfl rfl ?_
    | refine wG_u rfl rfl ?_
    | refine wG_new (o_mks rfl rfl (by omega) (by decide)) ?_))
  exact ret_pl (.inr rfl) (retVs_2 (retV_mv rfl) (retV_mv rfl)) rfl rfl (by simp)
theorem con21_no (a b nn : Bool) (r : Rc) (ls : List Int) (h1 : r.cs.length ≤ 1048576) (h2 : r.xs.length ≤ 1048576) (hC : ¬ GoodC r) : Con Try.prog 21 true [.agg (rRow a b r), .vw nn (ls.map iRow)] (.tup [.bool false, .bool false]) [] := by
  classical
  refine con_of_wp mixed fun21 (by simp) [] plain_nil ?_
  unfold ac21 ro21
  simp only [zipT]
  have c1 := con40 a b r h1 h2
  rw [decide_eq_false hC] at c1
  repeat (first | refine wG_call c1 rfl rfl ?_ | (first
    | refine wC_a rfl ?_
    | refine q_s rfl ?_
    | refine q_b rfl ?_
    | refine wG_nil ?_
    | refine wG_g rfl ?_
    | refine wG_pure (o_len_vwm rfl) ?_
    | refine wG_pure (o_not_d rfl) ?_
    | refine wG_p rfl (by first | exact rfl | omega) ?_
    | refine wG_pure (o_str2 rfl rfl rfl) ?_
    | refine wG_pure (e_istr rfl rfl (by omega)) ?_
    | refine wG_pure (e_istr0 rfl rfl (by omega)) ?_
    | refine wG_pure (o_not rfl) ?_
    | refine wG_pure (e_ia_vw0 rfl rfl (by omega) rfl) ?_
    | refine wG_pure (e_ia_vwp rfl rfl (by omega) rfl) ?_
    | refine wG_pure (e_ia_vwm rfl rfl (by omega) (by omega) rfl) ?_
    | refine wG_pure (e_ia_vwi rfl rfl (by omega) rfl) ?_
    | refine wG_pure (e_ia_vwn rfl rfl (by omega) (by omega) rfl) ?_
    | refine wG_n rfl rfl ?_
    | refine wG_u rfl rfl ?_
    | refine wG_new (o_mks rfl rfl (by omega) (by decide)) ?_))
  exact ret_pl (.inr rfl) (retVs_2 (retV_mv rfl) (retV_mv rfl)) rfl rfl (by simp)
theorem drg {a b : Bool} {r : Rc} : dr (hg (gH a b r)) 6 (.pt (1 + ((oO r).length + 2)) 0 0) = cgC r := dr_gH (fun q rows h _ => h)
open Classical in
theorem con23_yes (a b nn : Bool) (r : Rc) (ls : List Int) (h1 : r.cs.length ≤ 1048576) (h2 : r.xs.length ≤ 1048576) (h3 : ls.length ≤ 1048576) (hC : GoodC r) : Con Try.prog 23 true [.agg (rRow a b r), .vw nn (ls.map iRow)] (.tup [.bool (decide (isSeq r ls)), .bool true]) [] := by
  refine con_of_wp mixed fun23 (by simp) [] plain_nil ?_
  unfold ac23 ro23
  simp only [zipT]
  have c2 := con53 nn r ls hC.1.1 h3
  repeat (first
    | refine wC_a rfl ?_
    | refine q_s rfl ?_
    | refine q_b rfl ?_
    | refine wG_nil ?_
    | refine wG_g rfl ?_
    | refine wG_pure (o_len_vwm rfl) ?_
    | refine wG_pure (o_not_d rfl) ?_
    | refine wG_p rfl (by first | exact rfl | omega) ?_
    | refine wG_pure (o_str2 rfl rfl rfl) ?_
    | refine wG_pure (e_istr rfl rfl (by omega)) ?_
    | refine wG_pure (e_istr0 rfl rfl (by omega)) ?_
    | refine wG_pure (o_not rfl) ?_
    | refine wG_pure (e_ia_vw0 rfl rfl (by omega) rfl) ?_
    | refine wG_pure (e_ia_vwp rfl rfl (by omega) rfl) ?_
    | refine wG_pure (e_ia_vwm rfl rfl (by omega) (by omega) rfl) ?_
    | refine wG_pure (e_ia_vwi rfl rfl (by omega) rfl) ?_
    | refine wG_pure (e_ia_vwn rfl rfl (by omega) (by omega) rfl) ?_
    | refine wG_n rfl rfl ?_
    | refine wG_u rfl rfl ?_
    | refine wG_new (o_mks rfl rfl (by omega) (by decide)) ?_)
  refine wG_callG (v' := .tup [.pt (1 + ((oO r).length + 2)) 0 0, .bool true]) (con45_yes a b r h1 h2 hC) rfl rfl rfl ?_
  change wpG _ _ _ ⟨_, gH a b r, _⟩ _
  repeat (first | refine wG_call c2 (ag_any drg (ag_vw rfl ag_nil)) rfl ?_ | (first
    | refine wC_a rfl ?_
    | refine q_s rfl ?_
    | refine q_b rfl ?_
    | refine wG_nil ?_
    | refine wG_g rfl ?_
    | refine wG_pure (o_len_vwm rfl) ?_
    | refine wG_pure (o_not_d rfl) ?_
    | refine wG_p rfl (by first | exact rfl | omega) ?_
    | refine wG_pure (o_str2 rfl rfl rfl) ?_
    | refine wG_pure (e_istr rfl rfl (by omega)) ?_
    | refine wG_pure (e_istr0 rfl rfl (by omega)) ?_
    | refine wG_pure (o_not rfl) ?_
    | refine wG_pure (e_ia_vw0 rfl rfl (by omega) rfl) ?_
    | refine wG_pure (e_ia_vwp rfl rfl (by omega) rfl) ?_
    | refine wG_pure (e_ia_vwm rfl rfl (by omega) (by omega) rfl) ?_
    | refine wG_pure (e_ia_vwi rfl rfl (by omega) rfl) ?_
    | refine wG_pure (e_ia_vwn rfl rfl (by omega) (by omega) rfl) ?_
    | refine wG_n rfl rfl ?_
    | refine wG_u rfl rfl ?_
    | refine wG_new (o_mks rfl rfl (by omega) (by decide)) ?_))
  exact ret_pl (.inr rfl) (retVs_2 (retV_mv rfl) (retV_mv rfl)) rfl rfl (by simp)
theorem con23_no (a b nn : Bool) (r : Rc) (ls : List Int) (h1 : r.cs.length ≤ 1048576) (h2 : r.xs.length ≤ 1048576) (hC : ¬ GoodC r) : Con Try.prog 23 true [.agg (rRow a b r), .vw nn (ls.map iRow)] (.tup [.bool false, .bool false]) [] := by
  refine con_of_wp mixed fun23 (by simp) [] plain_nil ?_
  unfold ac23 ro23
  simp only [zipT]
  have c1 := con45_no a b r h1 h2 hC
  repeat (first | refine wG_call c1 rfl rfl ?_ | (first
    | refine wC_a rfl ?_
    | refine q_s rfl ?_
    | refine q_b rfl ?_
    | refine wG_nil ?_
    | refine wG_g rfl ?_
    | refine wG_pure (o_len_vwm rfl) ?_
    | refine wG_pure (o_not_d rfl) ?_
    | refine wG_p rfl (by first | exact rfl | omega) ?_
    | refine wG_pure (o_str2 rfl rfl rfl) ?_
    | refine wG_pure (e_istr rfl rfl (by omega)) ?_
    | refine wG_pure (e_istr0 rfl rfl (by omega)) ?_
    | refine wG_pure (o_not rfl) ?_
    | refine wG_pure (e_ia_vw0 rfl rfl (by omega) rfl) ?_
    | refine wG_pure (e_ia_vwp rfl rfl (by omega) rfl) ?_
    | refine wG_pure (e_ia_vwm rfl rfl (by omega) (by omega) rfl) ?_
    | refine wG_pure (e_ia_vwi rfl rfl (by omega) rfl) ?_
    | refine wG_pure (e_ia_vwn rfl rfl (by omega) (by omega) rfl) ?_
    | refine wG_n rfl rfl ?_
    | refine wG_u rfl rfl ?_
    | refine wG_new (o_mks rfl rfl (by omega) (by decide)) ?_))
  exact ret_pl (.inr rfl) (retVs_2 (retV_mv rfl) (retV_mv rfl)) rfl rfl (by simp)
end Go.Proofs.Ythicnjgdngfbkaa.Rec
