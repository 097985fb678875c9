/- Totals of the finds of a type, and how broken they are: both sides and the laws. -/
import Derived.Test.YtjfppdgomnjnmaaFndB
import Derived.Test.YtjfppdgomnjnmaaGcdA
namespace Go.Proofs.Ytjfppdgomnjnmaa.Fnd
open Go Go.Proofs.Ytjfppdgomnjnmaa.Ab Go.Proofs.Ytjfppdgomnjnmaa.Il
attribute [local irreducible] wpO wpC wpDr wpQ wpG wpE stepA seqQ blkQ Ret ev
set_option maxRecDepth 10000
set_option maxHeartbeats 4000000
set_option linter.unusedSimpArgs false
set_option linter.unusedVariables false

def ac4 : AC := (.seq (.reg [⟨(some 4), none, (.mv (.c (.bool false)))⟩]) (.seq (.seq (.reg [⟨(some 15), none, (.mv (.t 1))⟩, ⟨(some 16), none, (.slen (.t 15))⟩, ⟨(some 17), none, (.bin .gtr (.t 16) (.c (.int .i64 1048576)))⟩]) (.cond (.t 17) (.seq (.reg [⟨(some 4), none, (.mv (.c (.bool true)))⟩]) .ret) .skip)) (.seq (.reg [⟨(some 5), none, (.mv (.c (.int .i64 1048576)))⟩]) (.seq (.reg [⟨(some 18), none, (.mv (.t 0))⟩, ⟨(some 19), none, (.mv (.t 5))⟩, ⟨(some 20), none, (.call 9 [(.t 18), (.t 19)])⟩, ⟨(some 5), none, (.mv (.t 20))⟩]) (.seq (.seq (.reg [⟨(some 21), none, (.mv (.t 5))⟩, ⟨(some 22), none, (.bin .lss (.t 21) (.c (.int .i64 0)))⟩]) (.cond (.t 22) (.seq (.reg [⟨(some 4), none, (.mv (.c (.bool true)))⟩]) .ret) .skip)) (.seq (.reg [⟨(some 24), none, (.mv (.t 0))⟩, ⟨(some 25), none, (.call 11 [(.t 24)])⟩, ⟨(some 26), none, (.mv (.t 1))⟩, ⟨(some 27), none, (.call 14 [(.t 25), (.t 26)])⟩, ⟨(some 23), none, (.mv (.t 27))⟩, ⟨(some 28), none, (.ext (.t 23) 0)⟩, ⟨(some 29), none, (.ext (.t 23) 1)⟩, ⟨(some 30), none, (.ext (.t 23) 2)⟩, ⟨(some 31), none, (.ext (.t 23) 3)⟩, ⟨(some 6), none, (.mv (.t 28))⟩, ⟨(some 7), none, (.mv (.t 29))⟩, ⟨(some 8), none, (.mv (.t 30))⟩, ⟨(some 9), none, (.mv (.t 31))⟩]) (.seq (.reg [⟨(some 32), none, (.mv (.t 0))⟩, ⟨(some 33), none, (.call 11 [(.t 32)])⟩, ⟨(some 10), none, (.mv (.t 33))⟩]) (.seq (.reg [⟨(some 35), none, (.mv (.t 10))⟩, ⟨(some 36), none, (.mv (.t 1))⟩, ⟨(some 37), none, (.call 15 [(.t 35), (.t 36)])⟩, ⟨(some 34), none, (.mv (.t 37))⟩, ⟨(some 38), none, (.ext (.t 34) 0)⟩, ⟨(some 39), none, (.ext (.t 34) 1)⟩, ⟨(some 40), none, (.ext (.t 34) 2)⟩, ⟨(some 41), none, (.ext (.t 34) 3)⟩, ⟨(some 11), none, (.mv (.t 38))⟩, ⟨(some 12), none, (.mv (.t 39))⟩, ⟨(some 13), none, (.mv (.t 40))⟩, ⟨(some 14), none, (.mv (.t 41))⟩]) (.seq (.seq (.reg [⟨(some 42), none, (.mv (.t 11))⟩, ⟨(some 43), none, (.mv (.t 6))⟩, ⟨(some 44), none, (.bin .neq (.t 42) (.t 43))⟩, ⟨(some 45), none, (.mv (.t 44))⟩, ⟨(some 46), (some (45, false)), (.mv (.t 12))⟩, ⟨(some 47), (some (45, false)), (.mv (.t 7))⟩, ⟨(some 48), (some (45, false)), (.bin .neq (.t 46) (.t 47))⟩, ⟨(some 49), none, (.pick (.t 45) (.c (.bool true)) (.t 48))⟩, ⟨(some 50), none, (.mv (.t 49))⟩, ⟨(some 51), (some (50, false)), (.mv (.t 13))⟩, ⟨(some 52), (some (50, false)), (.mv (.t 8))⟩, ⟨(some 53), (some (50, false)), (.bin .neq (.t 51) (.t 52))⟩, ⟨(some 54), none, (.pick (.t 50) (.c (.bool true)) (.t 53))⟩, ⟨(some 55), none, (.mv (.t 54))⟩, ⟨(some 56), (some (55, false)), (.mv (.t 14))⟩, ⟨(some 57), (some (55, false)), (.mv (.t 9))⟩, ⟨(some 58), (some (55, false)), (.bool2 true (.t 56) (.t 57))⟩, ⟨(some 59), none, (.pick (.t 55) (.c (.bool true)) (.t 58))⟩]) (.cond (.t 59) (.seq (.reg [⟨(some 4), none, (.mv (.c (.bool false)))⟩]) .ret) .skip)) (.seq (.seq (.reg [⟨(some 60), none, (.mv (.t 10))⟩, ⟨(some 61), none, (.mv (.t 0))⟩, ⟨(some 62), none, (.call 11 [(.t 61)])⟩, ⟨(some 63), none, (.call 13 [(.t 60), (.t 62)])⟩, ⟨(some 64), none, (.un .not (.t 63))⟩]) (.cond (.t 64) (.seq (.reg [⟨(some 4), none, (.mv (.c (.bool false)))⟩]) .ret) .skip)) (.seq (.reg [⟨(some 4), none, (.mv (.c (.bool true)))⟩]) .ret)))))))))))
def ro4 : List AOp := [(.mv (.t 4))]
theorem fun4 : Fun Try.prog 4 65 ac4 ro4 := ⟨Try.f4, _, Try.func4, by kernel_rfl, rfl, rfl, by kernel_rfl, by kernel_rfl, by decide⟩
def ac5 : AC := (.seq (.reg [⟨(some 4), none, (.mv (.c (.bool false)))⟩]) (.seq (.seq (.reg [⟨(some 13), none, (.mv (.t 1))⟩, ⟨(some 14), none, (.slen (.t 13))⟩, ⟨(some 15), none, (.bin .gtr (.t 14) (.c (.int .i64 1048576)))⟩]) (.cond (.t 15) (.seq (.reg [⟨(some 4), none, (.mv (.c (.bool true)))⟩]) .ret) .skip)) (.seq (.reg [⟨(some 5), none, (.mv (.c (.int .i64 1048576)))⟩]) (.seq (.reg [⟨(some 16), none, (.mv (.t 0))⟩, ⟨(some 17), none, (.mv (.t 5))⟩, ⟨(some 18), none, (.call 9 [(.t 16), (.t 17)])⟩, ⟨(some 5), none, (.mv (.t 18))⟩]) (.seq (.seq (.reg [⟨(some 19), none, (.mv (.t 5))⟩, ⟨(some 20), none, (.bin .lss (.t 19) (.c (.int .i64 0)))⟩]) (.cond (.t 20) (.seq (.reg [⟨(some 4), none, (.mv (.c (.bool true)))⟩]) .ret) .skip)) (.seq (.reg [⟨(some 22), none, (.mv (.t 0))⟩, ⟨(some 23), none, (.call 11 [(.t 22)])⟩, ⟨(some 24), none, (.mv (.t 1))⟩, ⟨(some 25), none, (.call 16 [(.t 23), (.t 24)])⟩, ⟨(some 21), none, (.mv (.t 25))⟩, ⟨(some 26), none, (.ext (.t 21) 0)⟩, ⟨(some 27), none, (.ext (.t 21) 1)⟩, ⟨(some 28), none, (.ext (.t 21) 2)⟩, ⟨(some 6), none, (.mv (.t 26))⟩, ⟨(some 7), none, (.mv (.t 27))⟩, ⟨(some 8), none, (.mv (.t 28))⟩]) (.seq (.reg [⟨(some 29), none, (.mv (.t 0))⟩, ⟨(some 30), none, (.call 11 [(.t 29)])⟩, ⟨(some 9), none, (.mv (.t 30))⟩]) (.seq (.reg [⟨(some 32), none, (.mv (.t 9))⟩, ⟨(some 33), none, (.mv (.t 1))⟩, ⟨(some 34), none, (.call 17 [(.t 32), (.t 33)])⟩, ⟨(some 31), none, (.mv (.t 34))⟩, ⟨(some 35), none, (.ext (.t 31) 0)⟩, ⟨(some 36), none, (.ext (.t 31) 1)⟩, ⟨(some 37), none, (.ext (.t 31) 2)⟩, ⟨(some 10), none, (.mv (.t 35))⟩, ⟨(some 11), none, (.mv (.t 36))⟩, ⟨(some 12), none, (.mv (.t 37))⟩]) (.seq (.seq (.reg [⟨(some 38), none, (.mv (.t 10))⟩, ⟨(some 39), none, (.mv (.t 6))⟩, ⟨(some 40), none, (.bin .neq (.t 38) (.t 39))⟩, ⟨(some 41), none, (.mv (.t 40))⟩, ⟨(some 42), (some (41, false)), (.mv (.t 11))⟩, ⟨(some 43), (some (41, false)), (.mv (.t 7))⟩, ⟨(some 44), (some (41, false)), (.bin .neq (.t 42) (.t 43))⟩, ⟨(some 45), none, (.pick (.t 41) (.c (.bool true)) (.t 44))⟩, ⟨(some 46), none, (.mv (.t 45))⟩, ⟨(some 47), (some (46, false)), (.mv (.t 12))⟩, ⟨(some 48), (some (46, false)), (.mv (.t 8))⟩, ⟨(some 49), (some (46, false)), (.bool2 true (.t 47) (.t 48))⟩, ⟨(some 50), none, (.pick (.t 46) (.c (.bool true)) (.t 49))⟩]) (.cond (.t 50) (.seq (.reg [⟨(some 4), none, (.mv (.c (.bool false)))⟩]) .ret) .skip)) (.seq (.seq (.reg [⟨(some 51), none, (.mv (.t 9))⟩, ⟨(some 52), none, (.mv (.t 0))⟩, ⟨(some 53), none, (.call 11 [(.t 52)])⟩, ⟨(some 54), none, (.call 13 [(.t 51), (.t 53)])⟩, ⟨(some 55), none, (.un .not (.t 54))⟩]) (.cond (.t 55) (.seq (.reg [⟨(some 4), none, (.mv (.c (.bool false)))⟩]) .ret) .skip)) (.seq (.reg [⟨(some 4), none, (.mv (.c (.bool true)))⟩]) .ret)))))))))))
def ro5 : List AOp := [(.mv (.t 4))]
theorem fun5 : Fun Try.prog 5 56 ac5 ro5 := ⟨Try.f5, _, Try.func5, by kernel_rfl, rfl, rfl, by kernel_rfl, by kernel_rfl, by decide⟩
def ac14 : AC := (.seq (.reg [⟨(some 4), none, (.mv (.c (.int .i64 0)))⟩, ⟨(some 5), none, (.mv (.c (.int .i64 0)))⟩, ⟨(some 6), none, (.mv (.c (.int .i64 0)))⟩, ⟨(some 7), none, (.mv (.c (.bool false)))⟩]) (.seq (.seq (.reg [⟨(some 12), none, (.mv (.t 0))⟩, ⟨(some 13), none, (.call 30 [(.t 12)])⟩, ⟨(some 14), none, (.un .not (.t 13))⟩, ⟨(some 15), none, (.mv (.t 14))⟩, ⟨(some 16), (some (15, false)), (.mv (.t 1))⟩, ⟨(some 17), (some (15, false)), (.call 35 [(.t 16)])⟩, ⟨(some 18), (some (15, false)), (.un .not (.t 17))⟩, ⟨(some 19), none, (.pick (.t 15) (.c (.bool true)) (.t 18))⟩]) (.cond (.t 19) (.seq (.reg [⟨(some 4), none, (.mv (.c (.int .i64 0)))⟩, ⟨(some 5), none, (.mv (.c (.int .i64 0)))⟩, ⟨(some 6), none, (.mv (.c (.int .i64 0)))⟩, ⟨(some 7), none, (.mv (.c (.bool false)))⟩]) .ret) .skip)) (.seq (.reg [⟨(some 8), none, (.mv (.c (.int .i64 0)))⟩, ⟨(some 9), none, (.mv (.c (.int .i64 0)))⟩, ⟨(some 10), none, (.mv (.c (.int .i64 0)))⟩]) (.seq (.seq (.reg [⟨(some 11), none, (.mv (.c (.int .i64 0)))⟩]) (.blk 0 (.loop (.seq (.seq (.reg [⟨(some 20), none, (.mv (.t 11))⟩, ⟨(some 21), none, (.mv (.t 0))⟩, ⟨(some 22), none, (.len (.t 21))⟩, ⟨(some 23), none, (.bin .lss (.t 20) (.t 22))⟩]) (.cond (.t 23) .skip (.exit 0))) (.seq (.blk 1 (.seq (.reg [⟨(some 26), none, (.mv (.t 0))⟩, ⟨(some 27), none, (.mv (.t 11))⟩, ⟨(some 28), none, (.ia 5 (.t 26) (.t 27))⟩, ⟨(some 29), none, (.fa 1 (.t 28))⟩, ⟨(some 30), none, (.ld false 1 (.t 29))⟩, ⟨(some 31), none, (.mv (.t 1))⟩, ⟨(some 32), none, (.str2 .eql (.t 30) (.t 31))⟩]) (.cond (.t 32) (.seq (.reg [⟨(some 33), none, (.mv (.t 8))⟩, ⟨(some 34), none, (.mv (.t 0))⟩, ⟨(some 35), none, (.mv (.t 11))⟩, ⟨(some 36), none, (.ia 5 (.t 34) (.t 35))⟩, ⟨(some 37), none, (.fa 2 (.t 36))⟩, ⟨(some 38), none, (.ld false 1 (.t 37))⟩, ⟨(some 39), none, (.bin .add (.t 33) (.t 38))⟩, ⟨(some 8), none, (.mv (.t 39))⟩]) (.seq (.reg [⟨(some 40), none, (.mv (.t 9))⟩, ⟨(some 41), none, (.mv (.t 0))⟩, ⟨(some 42), none, (.mv (.t 11))⟩, ⟨(some 43), none, (.ia 5 (.t 41) (.t 42))⟩, ⟨(some 44), none, (.fa 3 (.t 43))⟩, ⟨(some 45), none, (.ld false 1 (.t 44))⟩, ⟨(some 46), none, (.bin .add (.t 40) (.t 45))⟩, ⟨(some 9), none, (.mv (.t 46))⟩]) (.reg [⟨(some 47), none, (.mv (.t 10))⟩, ⟨(some 48), none, (.mv (.t 0))⟩, ⟨(some 49), none, (.mv (.t 11))⟩, ⟨(some 50), none, (.ia 5 (.t 48) (.t 49))⟩, ⟨(some 51), none, (.fa 4 (.t 50))⟩, ⟨(some 52), none, (.ld false 1 (.t 51))⟩, ⟨(some 53), none, (.bin .add (.t 47) (.t 52))⟩, ⟨(some 10), none, (.mv (.t 53))⟩]))) .skip))) (.reg [⟨(some 24), none, (.mv (.t 11))⟩, ⟨(some 25), none, (.bin .add (.t 24) (.c (.int .i64 1)))⟩, ⟨(some 11), none, (.mv (.t 25))⟩])))))) (.seq (.reg [⟨(some 54), none, (.mv (.t 8))⟩, ⟨(some 55), none, (.mv (.t 9))⟩, ⟨(some 56), none, (.mv (.t 10))⟩, ⟨(some 4), none, (.mv (.t 54))⟩, ⟨(some 5), none, (.mv (.t 55))⟩, ⟨(some 6), none, (.mv (.t 56))⟩, ⟨(some 7), none, (.mv (.c (.bool true)))⟩]) .ret)))))
def ro14 : List AOp := [(.mv (.t 4)), (.mv (.t 5)), (.mv (.t 6)), (.mv (.t 7))]
theorem fun14 : Fun Try.prog 14 57 ac14 ro14 := ⟨Try.f14, _, Try.func14, by kernel_rfl, rfl, rfl, by kernel_rfl, by kernel_rfl, by decide⟩
def ac15 : AC := (.seq (.reg [⟨(some 4), none, (.mv (.c (.int .i64 0)))⟩, ⟨(some 5), none, (.mv (.c (.int .i64 0)))⟩, ⟨(some 6), none, (.mv (.c (.int .i64 0)))⟩, ⟨(some 7), none, (.mv (.c (.bool false)))⟩]) (.seq (.seq (.reg [⟨(some 13), none, (.mv (.t 0))⟩, ⟨(some 14), none, (.call 12 [(.t 13)])⟩, ⟨(some 15), none, (.un .not (.t 14))⟩, ⟨(some 16), none, (.mv (.t 15))⟩, ⟨(some 17), (some (16, false)), (.mv (.t 1))⟩, ⟨(some 18), (some (16, false)), (.call 36 [(.t 17)])⟩, ⟨(some 19), (some (16, false)), (.un .not (.t 18))⟩, ⟨(some 20), none, (.pick (.t 16) (.c (.bool true)) (.t 19))⟩]) (.cond (.t 20) (.seq (.reg [⟨(some 4), none, (.mv (.c (.int .i64 0)))⟩, ⟨(some 5), none, (.mv (.c (.int .i64 0)))⟩, ⟨(some 6), none, (.mv (.c (.int .i64 0)))⟩, ⟨(some 7), none, (.mv (.c (.bool false)))⟩]) .ret) .skip)) (.seq (.reg [⟨(some 8), none, (.mv (.c (.int .i64 0)))⟩, ⟨(some 9), none, (.mv (.c (.int .i64 0)))⟩, ⟨(some 10), none, (.mv (.c (.int .i64 0)))⟩]) (.seq (.seq (.reg [⟨(some 21), none, (.mv (.t 0))⟩, ⟨(some 22), none, (.len (.t 21))⟩, ⟨(some 23), none, (.mv (.c (.int .i64 0)))⟩]) (.blk 0 (.loop (.seq (.reg [⟨(some 24), none, (.bin .lss (.t 23) (.t 22))⟩]) (.seq (.cond (.t 24) .skip (.exit 0)) (.seq (.blk 1 (.seq (.reg [⟨(some 25), none, (.ia 5 (.t 21) (.t 23))⟩, ⟨(some 26), none, (.ld true 5 (.t 25))⟩, ⟨(some 12), none, (.alloc [(.int .i64 0), (.str ⟨#[]⟩), (.int .i64 0), (.int .i64 0), (.int .i64 0)])⟩, ⟨none, none, (.st 5 (.t 12) (.t 26))⟩]) (.seq (.reg [⟨(some 27), none, (.fa 1 (.t 12))⟩, ⟨(some 28), none, (.ld false 1 (.t 27))⟩, ⟨(some 29), none, (.mv (.t 1))⟩, ⟨(some 30), none, (.str2 .eql (.t 28) (.t 29))⟩]) (.cond (.t 30) (.seq (.reg [⟨(some 31), none, (.mv (.t 8))⟩, ⟨(some 32), none, (.fa 2 (.t 12))⟩, ⟨(some 33), none, (.ld false 1 (.t 32))⟩, ⟨(some 34), none, (.bin .add (.t 31) (.t 33))⟩, ⟨(some 8), none, (.mv (.t 34))⟩]) (.seq (.reg [⟨(some 35), none, (.mv (.t 9))⟩, ⟨(some 36), none, (.fa 3 (.t 12))⟩, ⟨(some 37), none, (.ld false 1 (.t 36))⟩, ⟨(some 38), none, (.bin .add (.t 35) (.t 37))⟩, ⟨(some 9), none, (.mv (.t 38))⟩]) (.reg [⟨(some 39), none, (.mv (.t 10))⟩, ⟨(some 40), none, (.fa 4 (.t 12))⟩, ⟨(some 41), none, (.ld false 1 (.t 40))⟩, ⟨(some 42), none, (.bin .add (.t 39) (.t 41))⟩, ⟨(some 10), none, (.mv (.t 42))⟩]))) .skip)))) (.reg [⟨(some 43), none, (.bin .add (.t 23) (.c (.int .i64 1)))⟩, ⟨(some 23), none, (.mv (.t 43))⟩]))))))) (.seq (.reg [⟨(some 44), none, (.mv (.t 8))⟩, ⟨(some 45), none, (.mv (.t 9))⟩, ⟨(some 46), none, (.mv (.t 10))⟩, ⟨(some 4), none, (.mv (.t 44))⟩, ⟨(some 5), none, (.mv (.t 45))⟩, ⟨(some 6), none, (.mv (.t 46))⟩, ⟨(some 7), none, (.mv (.c (.bool true)))⟩]) .ret)))))
def ro15 : List AOp := [(.mv (.t 4)), (.mv (.t 5)), (.mv (.t 6)), (.mv (.t 7))]
theorem fun15 : Fun Try.prog 15 47 ac15 ro15 := ⟨Try.f15, _, Try.func15, by kernel_rfl, rfl, rfl, by kernel_rfl, by kernel_rfl, by decide⟩
def ac16 : AC := (.seq (.reg [⟨(some 4), none, (.mv (.c (.int .i64 0)))⟩, ⟨(some 5), none, (.mv (.c (.int .i64 0)))⟩, ⟨(some 6), none, (.mv (.c (.bool false)))⟩]) (.seq (.reg [⟨(some 13), none, (.mv (.t 0))⟩, ⟨(some 14), none, (.mv (.t 1))⟩, ⟨(some 15), none, (.call 14 [(.t 13), (.t 14)])⟩, ⟨(some 12), none, (.mv (.t 15))⟩, ⟨(some 16), none, (.ext (.t 12) 0)⟩, ⟨(some 17), none, (.ext (.t 12) 1)⟩, ⟨(some 18), none, (.ext (.t 12) 2)⟩, ⟨(some 19), none, (.ext (.t 12) 3)⟩, ⟨(some 7), none, (.mv (.t 16))⟩, ⟨(some 8), none, (.mv (.t 17))⟩, ⟨(some 9), none, (.mv (.t 18))⟩, ⟨(some 10), none, (.mv (.t 19))⟩]) (.seq (.seq (.reg [⟨(some 20), none, (.mv (.t 10))⟩, ⟨(some 21), none, (.un .not (.t 20))⟩, ⟨(some 22), none, (.mv (.t 21))⟩, ⟨(some 23), (some (22, false)), (.mv (.t 9))⟩, ⟨(some 24), (some (22, false)), (.bin .eql (.t 23) (.c (.int .i64 0)))⟩, ⟨(some 25), none, (.pick (.t 22) (.c (.bool true)) (.t 24))⟩]) (.cond (.t 25) (.seq (.reg [⟨(some 4), none, (.mv (.c (.int .i64 0)))⟩, ⟨(some 5), none, (.mv (.c (.int .i64 0)))⟩, ⟨(some 6), none, (.mv (.c (.bool false)))⟩]) .ret) .skip)) (.seq (.reg [⟨(some 26), none, (.mv (.t 7))⟩, ⟨(some 27), none, (.mv (.t 9))⟩, ⟨(some 28), none, (.call 37 [(.t 26), (.t 27)])⟩, ⟨(some 11), none, (.mv (.t 28))⟩]) (.seq (.dreg [⟨(some 29), none, (.mv (.t 7))⟩, ⟨(some 30), none, (.mv (.t 11))⟩, ⟨(some 31), none, (.bin .quo (.t 29) (.t 30))⟩, ⟨(some 32), none, (.mv (.t 9))⟩, ⟨(some 33), none, (.mv (.t 11))⟩, ⟨(some 34), none, (.bin .quo (.t 32) (.t 33))⟩, ⟨(some 4), none, (.mv (.t 31))⟩, ⟨(some 5), none, (.mv (.t 34))⟩, ⟨(some 6), none, (.mv (.c (.bool true)))⟩] [[], [], [0, 1], [], [], [3, 4], [0, 1, 2], [0, 1, 2, 3, 4, 5, 6], [0, 1, 2, 3, 4, 5, 6, 7]]) .ret)))))
def ro16 : List AOp := [(.mv (.t 4)), (.mv (.t 5)), (.mv (.t 6))]
theorem fun16 : Fun Try.prog 16 35 ac16 ro16 := ⟨Try.f16, _, Try.func16, by kernel_rfl, rfl, rfl, by kernel_rfl, by kernel_rfl, by decide⟩
def ac17 : AC := (.seq (.reg [⟨(some 4), none, (.mv (.c (.int .i64 0)))⟩, ⟨(some 5), none, (.mv (.c (.int .i64 0)))⟩, ⟨(some 6), none, (.mv (.c (.bool false)))⟩]) (.seq (.reg [⟨(some 13), none, (.mv (.t 0))⟩, ⟨(some 14), none, (.mv (.t 1))⟩, ⟨(some 15), none, (.call 15 [(.t 13), (.t 14)])⟩, ⟨(some 12), none, (.mv (.t 15))⟩, ⟨(some 16), none, (.ext (.t 12) 0)⟩, ⟨(some 17), none, (.ext (.t 12) 1)⟩, ⟨(some 18), none, (.ext (.t 12) 2)⟩, ⟨(some 19), none, (.ext (.t 12) 3)⟩, ⟨(some 7), none, (.mv (.t 16))⟩, ⟨(some 8), none, (.mv (.t 17))⟩, ⟨(some 9), none, (.mv (.t 18))⟩, ⟨(some 10), none, (.mv (.t 19))⟩]) (.seq (.seq (.reg [⟨(some 20), none, (.mv (.t 10))⟩, ⟨(some 21), none, (.un .not (.t 20))⟩, ⟨(some 22), none, (.mv (.t 21))⟩, ⟨(some 23), (some (22, false)), (.mv (.t 9))⟩, ⟨(some 24), (some (22, false)), (.bin .eql (.t 23) (.c (.int .i64 0)))⟩, ⟨(some 25), none, (.pick (.t 22) (.c (.bool true)) (.t 24))⟩]) (.cond (.t 25) (.seq (.reg [⟨(some 4), none, (.mv (.c (.int .i64 0)))⟩, ⟨(some 5), none, (.mv (.c (.int .i64 0)))⟩, ⟨(some 6), none, (.mv (.c (.bool false)))⟩]) .ret) .skip)) (.seq (.reg [⟨(some 26), none, (.mv (.t 7))⟩, ⟨(some 27), none, (.mv (.t 9))⟩, ⟨(some 28), none, (.call 38 [(.t 26), (.t 27)])⟩, ⟨(some 11), none, (.mv (.t 28))⟩]) (.seq (.dreg [⟨(some 29), none, (.mv (.t 7))⟩, ⟨(some 30), none, (.mv (.t 11))⟩, ⟨(some 31), none, (.bin .quo (.t 29) (.t 30))⟩, ⟨(some 32), none, (.mv (.t 9))⟩, ⟨(some 33), none, (.mv (.t 11))⟩, ⟨(some 34), none, (.bin .quo (.t 32) (.t 33))⟩, ⟨(some 4), none, (.mv (.t 31))⟩, ⟨(some 5), none, (.mv (.t 34))⟩, ⟨(some 6), none, (.mv (.c (.bool true)))⟩] [[], [], [0, 1], [], [], [3, 4], [0, 1, 2], [0, 1, 2, 3, 4, 5, 6], [0, 1, 2, 3, 4, 5, 6, 7]]) .ret)))))
def ro17 : List AOp := [(.mv (.t 4)), (.mv (.t 5)), (.mv (.t 6))]
theorem fun17 : Fun Try.prog 17 35 ac17 ro17 := ⟨Try.f17, _, Try.func17, by kernel_rfl, rfl, rfl, by kernel_rfl, by kernel_rfl, by decide⟩

open Classical in
/-- The sum of g over the finds that p holds of, of the first i. -/
noncomputable def sI (p : Fd → Prop) (g : Fd → Int) (xs : List Fd) : Nat → Int
  | 0 => 0
  | i + 1 => sI p g xs i + (if p (xs.getD i default) then g (xs.getD i default) else 0)
theorem sI_y {p : Fd → Prop} {g : Fd → Int} {xs : List Fd} {i : Nat} (h : p (xs.getD i default)) : sI p g xs (i + 1) = sI p g xs i + g (xs.getD i default) := by simp only [sI, if_pos h]
theorem sI_n {p : Fd → Prop} {g : Fd → Int} {xs : List Fd} {i : Nat} (h : ¬ p (xs.getD i default)) : sI p g xs (i + 1) = sI p g xs i := by simp only [sI, if_neg h, Int.add_zero]
theorem sI_b {p : Fd → Prop} {g : Fd → Int} {xs : List Fd} {M : Int} (hM : 0 ≤ M) (hb : ∀ i, i < xs.length → 0 ≤ g (xs.getD i default) ∧ g (xs.getD i default) ≤ M) : ∀ i, i ≤ xs.length → 0 ≤ sI p g xs i ∧ sI p g xs i ≤ i * M
  | 0, _ => by simp [sI]
  | i + 1, h => by
    have h1 := sI_b (p := p) hM hb i (by omega)
    have h2 := hb i (by omega)
    have e : ((i + 1 : Nat) : Int) * M = i * M + M := by rw [Int.natCast_add, Int.add_mul]; simp
    by_cases hp : p (xs.getD i default)
    · rw [sI_y hp]; omega
    · rw [sI_n hp]; omega
theorem GoodF.b {xs : List Fd} (h : GoodF xs) {i : Nat} (hi : i < xs.length) : isF (xs.getD i default) := (h.2 i hi).1
theorem GoodF.len {xs : List Fd} (h : GoodF xs) : xs.length ≤ 30 := h.1
theorem sI_bG {p : Fd → Prop} {g : Fd → Int} {xs : List Fd} (h : GoodF xs) (hg : ∀ f, isF f → 0 ≤ g f ∧ g f ≤ 1000000) {i : Nat} (hi : i ≤ xs.length) : 0 ≤ sI p g xs i ∧ sI p g xs i ≤ 30000000 := by
  have := sI_b (p := p) (g := g) (M := 1000000) (by decide) (fun j hj => hg _ (h.b hj)) i hi
  have := h.1
  omega
theorem gn {f : Fd} (h : isF f) : 0 ≤ f.n ∧ f.n ≤ 1000000 := by have := h.2.2.1; omega
theorem gw {f : Fd} (h : isF f) : 0 ≤ f.w ∧ f.w ≤ 1000000 := h.2.2.2.1
theorem gr {f : Fd} (h : isF f) : 0 ≤ f.r ∧ f.r ≤ 1000000 := by have := h.2.2.1; have := h.2.2.2.2; omega
open Classical in
noncomputable def tot (xs : List Fd) (k : ByteArray) : Int × Int × Int × Bool := if GoodF xs ∧ NameOK k then (sI (fun f => f.t = k) Fd.n xs xs.length, sI (fun f => f.t = k) Fd.w xs xs.length, sI (fun f => f.t = k) Fd.r xs xs.length, true) else (0, 0, 0, false)
noncomputable def totV (xs : List Fd) (k : ByteArray) : AV := .tup [.int .i64 (tot xs k).1, .int .i64 (tot xs k).2.1, .int .i64 (tot xs k).2.2.1, .bool (tot xs k).2.2.2]
theorem con14 (nn : Bool) (xs : List Fd) (k : ByteArray) (hlen : xs.length ≤ 1048576) (hsz : szB xs) (hk : k.size ≤ 1048576) : Con Try.prog 14 true [.vw nn (xs.map fRow), .str k] (totV xs k) [] := by
  classical
  refine con_of_wp mixed fun14 (by simp) [] plain_nil ?_
  unfold ac14 ro14 totV
  simp only [zipT]
  have c1 := con30 nn xs hlen hsz
  have c2 := con35 k hk
  by_cases hG : GoodF xs
  · by_cases hN : NameOK k
    · rw [decide_eq_true hG] at c1
      rw [decide_eq_true hN] at c2
      have e : tot xs k = (sI (fun f => f.t = k) Fd.n xs xs.length, sI (fun f => f.t = k) Fd.w xs xs.length, sI (fun f => f.t = k) Fd.r xs xs.length, true) := by unfold tot; rw [if_pos ⟨hG, hN⟩]
      rw [e]
      have h30 := hG.1
      repeat (first | refine wG_call c1 rfl rfl ?_ | refine wG_call c2 rfl rfl ?_ | (first
    | refine wC_a rfl ?_
    | refine q_s rfl ?_
    | refine q_b rfl ?_
    | refine wG_nil ?_
    | refine wG_g rfl ?_
    | refine wG_pure (o_len_vwm rfl) ?_
    | refine wG_pure (o_not_d rfl) ?_
    | refine wG_p rfl (by first | exact rfl | omega) ?_
    | refine wG_pure (o_str2 rfl rfl rfl) ?_
    | refine wG_pure (e_istr rfl rfl (by omega)) ?_
    | refine wG_pure (e_istr0 rfl rfl (by omega)) ?_
    | refine wG_pure (o_not rfl) ?_
    | refine wG_pure (e_ia_vw0 rfl rfl (by omega) rfl) ?_
    | refine wG_pure (e_ia_vwp rfl rfl (by omega) rfl) ?_
    | refine wG_pure (e_ia_vwm rfl rfl (by omega) (by omega) rfl) ?_
    | refine wG_pure (e_ia_vwi rfl rfl (by omega) rfl) ?_
    | refine wG_pure (e_ia_vwn rfl rfl (by omega) (by omega) rfl) ?_
    | refine wG_n rfl rfl ?_
    | refine wG_u rfl rfl ?_
    | refine wG_new (o_mks rfl rfl (by omega) (by decide)) ?_))
      refine wC_loop (Nat × Int × Int × Int) (fun x => ⟨[(0, .vw nn (xs.map fRow)), (1, .str k), (8, .int .i64 x.2.1), (9, .int .i64 x.2.2.1), (10, .int .i64 x.2.2.2), (11,.int .i64 (x.1:Int))], [], 0⟩) (fun x => x.1 ≤ xs.length ∧ x.2.1 = sI (fun f => f.t = k) Fd.n xs x.1 ∧ x.2.2.1 = sI (fun f => f.t = k) Fd.w xs x.1 ∧ x.2.2.2 = sI (fun f => f.t = k) Fd.r xs x.1) (fun x => xs.length - x.1) (0, 0, 0, 0) ⟨Nat.zero_le _, rfl, rfl, rfl⟩ ?_ (fun _ _ => Nat.le_refl _) ?_
      · simp [LeP, leT, leH, lk, AV.ltr, ltrL, Ab.hg, upd, -List.getD_eq_getElem?_getD, -Int.default_eq_zero]
      rintro ⟨i, a, b, c⟩ ⟨hi, ha, hb, hc⟩
      simp only at hi ha hb hc ⊢
      by_cases hi2 : i < xs.length
      · have ba := sI_bG (p := fun f => f.t = k) (g := Fd.n) hG (fun _ => gn) hi
        have bb := sI_bG (p := fun f => f.t = k) (g := Fd.w) hG (fun _ => gw) hi
        have bc := sI_bG (p := fun f => f.t = k) (g := Fd.r) hG (fun _ => gr) hi
        rw [← ha] at ba
        rw [← hb] at bb
        rw [← hc] at bc
        have g1 := gn (hG.b hi2)
        have g2 := gw (hG.b hi2)
        have g3 := gr (hG.b hi2)
        repeat' (first | (first
    | refine wC_a rfl ?_
    | refine q_s rfl ?_
    | refine q_b rfl ?_
    | refine wG_nil ?_
    | refine wG_g rfl ?_
    | refine wG_pure (o_len_vwm rfl) ?_
    | refine wG_pure (o_not_d rfl) ?_
    | refine wG_p rfl (by first | exact rfl | omega) ?_
    | refine wG_pure (o_str2 rfl rfl rfl) ?_
    | refine wG_pure (e_istr rfl rfl (by omega)) ?_
    | refine wG_pure (e_istr0 rfl rfl (by omega)) ?_
    | refine wG_pure (o_not rfl) ?_
    | refine wG_pure (e_ia_vw0 rfl rfl (by omega) rfl) ?_
    | refine wG_pure (e_ia_vwp rfl rfl (by omega) rfl) ?_
    | refine wG_pure (e_ia_vwm rfl rfl (by omega) (by omega) rfl) ?_
    | refine wG_pure (e_ia_vwi rfl rfl (by omega) rfl) ?_
    | refine wG_pure (e_ia_vwn rfl rfl (by omega) (by omega) rfl) ?_
    | refine wG_n rfl rfl ?_
    | refine wG_u rfl rfl ?_
    | refine wG_new (o_mks rfl rfl (by omega) (by decide)) ?_) | (refine wG_gd rfl (fun hgt => ?_) (fun hgf => ?_) <;> (first | simp only [eq_true hgt, decide_true] | simp only [eq_false hgf, decide_false])) | refine wC_cond_d rfl (fun hg => ?_) (fun hg => ?_))
        any_goals (exfalso; omega)
        · exact ⟨(i + 1, a + (xs.getD i default).n, b + (xs.getD i default).w, c + (xs.getD i default).r), ⟨by omega, by rw [ha]; exact (sI_y (by assumption)).symm, by rw [hb]; exact (sI_y (by assumption)).symm, by rw [hc]; exact (sI_y (by assumption)).symm⟩, by simp only; omega, by simp [LeP, leT, leH, lk, AV.ltr, ltrL, Ab.hg, upd, -List.getD_eq_getElem?_getD, -Int.default_eq_zero]⟩
        · exact ⟨(i + 1, a, b, c), ⟨by omega, by rw [ha]; exact (sI_n (by assumption)).symm, by rw [hb]; exact (sI_n (by assumption)).symm, by rw [hc]; exact (sI_n (by assumption)).symm⟩, by simp only; omega, by simp [LeP, leT, leH, lk, AV.ltr, ltrL, Ab.hg, upd, -List.getD_eq_getElem?_getD, -Int.default_eq_zero]⟩
      · have hi3 : i = xs.length := by omega
        subst hi3
        repeat' (first | (first
    | refine wC_a rfl ?_
    | refine q_s rfl ?_
    | refine q_b rfl ?_
    | refine wG_nil ?_
    | refine wG_g rfl ?_
    | refine wG_pure (o_len_vwm rfl) ?_
    | refine wG_pure (o_not_d rfl) ?_
    | refine wG_p rfl (by first | exact rfl | omega) ?_
    | refine wG_pure (o_str2 rfl rfl rfl) ?_
    | refine wG_pure (e_istr rfl rfl (by omega)) ?_
    | refine wG_pure (e_istr0 rfl rfl (by omega)) ?_
    | refine wG_pure (o_not rfl) ?_
    | refine wG_pure (e_ia_vw0 rfl rfl (by omega) rfl) ?_
    | refine wG_pure (e_ia_vwp rfl rfl (by omega) rfl) ?_
    | refine wG_pure (e_ia_vwm rfl rfl (by omega) (by omega) rfl) ?_
    | refine wG_pure (e_ia_vwi rfl rfl (by omega) rfl) ?_
    | refine wG_pure (e_ia_vwn rfl rfl (by omega) (by omega) rfl) ?_
    | refine wG_n rfl rfl ?_
    | refine wG_u rfl rfl ?_
    | refine wG_new (o_mks rfl rfl (by omega) (by decide)) ?_) | (refine wG_gd rfl (fun hgt => ?_) (fun hgf => ?_) <;> (first | simp only [eq_true hgt, decide_true] | simp only [eq_false hgf, decide_false])) | refine wC_cond_d rfl (fun hg => ?_) (fun hg => ?_))
        any_goals (exfalso; omega)
        refine ret_pl (.inr rfl) (retVs_4 (retV_mv rfl) (retV_mv rfl) (retV_mv rfl) (retV_mv rfl)) ?_ rfl (by simp)
        rw [ha, hb, hc]
        rfl
    · rw [decide_eq_true hG] at c1
      rw [decide_eq_false hN] at c2
      have e : tot xs k = (0, 0, 0, false) := by unfold tot; rw [if_neg (fun h => hN h.2)]
      rw [e]
      repeat (first | refine wG_call c1 rfl rfl ?_ | refine wG_call c2 rfl rfl ?_ | (first
    | refine wC_a rfl ?_
    | refine q_s rfl ?_
    | refine q_b rfl ?_
    | refine wG_nil ?_
    | refine wG_g rfl ?_
    | refine wG_pure (o_len_vwm rfl) ?_
    | refine wG_pure (o_not_d rfl) ?_
    | refine wG_p rfl (by first | exact rfl | omega) ?_
    | refine wG_pure (o_str2 rfl rfl rfl) ?_
    | refine wG_pure (e_istr rfl rfl (by omega)) ?_
    | refine wG_pure (e_istr0 rfl rfl (by omega)) ?_
    | refine wG_pure (o_not rfl) ?_
    | refine wG_pure (e_ia_vw0 rfl rfl (by omega) rfl) ?_
    | refine wG_pure (e_ia_vwp rfl rfl (by omega) rfl) ?_
    | refine wG_pure (e_ia_vwm rfl rfl (by omega) (by omega) rfl) ?_
    | refine wG_pure (e_ia_vwi rfl rfl (by omega) rfl) ?_
    | refine wG_pure (e_ia_vwn rfl rfl (by omega) (by omega) rfl) ?_
    | refine wG_n rfl rfl ?_
    | refine wG_u rfl rfl ?_
    | refine wG_new (o_mks rfl rfl (by omega) (by decide)) ?_))
      exact ret_pl (.inr rfl) (retVs_4 (retV_mv rfl) (retV_mv rfl) (retV_mv rfl) (retV_mv rfl)) rfl rfl (by simp)
  · rw [decide_eq_false hG] at c1
    have e : tot xs k = (0, 0, 0, false) := by unfold tot; rw [if_neg (fun h => hG h.1)]
    rw [e]
    repeat (first | refine wG_call c1 rfl rfl ?_ | (first
    | refine wC_a rfl ?_
    | refine q_s rfl ?_
    | refine q_b rfl ?_
    | refine wG_nil ?_
    | refine wG_g rfl ?_
    | refine wG_pure (o_len_vwm rfl) ?_
    | refine wG_pure (o_not_d rfl) ?_
    | refine wG_p rfl (by first | exact rfl | omega) ?_
    | refine wG_pure (o_str2 rfl rfl rfl) ?_
    | refine wG_pure (e_istr rfl rfl (by omega)) ?_
    | refine wG_pure (e_istr0 rfl rfl (by omega)) ?_
    | refine wG_pure (o_not rfl) ?_
    | refine wG_pure (e_ia_vw0 rfl rfl (by omega) rfl) ?_
    | refine wG_pure (e_ia_vwp rfl rfl (by omega) rfl) ?_
    | refine wG_pure (e_ia_vwm rfl rfl (by omega) (by omega) rfl) ?_
    | refine wG_pure (e_ia_vwi rfl rfl (by omega) rfl) ?_
    | refine wG_pure (e_ia_vwn rfl rfl (by omega) (by omega) rfl) ?_
    | refine wG_n rfl rfl ?_
    | refine wG_u rfl rfl ?_
    | refine wG_new (o_mks rfl rfl (by omega) (by decide)) ?_))
    exact ret_pl (.inr rfl) (retVs_4 (retV_mv rfl) (retV_mv rfl) (retV_mv rfl) (retV_mv rfl)) rfl rfl (by simp)
theorem con15 (nn : Bool) (xs : List Fd) (k : ByteArray) (hlen : xs.length ≤ 1048576) (hsz : szB xs) (hk : k.size ≤ 1048576) : Con Try.prog 15 true [.vw nn (xs.map fRow), .str k] (totV xs k) [] := by
  classical
  refine con_of_wp mixed fun15 (by simp) [] plain_nil ?_
  unfold ac15 ro15 totV
  simp only [zipT]
  have c1 := con12 nn xs hlen hsz
  have c2 := con36 k hk
  by_cases hG : GoodF xs
  · by_cases hN : NameOK k
    · rw [decide_eq_true hG] at c1
      rw [decide_eq_true hN] at c2
      have e : tot xs k = (sI (fun f => f.t = k) Fd.n xs xs.length, sI (fun f => f.t = k) Fd.w xs xs.length, sI (fun f => f.t = k) Fd.r xs xs.length, true) := by unfold tot; rw [if_pos ⟨hG, hN⟩]
      rw [e]
      have h30 := hG.1
      repeat (first | refine wG_call c1 rfl rfl ?_ | refine wG_call c2 rfl rfl ?_ | (first
    | refine wC_a rfl ?_
    | refine q_s rfl ?_
    | refine q_b rfl ?_
    | refine wG_nil ?_
    | refine wG_g rfl ?_
    | refine wG_pure (o_len_vwm rfl) ?_
    | refine wG_pure (o_not_d rfl) ?_
    | refine wG_p rfl (by first | exact rfl | omega) ?_
    | refine wG_pure (o_str2 rfl rfl rfl) ?_
    | refine wG_pure (e_istr rfl rfl (by omega)) ?_
    | refine wG_pure (e_istr0 rfl rfl (by omega)) ?_
    | refine wG_pure (o_not rfl) ?_
    | refine wG_pure (e_ia_vw0 rfl rfl (by omega) rfl) ?_
    | refine wG_pure (e_ia_vwp rfl rfl (by omega) rfl) ?_
    | refine wG_pure (e_ia_vwm rfl rfl (by omega) (by omega) rfl) ?_
    | refine wG_pure (e_ia_vwi rfl rfl (by omega) rfl) ?_
    | refine wG_pure (e_ia_vwn rfl rfl (by omega) (by omega) rfl) ?_
    | refine wG_n rfl rfl ?_
    | refine wG_u rfl rfl ?_
    | refine wG_new (o_mks rfl rfl (by omega) (by decide)) ?_))
      refine wC_loop (Nat × Int × Int × Int) (fun x => ⟨[(0, .vw nn (xs.map fRow)), (1, .str k), (8, .int .i64 x.2.1), (9, .int .i64 x.2.2.1), (10, .int .i64 x.2.2.2), (21,.vw nn (xs.map fRow)),(22,.int .i64 (xs.length:Int)),(23,.int .i64 (x.1:Int))], [], 0⟩) (fun x => x.1 ≤ xs.length ∧ x.2.1 = sI (fun f => f.t = k) Fd.n xs x.1 ∧ x.2.2.1 = sI (fun f => f.t = k) Fd.w xs x.1 ∧ x.2.2.2 = sI (fun f => f.t = k) Fd.r xs x.1) (fun x => xs.length - x.1) (0, 0, 0, 0) ⟨Nat.zero_le _, rfl, rfl, rfl⟩ ?_ (fun _ _ => Nat.le_refl _) ?_
      · simp [LeP, leT, leH, lk, AV.ltr, ltrL, Ab.hg, upd, -List.getD_eq_getElem?_getD, -Int.default_eq_zero]
      rintro ⟨i, a, b, c⟩ ⟨hi, ha, hb, hc⟩
      simp only at hi ha hb hc ⊢
      by_cases hi2 : i < xs.length
      · have ba := sI_bG (p := fun f => f.t = k) (g := Fd.n) hG (fun _ => gn) hi
        have bb := sI_bG (p := fun f => f.t = k) (g := Fd.w) hG (fun _ => gw) hi
        have bc := sI_bG (p := fun f => f.t = k) (g := Fd.r) hG (fun _ => gr) hi
        rw [← ha] at ba
        rw [← hb] at bb
        rw [← hc] at bc
        have g1 := gn (hG.b hi2)
        have g2 := gw (hG.b hi2)
        have g3 := gr (hG.b hi2)
        repeat' (first | (first
    | refine wC_a rfl ?_
    | refine q_s rfl ?_
    | refine q_b rfl ?_
    | refine wG_nil ?_
    | refine wG_g rfl ?_
    | refine wG_pure (o_len_vwm rfl) ?_
    | refine wG_pure (o_not_d rfl) ?_
    | refine wG_p rfl (by first | exact rfl | omega) ?_
    | refine wG_pure (o_str2 rfl rfl rfl) ?_
    | refine wG_pure (e_istr rfl rfl (by omega)) ?_
    | refine wG_pure (e_istr0 rfl rfl (by omega)) ?_
    | refine wG_pure (o_not rfl) ?_
    | refine wG_pure (e_ia_vw0 rfl rfl (by omega) rfl) ?_
    | refine wG_pure (e_ia_vwp rfl rfl (by omega) rfl) ?_
    | refine wG_pure (e_ia_vwm rfl rfl (by omega) (by omega) rfl) ?_
    | refine wG_pure (e_ia_vwi rfl rfl (by omega) rfl) ?_
    | refine wG_pure (e_ia_vwn rfl rfl (by omega) (by omega) rfl) ?_
    | refine wG_n rfl rfl ?_
    | refine wG_u rfl rfl ?_
    | refine wG_new (o_mks rfl rfl (by omega) (by decide)) ?_) | (refine wG_gd rfl (fun hgt => ?_) (fun hgf => ?_) <;> (first | simp only [eq_true hgt, decide_true] | simp only [eq_false hgf, decide_false])) | refine wC_cond_d rfl (fun hg => ?_) (fun hg => ?_))
        any_goals (exfalso; omega)
        · exact ⟨(i + 1, a + (xs.getD i default).n, b + (xs.getD i default).w, c + (xs.getD i default).r), ⟨by omega, by rw [ha]; exact (sI_y (by assumption)).symm, by rw [hb]; exact (sI_y (by assumption)).symm, by rw [hc]; exact (sI_y (by assumption)).symm⟩, by simp only; omega, by simp [LeP, leT, leH, lk, AV.ltr, ltrL, Ab.hg, upd, -List.getD_eq_getElem?_getD, -Int.default_eq_zero]⟩
        · exact ⟨(i + 1, a, b, c), ⟨by omega, by rw [ha]; exact (sI_n (by assumption)).symm, by rw [hb]; exact (sI_n (by assumption)).symm, by rw [hc]; exact (sI_n (by assumption)).symm⟩, by simp only; omega, by simp [LeP, leT, leH, lk, AV.ltr, ltrL, Ab.hg, upd, -List.getD_eq_getElem?_getD, -Int.default_eq_zero]⟩
      · have hi3 : i = xs.length := by omega
        subst hi3
        repeat' (first | (first
    | refine wC_a rfl ?_
    | refine q_s rfl ?_
    | refine q_b rfl ?_
    | refine wG_nil ?_
    | refine wG_g rfl ?_
    | refine wG_pure (o_len_vwm rfl) ?_
    | refine wG_pure (o_not_d rfl) ?_
    | refine wG_p rfl (by first | exact rfl | omega) ?_
    | refine wG_pure (o_str2 rfl rfl rfl) ?_
    | refine wG_pure (e_istr rfl rfl (by omega)) ?_
    | refine wG_pure (e_istr0 rfl rfl (by omega)) ?_
    | refine wG_pure (o_not rfl) ?_
    | refine wG_pure (e_ia_vw0 rfl rfl (by omega) rfl) ?_
    | refine wG_pure (e_ia_vwp rfl rfl (by omega) rfl) ?_
    | refine wG_pure (e_ia_vwm rfl rfl (by omega) (by omega) rfl) ?_
    | refine wG_pure (e_ia_vwi rfl rfl (by omega) rfl) ?_
    | refine wG_pure (e_ia_vwn rfl rfl (by omega) (by omega) rfl) ?_
    | refine wG_n rfl rfl ?_
    | refine wG_u rfl rfl ?_
    | refine wG_new (o_mks rfl rfl (by omega) (by decide)) ?_) | (refine wG_gd rfl (fun hgt => ?_) (fun hgf => ?_) <;> (first | simp only [eq_true hgt, decide_true] | simp only [eq_false hgf, decide_false])) | refine wC_cond_d rfl (fun hg => ?_) (fun hg => ?_))
        any_goals (exfalso; omega)
        refine ret_pl (.inr rfl) (retVs_4 (retV_mv rfl) (retV_mv rfl) (retV_mv rfl) (retV_mv rfl)) ?_ rfl (by simp)
        rw [ha, hb, hc]
        rfl
    · rw [decide_eq_true hG] at c1
      rw [decide_eq_false hN] at c2
      have e : tot xs k = (0, 0, 0, false) := by unfold tot; rw [if_neg (fun h => hN h.2)]
      rw [e]
      repeat (first | refine wG_call c1 rfl rfl ?_ | refine wG_call c2 rfl rfl ?_ | (first
    | refine wC_a rfl ?_
    | refine q_s rfl ?_
    | refine q_b rfl ?_
    | refine wG_nil ?_
    | refine wG_g rfl ?_
    | refine wG_pure (o_len_vwm rfl) ?_
    | refine wG_pure (o_not_d rfl) ?_
    | refine wG_p rfl (by first | exact rfl | omega) ?_
    | refine wG_pure (o_str2 rfl rfl rfl) ?_
    | refine wG_pure (e_istr rfl rfl (by omega)) ?_
    | refine wG_pure (e_istr0 rfl rfl (by omega)) ?_
    | refine wG_pure (o_not rfl) ?_
    | refine wG_pure (e_ia_vw0 rfl rfl (by omega) rfl) ?_
    | refine wG_pure (e_ia_vwp rfl rfl (by omega) rfl) ?_
    | refine wG_pure (e_ia_vwm rfl rfl (by omega) (by omega) rfl) ?_
    | refine wG_pure (e_ia_vwi rfl rfl (by omega) rfl) ?_
    | refine wG_pure (e_ia_vwn rfl rfl (by omega) (by omega) rfl) ?_
    | refine wG_n rfl rfl ?_
    | refine wG_u rfl rfl ?_
    | refine wG_new (o_mks rfl rfl (by omega) (by decide)) ?_))
      exact ret_pl (.inr rfl) (retVs_4 (retV_mv rfl) (retV_mv rfl) (retV_mv rfl) (retV_mv rfl)) rfl rfl (by simp)
  · rw [decide_eq_false hG] at c1
    have e : tot xs k = (0, 0, 0, false) := by unfold tot; rw [if_neg (fun h => hG h.1)]
    rw [e]
    repeat (first | refine wG_call c1 rfl rfl ?_ | (first
    | refine wC_a rfl ?_
    | refine q_s rfl ?_
    | refine q_b rfl ?_
    | refine wG_nil ?_
    | refine wG_g rfl ?_
    | refine wG_pure (o_len_vwm rfl) ?_
    | refine wG_pure (o_not_d rfl) ?_
    | refine wG_p rfl (by first | exact rfl | omega) ?_
    | refine wG_pure (o_str2 rfl rfl rfl) ?_
    | refine wG_pure (e_istr rfl rfl (by omega)) ?_
    | refine wG_pure (e_istr0 rfl rfl (by omega)) ?_
    | refine wG_pure (o_not rfl) ?_
    | refine wG_pure (e_ia_vw0 rfl rfl (by omega) rfl) ?_
    | refine wG_pure (e_ia_vwp rfl rfl (by omega) rfl) ?_
    | refine wG_pure (e_ia_vwm rfl rfl (by omega) (by omega) rfl) ?_
    | refine wG_pure (e_ia_vwi rfl rfl (by omega) rfl) ?_
    | refine wG_pure (e_ia_vwn rfl rfl (by omega) (by omega) rfl) ?_
    | refine wG_n rfl rfl ?_
    | refine wG_u rfl rfl ?_
    | refine wG_new (o_mks rfl rfl (by omega) (by decide)) ?_))
    exact ret_pl (.inr rfl) (retVs_4 (retV_mv rfl) (retV_mv rfl) (retV_mv rfl) (retV_mv rfl)) rfl rfl (by simp)
open Classical in
noncomputable def brk (xs : List Fd) (k : ByteArray) : Int × Int × Bool := if (tot xs k).2.2.2 = true ∧ (tot xs k).2.2.1 ≠ 0 then ((tot xs k).1.tdiv (Int.gcd (tot xs k).1 (tot xs k).2.2.1 : Nat), (tot xs k).2.2.1.tdiv (Int.gcd (tot xs k).1 (tot xs k).2.2.1 : Nat), true) else (0, 0, false)
theorem tot_b (xs : List Fd) (k : ByteArray) : 0 ≤ (tot xs k).1 ∧ (tot xs k).1 ≤ 30000000 ∧ 0 ≤ (tot xs k).2.2.1 ∧ (tot xs k).2.2.1 ≤ 30000000 := by
  unfold tot
  split
  · rename_i h
    have h1 := sI_bG (p := fun f => f.t = k) (g := Fd.n) h.1 (fun _ => gn) (Nat.le_refl _)
    have h2 := sI_bG (p := fun f => f.t = k) (g := Fd.r) h.1 (fun _ => gr) (Nat.le_refl _)
    exact ⟨h1.1, h1.2, h2.1, h2.2⟩
  · decide
theorem con16 (nn : Bool) (xs : List Fd) (k : ByteArray) (hlen : xs.length ≤ 1048576) (hsz : szB xs) (hk : k.size ≤ 1048576) : Con Try.prog 16 true [.vw nn (xs.map fRow), .str k] (.tup [.int .i64 (brk xs k).1, .int .i64 (brk xs k).2.1, .bool (brk xs k).2.2]) [] := by
  classical
  refine con_of_wp mixed fun16 (by simp) [] plain_nil ?_
  unfold ac16 ro16
  simp only [zipT]
  have c1 := con14 nn xs k hlen hsz hk
  obtain ⟨b1, b2, b3, b4⟩ := tot_b xs k
  by_cases hok : (tot xs k).2.2.2 = true
  · by_cases h0 : (tot xs k).2.2.1 = 0
    · have e : brk xs k = (0, 0, false) := by unfold brk; rw [if_neg (fun h => h.2 h0)]
      rw [e]
      unfold totV at c1
      rw [hok, h0] at c1
      repeat (first | refine wG_call c1 rfl rfl ?_ | (first
    | refine wC_a rfl ?_
    | refine q_s rfl ?_
    | refine q_b rfl ?_
    | refine wG_nil ?_
    | refine wG_g rfl ?_
    | refine wG_pure (o_len_vwm rfl) ?_
    | refine wG_pure (o_not_d rfl) ?_
    | refine wG_p rfl (by first | exact rfl | omega) ?_
    | refine wG_pure (o_str2 rfl rfl rfl) ?_
    | refine wG_pure (e_istr rfl rfl (by omega)) ?_
    | refine wG_pure (e_istr0 rfl rfl (by omega)) ?_
    | refine wG_pure (o_not rfl) ?_
    | refine wG_pure (e_ia_vw0 rfl rfl (by omega) rfl) ?_
    | refine wG_pure (e_ia_vwp rfl rfl (by omega) rfl) ?_
    | refine wG_pure (e_ia_vwm rfl rfl (by omega) (by omega) rfl) ?_
    | refine wG_pure (e_ia_vwi rfl rfl (by omega) rfl) ?_
    | refine wG_pure (e_ia_vwn rfl rfl (by omega) (by omega) rfl) ?_
    | refine wG_n rfl rfl ?_
    | refine wG_u rfl rfl ?_
    | refine wG_new (o_mks rfl rfl (by omega) (by decide)) ?_))
      exact ret_pl (.inr rfl) (retVs_3 (retV_mv rfl) (retV_mv rfl) (retV_mv rfl)) rfl rfl (by simp)
    · have e : brk xs k = ((tot xs k).1.tdiv (Int.gcd (tot xs k).1 (tot xs k).2.2.1 : Nat), (tot xs k).2.2.1.tdiv (Int.gcd (tot xs k).1 (tot xs k).2.2.1 : Nat), true) := by unfold brk; rw [if_pos ⟨hok, h0⟩]
      rw [e]
      unfold totV at c1
      rw [hok] at c1
      have hgp := gcd_pos2 (a := (tot xs k).1) (b := (tot xs k).2.2.1) (by omega)
      have q1 := quo_b b1 hgp
      have q2 := quo_b b3 hgp
      have c2 := con37 b1 b3
      generalize (tot xs k).1 = A at *
      generalize (tot xs k).2.2.1 = B at *
      generalize Int.gcd A B = g at *
      have hz : decide (B = 0) = false := decide_eq_false h0
      repeat (first | refine wG_call c1 rfl rfl ?_ | refine wG_call c2 rfl rfl ?_ | (refine wG_pure (o_eql rfl rfl) ?_; rw [hz]) | (first
    | refine wC_a rfl ?_
    | refine q_s rfl ?_
    | refine q_b rfl ?_
    | refine wG_nil ?_
    | refine wG_g rfl ?_
    | refine wG_pure (o_len_vwm rfl) ?_
    | refine wG_pure (o_not_d rfl) ?_
    | refine wG_p rfl (by first | exact rfl | omega) ?_
    | refine wG_pure (o_str2 rfl rfl rfl) ?_
    | refine wG_pure (e_istr rfl rfl (by omega)) ?_
    | refine wG_pure (e_istr0 rfl rfl (by omega)) ?_
    | refine wG_pure (o_not rfl) ?_
    | refine wG_pure (e_ia_vw0 rfl rfl (by omega) rfl) ?_
    | refine wG_pure (e_ia_vwp rfl rfl (by omega) rfl) ?_
    | refine wG_pure (e_ia_vwm rfl rfl (by omega) (by omega) rfl) ?_
    | refine wG_pure (e_ia_vwi rfl rfl (by omega) rfl) ?_
    | refine wG_pure (e_ia_vwn rfl rfl (by omega) (by omega) rfl) ?_
    | refine wG_n rfl rfl ?_
    | refine wG_u rfl rfl ?_
    | refine wG_new (o_mks rfl rfl (by omega) (by decide)) ?_))
      repeat (first | refine wG_pure (o_quo rfl rfl (by omega) (by omega) (by omega)) ?_ | (first
    | refine wC_a rfl ?_
    | refine q_s rfl ?_
    | refine q_b rfl ?_
    | refine wG_nil ?_
    | refine wG_g rfl ?_
    | refine wG_pure (o_len_vwm rfl) ?_
    | refine wG_pure (o_not_d rfl) ?_
    | refine wG_p rfl (by first | exact rfl | omega) ?_
    | refine wG_pure (o_str2 rfl rfl rfl) ?_
    | refine wG_pure (e_istr rfl rfl (by omega)) ?_
    | refine wG_pure (e_istr0 rfl rfl (by omega)) ?_
    | refine wG_pure (o_not rfl) ?_
    | refine wG_pure (e_ia_vw0 rfl rfl (by omega) rfl) ?_
    | refine wG_pure (e_ia_vwp rfl rfl (by omega) rfl) ?_
    | refine wG_pure (e_ia_vwm rfl rfl (by omega) (by omega) rfl) ?_
    | refine wG_pure (e_ia_vwi rfl rfl (by omega) rfl) ?_
    | refine wG_pure (e_ia_vwn rfl rfl (by omega) (by omega) rfl) ?_
    | refine wG_n rfl rfl ?_
    | refine wG_u rfl rfl ?_
    | refine wG_new (o_mks rfl rfl (by omega) (by decide)) ?_))
      exact ret_pl (.inr rfl) (retVs_3 (retV_mv rfl) (retV_mv rfl) (retV_mv rfl)) rfl rfl (by simp)
  · have e : brk xs k = (0, 0, false) := by unfold brk; rw [if_neg (fun h => hok h.1)]
    rw [e]
    unfold totV at c1
    rw [Bool.eq_false_iff.2 hok] at c1
    repeat (first | refine wG_call c1 rfl rfl ?_ | (first
    | refine wC_a rfl ?_
    | refine q_s rfl ?_
    | refine q_b rfl ?_
    | refine wG_nil ?_
    | refine wG_g rfl ?_
    | refine wG_pure (o_len_vwm rfl) ?_
    | refine wG_pure (o_not_d rfl) ?_
    | refine wG_p rfl (by first | exact rfl | omega) ?_
    | refine wG_pure (o_str2 rfl rfl rfl) ?_
    | refine wG_pure (e_istr rfl rfl (by omega)) ?_
    | refine wG_pure (e_istr0 rfl rfl (by omega)) ?_
    | refine wG_pure (o_not rfl) ?_
    | refine wG_pure (e_ia_vw0 rfl rfl (by omega) rfl) ?_
    | refine wG_pure (e_ia_vwp rfl rfl (by omega) rfl) ?_
    | refine wG_pure (e_ia_vwm rfl rfl (by omega) (by omega) rfl) ?_
    | refine wG_pure (e_ia_vwi rfl rfl (by omega) rfl) ?_
    | refine wG_pure (e_ia_vwn rfl rfl (by omega) (by omega) rfl) ?_
    | refine wG_n rfl rfl ?_
    | refine wG_u rfl rfl ?_
    | refine wG_new (o_mks rfl rfl (by omega) (by decide)) ?_))
    exact ret_pl (.inr rfl) (retVs_3 (retV_mv rfl) (retV_mv rfl) (retV_mv rfl)) rfl rfl (by simp)
theorem con17 (nn : Bool) (xs : List Fd) (k : ByteArray) (hlen : xs.length ≤ 1048576) (hsz : szB xs) (hk : k.size ≤ 1048576) : Con Try.prog 17 true [.vw nn (xs.map fRow), .str k] (.tup [.int .i64 (brk xs k).1, .int .i64 (brk xs k).2.1, .bool (brk xs k).2.2]) [] := by
  classical
  refine con_of_wp mixed fun17 (by simp) [] plain_nil ?_
  unfold ac17 ro17
  simp only [zipT]
  have c1 := con15 nn xs k hlen hsz hk
  obtain ⟨b1, b2, b3, b4⟩ := tot_b xs k
  by_cases hok : (tot xs k).2.2.2 = true
  · by_cases h0 : (tot xs k).2.2.1 = 0
    · have e : brk xs k = (0, 0, false) := by unfold brk; rw [if_neg (fun h => h.2 h0)]
      rw [e]
      unfold totV at c1
      rw [hok, h0] at c1
      repeat (first | refine wG_call c1 rfl rfl ?_ | (first
    | refine wC_a rfl ?_
    | refine q_s rfl ?_
    | refine q_b rfl ?_
    | refine wG_nil ?_
    | refine wG_g rfl ?_
    | refine wG_pure (o_len_vwm rfl) ?_
    | refine wG_pure (o_not_d rfl) ?_
    | refine wG_p rfl (by first | exact rfl | omega) ?_
    | refine wG_pure (o_str2 rfl rfl rfl) ?_
    | refine wG_pure (e_istr rfl rfl (by omega)) ?_
    | refine wG_pure (e_istr0 rfl rfl (by omega)) ?_
    | refine wG_pure (o_not rfl) ?_
    | refine wG_pure (e_ia_vw0 rfl rfl (by omega) rfl) ?_
    | refine wG_pure (e_ia_vwp rfl rfl (by omega) rfl) ?_
    | refine wG_pure (e_ia_vwm rfl rfl (by omega) (by omega) rfl) ?_
    | refine wG_pure (e_ia_vwi rfl rfl (by omega) rfl) ?_
    | refine wG_pure (e_ia_vwn rfl rfl (by omega) (by omega) rfl) ?_
    | refine wG_n rfl rfl ?_
    | refine wG_u rfl rfl ?_
    | refine wG_new (o_mks rfl rfl (by omega) (by decide)) ?_))
      exact ret_pl (.inr rfl) (retVs_3 (retV_mv rfl) (retV_mv rfl) (retV_mv rfl)) rfl rfl (by simp)
    · have e : brk xs k = ((tot xs k).1.tdiv (Int.gcd (tot xs k).1 (tot xs k).2.2.1 : Nat), (tot xs k).2.2.1.tdiv (Int.gcd (tot xs k).1 (tot xs k).2.2.1 : Nat), true) := by unfold brk; rw [if_pos ⟨hok, h0⟩]
      rw [e]
      unfold totV at c1
      rw [hok] at c1
      have hgp := gcd_pos2 (a := (tot xs k).1) (b := (tot xs k).2.2.1) (by omega)
      have q1 := quo_b b1 hgp
      have q2 := quo_b b3 hgp
      have c2 := con38 b1 b3
      generalize (tot xs k).1 = A at *
      generalize (tot xs k).2.2.1 = B at *
      generalize Int.gcd A B = g at *
      have hz : decide (B = 0) = false := decide_eq_false h0
      repeat (first | refine wG_call c1 rfl rfl ?_ | refine wG_call c2 rfl rfl ?_ | (refine wG_pure (o_eql rfl rfl) ?_; rw [hz]) | (first
    | refine wC_a rfl ?_
    | refine q_s rfl ?_
    | refine q_b rfl ?_
    | refine wG_nil ?_
    | refine wG_g rfl ?_
    | refine wG_pure (o_len_vwm rfl) ?_
    | refine wG_pure (o_not_d rfl) ?_
    | refine wG_p rfl (by first | exact rfl | omega) ?_
    | refine wG_pure (o_str2 rfl rfl rfl) ?_
    | refine wG_pure (e_istr rfl rfl (by omega)) ?_
    | refine wG_pure (e_istr0 rfl rfl (by omega)) ?_
    | refine wG_pure (o_not rfl) ?_
    | refine wG_pure (e_ia_vw0 rfl rfl (by omega) rfl) ?_
    | refine wG_pure (e_ia_vwp rfl rfl (by omega) rfl) ?_
    | refine wG_pure (e_ia_vwm rfl rfl (by omega) (by omega) rfl) ?_
    | refine wG_pure (e_ia_vwi rfl rfl (by omega) rfl) ?_
    | refine wG_pure (e_ia_vwn rfl rfl (by omega) (by omega) rfl) ?_
    | refine wG_n rfl rfl ?_
    | refine wG_u rfl rfl ?_
    | refine wG_new (o_mks rfl rfl (by omega) (by decide)) ?_))
      repeat (first | refine wG_pure (o_quo rfl rfl (by omega) (by omega) (by omega)) ?_ | (first
    | refine wC_a rfl ?_
    | refine q_s rfl ?_
    | refine q_b rfl ?_
    | refine wG_nil ?_
    | refine wG_g rfl ?_
    | refine wG_pure (o_len_vwm rfl) ?_
    | refine wG_pure (o_not_d rfl) ?_
    | refine wG_p rfl (by first | exact rfl | omega) ?_
    | refine wG_pure (o_str2 rfl rfl rfl) ?_
    | refine wG_pure (e_istr rfl rfl (by omega)) ?_
    | refine wG_pure (e_istr0 rfl rfl (by omega)) ?_
    | refine wG_pure (o_not rfl) ?_
    | refine wG_pure (e_ia_vw0 rfl rfl (by omega) rfl) ?_
    | refine wG_pure (e_ia_vwp rfl rfl (by omega) rfl) ?_
    | refine wG_pure (e_ia_vwm rfl rfl (by omega) (by omega) rfl) ?_
    | refine wG_pure (e_ia_vwi rfl rfl (by omega) rfl) ?_
    | refine wG_pure (e_ia_vwn rfl rfl (by omega) (by omega) rfl) ?_
    | refine wG_n rfl rfl ?_
    | refine wG_u rfl rfl ?_
    | refine wG_new (o_mks rfl rfl (by omega) (by decide)) ?_))
      exact ret_pl (.inr rfl) (retVs_3 (retV_mv rfl) (retV_mv rfl) (retV_mv rfl)) rfl rfl (by simp)
  · have e : brk xs k = (0, 0, false) := by unfold brk; rw [if_neg (fun h => hok h.1)]
    rw [e]
    unfold totV at c1
    rw [Bool.eq_false_iff.2 hok] at c1
    repeat (first | refine wG_call c1 rfl rfl ?_ | (first
    | refine wC_a rfl ?_
    | refine q_s rfl ?_
    | refine q_b rfl ?_
    | refine wG_nil ?_
    | refine wG_g rfl ?_
    | refine wG_pure (o_len_vwm rfl) ?_
    | refine wG_pure (o_not_d rfl) ?_
    | refine wG_p rfl (by first | exact rfl | omega) ?_
    | refine wG_pure (o_str2 rfl rfl rfl) ?_
    | refine wG_pure (e_istr rfl rfl (by omega)) ?_
    | refine wG_pure (e_istr0 rfl rfl (by omega)) ?_
    | refine wG_pure (o_not rfl) ?_
    | refine wG_pure (e_ia_vw0 rfl rfl (by omega) rfl) ?_
    | refine wG_pure (e_ia_vwp rfl rfl (by omega) rfl) ?_
    | refine wG_pure (e_ia_vwm rfl rfl (by omega) (by omega) rfl) ?_
    | refine wG_pure (e_ia_vwi rfl rfl (by omega) rfl) ?_
    | refine wG_pure (e_ia_vwn rfl rfl (by omega) (by omega) rfl) ?_
    | refine wG_n rfl rfl ?_
    | refine wG_u rfl rfl ?_
    | refine wG_new (o_mks rfl rfl (by omega) (by decide)) ?_))
    exact ret_pl (.inr rfl) (retVs_3 (retV_mv rfl) (retV_mv rfl) (retV_mv rfl)) rfl rfl (by simp)
/-! ### The laws -/
theorem con4 (nn : Bool) (xs : List Fd) (k : ByteArray) (hlen : xs.length ≤ 9223372036854775807) (hsz : ∀ i, i < xs.length → (xs.getD i default).t.size ≤ 9223372036854775807) (hk : k.size ≤ 9223372036854775807) : Con Try.prog 4 true [.vw nn (xs.map fRow), .str k] (.bool true) [] := by
  refine con_of_wp mixed fun4 (by simp) [] plain_nil ?_
  unfold ac4 ro4
  simp only [zipT]
  have c9 := con9 nn xs hlen hsz 1048576 (by omega) (by omega)
  repeat (first | refine wG_call c9 rfl rfl ?_ | (first
    | refine wC_a rfl ?_
    | refine q_s rfl ?_
    | refine q_b rfl ?_
    | refine wG_nil ?_
    | refine wG_g rfl ?_
    | refine wG_pure (o_len_vwm rfl) ?_
    | refine wG_pure (o_not_d rfl) ?_
    | refine wG_p rfl (by first | exact rfl | omega) ?_
    | refine wG_pure (o_str2 rfl rfl rfl) ?_
    | refine wG_pure (e_istr rfl rfl (by omega)) ?_
    | refine wG_pure (e_istr0 rfl rfl (by omega)) ?_
    | refine wG_pure (o_not rfl) ?_
    | refine wG_pure (e_ia_vw0 rfl rfl (by omega) rfl) ?_
    | refine wG_pure (e_ia_vwp rfl rfl (by omega) rfl) ?_
    | refine wG_pure (e_ia_vwm rfl rfl (by omega) (by omega) rfl) ?_
    | refine wG_pure (e_ia_vwi rfl rfl (by omega) rfl) ?_
    | refine wG_pure (e_ia_vwn rfl rfl (by omega) (by omega) rfl) ?_
    | refine wG_n rfl rfl ?_
    | refine wG_u rfl rfl ?_
    | refine wG_new (o_mks rfl rfl (by omega) (by decide)) ?_))
  refine wC_cond_d rfl (fun h0 => ?_) (fun h0 => ?_)
  · repeat (first
    | refine wC_a rfl ?_
    | refine q_s rfl ?_
    | refine q_b rfl ?_
    | refine wG_nil ?_
    | refine wG_g rfl ?_
    | refine wG_pure (o_len_vwm rfl) ?_
    | refine wG_pure (o_not_d rfl) ?_
    | refine wG_p rfl (by first | exact rfl | omega) ?_
    | refine wG_pure (o_str2 rfl rfl rfl) ?_
    | refine wG_pure (e_istr rfl rfl (by omega)) ?_
    | refine wG_pure (e_istr0 rfl rfl (by omega)) ?_
    | refine wG_pure (o_not rfl) ?_
    | refine wG_pure (e_ia_vw0 rfl rfl (by omega) rfl) ?_
    | refine wG_pure (e_ia_vwp rfl rfl (by omega) rfl) ?_
    | refine wG_pure (e_ia_vwm rfl rfl (by omega) (by omega) rfl) ?_
    | refine wG_pure (e_ia_vwi rfl rfl (by omega) rfl) ?_
    | refine wG_pure (e_ia_vwn rfl rfl (by omega) (by omega) rfl) ?_
    | refine wG_n rfl rfl ?_
    | refine wG_u rfl rfl ?_
    | refine wG_new (o_mks rfl rfl (by omega) (by decide)) ?_)
    exact ret_boolE (.inr rfl) ⟨_, retV_mv rfl, rfl⟩
  repeat (first | refine wG_call c9 rfl rfl ?_ | (first
    | refine wC_a rfl ?_
    | refine q_s rfl ?_
    | refine q_b rfl ?_
    | refine wG_nil ?_
    | refine wG_g rfl ?_
    | refine wG_pure (o_len_vwm rfl) ?_
    | refine wG_pure (o_not_d rfl) ?_
    | refine wG_p rfl (by first | exact rfl | omega) ?_
    | refine wG_pure (o_str2 rfl rfl rfl) ?_
    | refine wG_pure (e_istr rfl rfl (by omega)) ?_
    | refine wG_pure (e_istr0 rfl rfl (by omega)) ?_
    | refine wG_pure (o_not rfl) ?_
    | refine wG_pure (e_ia_vw0 rfl rfl (by omega) rfl) ?_
    | refine wG_pure (e_ia_vwp rfl rfl (by omega) rfl) ?_
    | refine wG_pure (e_ia_vwm rfl rfl (by omega) (by omega) rfl) ?_
    | refine wG_pure (e_ia_vwi rfl rfl (by omega) rfl) ?_
    | refine wG_pure (e_ia_vwn rfl rfl (by omega) (by omega) rfl) ?_
    | refine wG_n rfl rfl ?_
    | refine wG_u rfl rfl ?_
    | refine wG_new (o_mks rfl rfl (by omega) (by decide)) ?_))
  refine wC_cond_d rfl (fun h => ?_) (fun h => ?_)
  · repeat (first
    | refine wC_a rfl ?_
    | refine q_s rfl ?_
    | refine q_b rfl ?_
    | refine wG_nil ?_
    | refine wG_g rfl ?_
    | refine wG_pure (o_len_vwm rfl) ?_
    | refine wG_pure (o_not_d rfl) ?_
    | refine wG_p rfl (by first | exact rfl | omega) ?_
    | refine wG_pure (o_str2 rfl rfl rfl) ?_
    | refine wG_pure (e_istr rfl rfl (by omega)) ?_
    | refine wG_pure (e_istr0 rfl rfl (by omega)) ?_
    | refine wG_pure (o_not rfl) ?_
    | refine wG_pure (e_ia_vw0 rfl rfl (by omega) rfl) ?_
    | refine wG_pure (e_ia_vwp rfl rfl (by omega) rfl) ?_
    | refine wG_pure (e_ia_vwm rfl rfl (by omega) (by omega) rfl) ?_
    | refine wG_pure (e_ia_vwi rfl rfl (by omega) rfl) ?_
    | refine wG_pure (e_ia_vwn rfl rfl (by omega) (by omega) rfl) ?_
    | refine wG_n rfl rfl ?_
    | refine wG_u rfl rfl ?_
    | refine wG_new (o_mks rfl rfl (by omega) (by decide)) ?_)
    exact ret_boolE (.inr rfl) ⟨_, retV_mv rfl, rfl⟩
  obtain ⟨g1, g2, g3⟩ := szFS_ok (by omega) (Int.not_lt.1 h)
  have hs : xs.length ≤ 1048576 := by omega
  have hb : szB xs := fun i hi => by have := g3 i hi; omega
  have hk2 : k.size ≤ 1048576 := by omega
  have cT := con11 nn xs hs
  repeat' (first | refine wG_call1 cT rfl rfl ?_ | refine wG_call (con14 true xs k hs hb hk2) (ag_sl rfl rfl rfl fRow_plain (ag_any rfl ag_nil)) rfl ?_ | refine wG_call (con15 true xs k hs hb hk2) (ag_sl rfl rfl rfl fRow_plain (ag_any rfl ag_nil)) rfl ?_ | refine wG_call (con13 true true xs hs) (ag_sl rfl rfl rfl fRow_plain (ag_sl rfl rfl rfl fRow_plain ag_nil)) rfl ?_ | (first
    | refine wC_a rfl ?_
    | refine q_s rfl ?_
    | refine q_b rfl ?_
    | refine wG_nil ?_
    | refine wG_g rfl ?_
    | refine wG_pure (o_len_vwm rfl) ?_
    | refine wG_pure (o_not_d rfl) ?_
    | refine wG_p rfl (by first | exact rfl | omega) ?_
    | refine wG_pure (o_str2 rfl rfl rfl) ?_
    | refine wG_pure (e_istr rfl rfl (by omega)) ?_
    | refine wG_pure (e_istr0 rfl rfl (by omega)) ?_
    | refine wG_pure (o_not rfl) ?_
    | refine wG_pure (e_ia_vw0 rfl rfl (by omega) rfl) ?_
    | refine wG_pure (e_ia_vwp rfl rfl (by omega) rfl) ?_
    | refine wG_pure (e_ia_vwm rfl rfl (by omega) (by omega) rfl) ?_
    | refine wG_pure (e_ia_vwi rfl rfl (by omega) rfl) ?_
    | refine wG_pure (e_ia_vwn rfl rfl (by omega) (by omega) rfl) ?_
    | refine wG_n rfl rfl ?_
    | refine wG_u rfl rfl ?_
    | refine wG_new (o_mks rfl rfl (by omega) (by decide)) ?_) | (refine wG_gd rfl (fun hgt => ?_) (fun hgf => ?_) <;> (first | simp only [eq_true hgt, decide_true] | simp only [eq_false hgf, decide_false])) | refine wC_cond_d rfl (fun hg => ?_) (fun hg => ?_))
  any_goals contradiction
  exact ret_boolE (.inr rfl) ⟨_, retV_mv rfl, rfl⟩
theorem con5 (nn : Bool) (xs : List Fd) (k : ByteArray) (hlen : xs.length ≤ 9223372036854775807) (hsz : ∀ i, i < xs.length → (xs.getD i default).t.size ≤ 9223372036854775807) (hk : k.size ≤ 9223372036854775807) : Con Try.prog 5 true [.vw nn (xs.map fRow), .str k] (.bool true) [] := by
  refine con_of_wp mixed fun5 (by simp) [] plain_nil ?_
  unfold ac5 ro5
  simp only [zipT]
  have c9 := con9 nn xs hlen hsz 1048576 (by omega) (by omega)
  repeat (first | refine wG_call c9 rfl rfl ?_ | (first
    | refine wC_a rfl ?_
    | refine q_s rfl ?_
    | refine q_b rfl ?_
    | refine wG_nil ?_
    | refine wG_g rfl ?_
    | refine wG_pure (o_len_vwm rfl) ?_
    | refine wG_pure (o_not_d rfl) ?_
    | refine wG_p rfl (by first | exact rfl | omega) ?_
    | refine wG_pure (o_str2 rfl rfl rfl) ?_
    | refine wG_pure (e_istr rfl rfl (by omega)) ?_
    | refine wG_pure (e_istr0 rfl rfl (by omega)) ?_
    | refine wG_pure (o_not rfl) ?_
    | refine wG_pure (e_ia_vw0 rfl rfl (by omega) rfl) ?_
    | refine wG_pure (e_ia_vwp rfl rfl (by omega) rfl) ?_
    | refine wG_pure (e_ia_vwm rfl rfl (by omega) (by omega) rfl) ?_
    | refine wG_pure (e_ia_vwi rfl rfl (by omega) rfl) ?_
    | refine wG_pure (e_ia_vwn rfl rfl (by omega) (by omega) rfl) ?_
    | refine wG_n rfl rfl ?_
    | refine wG_u rfl rfl ?_
    | refine wG_new (o_mks rfl rfl (by omega) (by decide)) ?_))
  refine wC_cond_d rfl (fun h0 => ?_) (fun h0 => ?_)
  · repeat (first
    | refine wC_a rfl ?_
    | refine q_s rfl ?_
    | refine q_b rfl ?_
    | refine wG_nil ?_
    | refine wG_g rfl ?_
    | refine wG_pure (o_len_vwm rfl) ?_
    | refine wG_pure (o_not_d rfl) ?_
    | refine wG_p rfl (by first | exact rfl | omega) ?_
    | refine wG_pure (o_str2 rfl rfl rfl) ?_
    | refine wG_pure (e_istr rfl rfl (by omega)) ?_
    | refine wG_pure (e_istr0 rfl rfl (by omega)) ?_
    | refine wG_pure (o_not rfl) ?_
    | refine wG_pure (e_ia_vw0 rfl rfl (by omega) rfl) ?_
    | refine wG_pure (e_ia_vwp rfl rfl (by omega) rfl) ?_
    | refine wG_pure (e_ia_vwm rfl rfl (by omega) (by omega) rfl) ?_
    | refine wG_pure (e_ia_vwi rfl rfl (by omega) rfl) ?_
    | refine wG_pure (e_ia_vwn rfl rfl (by omega) (by omega) rfl) ?_
    | refine wG_n rfl rfl ?_
    | refine wG_u rfl rfl ?_
    | refine wG_new (o_mks rfl rfl (by omega) (by decide)) ?_)
    exact ret_boolE (.inr rfl) ⟨_, retV_mv rfl, rfl⟩
  repeat (first | refine wG_call c9 rfl rfl ?_ | (first
    | refine wC_a rfl ?_
    | refine q_s rfl ?_
    | refine q_b rfl ?_
    | refine wG_nil ?_
    | refine wG_g rfl ?_
    | refine wG_pure (o_len_vwm rfl) ?_
    | refine wG_pure (o_not_d rfl) ?_
    | refine wG_p rfl (by first | exact rfl | omega) ?_
    | refine wG_pure (o_str2 rfl rfl rfl) ?_
    | refine wG_pure (e_istr rfl rfl (by omega)) ?_
    | refine wG_pure (e_istr0 rfl rfl (by omega)) ?_
    | refine wG_pure (o_not rfl) ?_
    | refine wG_pure (e_ia_vw0 rfl rfl (by omega) rfl) ?_
    | refine wG_pure (e_ia_vwp rfl rfl (by omega) rfl) ?_
    | refine wG_pure (e_ia_vwm rfl rfl (by omega) (by omega) rfl) ?_
    | refine wG_pure (e_ia_vwi rfl rfl (by omega) rfl) ?_
    | refine wG_pure (e_ia_vwn rfl rfl (by omega) (by omega) rfl) ?_
    | refine wG_n rfl rfl ?_
    | refine wG_u rfl rfl ?_
    | refine wG_new (o_mks rfl rfl (by omega) (by decide)) ?_))
  refine wC_cond_d rfl (fun h => ?_) (fun h => ?_)
  · repeat (first
    | refine wC_a rfl ?_
    | refine q_s rfl ?_
    | refine q_b rfl ?_
    | refine wG_nil ?_
    | refine wG_g rfl ?_
    | refine wG_pure (o_len_vwm rfl) ?_
    | refine wG_pure (o_not_d rfl) ?_
    | refine wG_p rfl (by first | exact rfl | omega) ?_
    | refine wG_pure (o_str2 rfl rfl rfl) ?_
    | refine wG_pure (e_istr rfl rfl (by omega)) ?_
    | refine wG_pure (e_istr0 rfl rfl (by omega)) ?_
    | refine wG_pure (o_not rfl) ?_
    | refine wG_pure (e_ia_vw0 rfl rfl (by omega) rfl) ?_
    | refine wG_pure (e_ia_vwp rfl rfl (by omega) rfl) ?_
    | refine wG_pure (e_ia_vwm rfl rfl (by omega) (by omega) rfl) ?_
    | refine wG_pure (e_ia_vwi rfl rfl (by omega) rfl) ?_
    | refine wG_pure (e_ia_vwn rfl rfl (by omega) (by omega) rfl) ?_
    | refine wG_n rfl rfl ?_
    | refine wG_u rfl rfl ?_
    | refine wG_new (o_mks rfl rfl (by omega) (by decide)) ?_)
    exact ret_boolE (.inr rfl) ⟨_, retV_mv rfl, rfl⟩
  obtain ⟨g1, g2, g3⟩ := szFS_ok (by omega) (Int.not_lt.1 h)
  have hs : xs.length ≤ 1048576 := by omega
  have hb : szB xs := fun i hi => by have := g3 i hi; omega
  have hk2 : k.size ≤ 1048576 := by omega
  have cT := con11 nn xs hs
  repeat' (first | refine wG_call1 cT rfl rfl ?_ | refine wG_call (con16 true xs k hs hb hk2) (ag_sl rfl rfl rfl fRow_plain (ag_any rfl ag_nil)) rfl ?_ | refine wG_call (con17 true xs k hs hb hk2) (ag_sl rfl rfl rfl fRow_plain (ag_any rfl ag_nil)) rfl ?_ | refine wG_call (con13 true true xs hs) (ag_sl rfl rfl rfl fRow_plain (ag_sl rfl rfl rfl fRow_plain ag_nil)) rfl ?_ | (first
    | refine wC_a rfl ?_
    | refine q_s rfl ?_
    | refine q_b rfl ?_
    | refine wG_nil ?_
    | refine wG_g rfl ?_
    | refine wG_pure (o_len_vwm rfl) ?_
    | refine wG_pure (o_not_d rfl) ?_
    | refine wG_p rfl (by first | exact rfl | omega) ?_
    | refine wG_pure (o_str2 rfl rfl rfl) ?_
    | refine wG_pure (e_istr rfl rfl (by omega)) ?_
    | refine wG_pure (e_istr0 rfl rfl (by omega)) ?_
    | refine wG_pure (o_not rfl) ?_
    | refine wG_pure (e_ia_vw0 rfl rfl (by omega) rfl) ?_
    | refine wG_pure (e_ia_vwp rfl rfl (by omega) rfl) ?_
    | refine wG_pure (e_ia_vwm rfl rfl (by omega) (by omega) rfl) ?_
    | refine wG_pure (e_ia_vwi rfl rfl (by omega) rfl) ?_
    | refine wG_pure (e_ia_vwn rfl rfl (by omega) (by omega) rfl) ?_
    | refine wG_n rfl rfl ?_
    | refine wG_u rfl rfl ?_
    | refine wG_new (o_mks rfl rfl (by omega) (by decide)) ?_) | (refine wG_gd rfl (fun hgt => ?_) (fun hgf => ?_) <;> (first | simp only [eq_true hgt, decide_true] | simp only [eq_false hgf, decide_false])) | refine wC_cond_d rfl (fun hg => ?_) (fun hg => ?_))
  any_goals contradiction
  exact ret_boolE (.inr rfl) ⟨_, retV_mv rfl, rfl⟩
end Go.Proofs.Ytjfppdgomnjnmaa.Fnd
