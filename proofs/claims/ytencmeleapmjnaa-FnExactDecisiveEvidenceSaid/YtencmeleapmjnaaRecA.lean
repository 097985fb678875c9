/- Records: contexts, relations, where a context stands, copies and comparisons. -/
import Derived.Test.YtencmeleapmjnaaNamA
import Derived.Test.YtencmeleapmjnaaAb3
namespace Go.Proofs.Ytencmeleapmjnaa.Rec
open Go Go.Proofs.Ytencmeleapmjnaa.Ab Go.Proofs.Ytencmeleapmjnaa.Il
attribute [local irreducible] wpO wpC wpDr wpQ wpG wpE stepA seqQ blkQ Ret ev
set_option maxRecDepth 10000
set_option maxHeartbeats 4000000
set_option linter.unusedSimpArgs false
set_option linter.unusedVariables false

def ac7 : AC := (.seq (.reg [⟨(some 2), none, (.box 2 true (.t 0))⟩, ⟨(some 4), none, (.mv (.c (.int .i64 0)))⟩]) (.seq (.reg [⟨(some 5), none, (.fa 0 (.t 2))⟩, ⟨(some 6), none, (.ld false 1 (.t 5))⟩, ⟨(some 7), none, (.mv (.t 1))⟩, ⟨(some 8), none, (.call 29 [(.t 6), (.t 7)])⟩, ⟨(some 1), none, (.mv (.t 8))⟩]) (.seq (.seq (.reg [⟨(some 9), none, (.mv (.t 1))⟩, ⟨(some 10), none, (.bin .lss (.t 9) (.c (.int .i64 0)))⟩]) (.cond (.t 10) (.seq (.reg [⟨(some 4), none, (.mv (.c (.int .i64 (-1))))⟩]) .ret) .skip)) (.seq (.reg [⟨(some 11), none, (.fa 1 (.t 2))⟩, ⟨(some 12), none, (.ld false 1 (.t 11))⟩, ⟨(some 13), none, (.mv (.t 1))⟩, ⟨(some 14), none, (.call 30 [(.t 12), (.t 13)])⟩, ⟨(some 1), none, (.mv (.t 14))⟩]) (.seq (.seq (.reg [⟨(some 15), none, (.mv (.t 1))⟩, ⟨(some 16), none, (.bin .lss (.t 15) (.c (.int .i64 0)))⟩]) (.cond (.t 16) (.seq (.reg [⟨(some 4), none, (.mv (.c (.int .i64 (-1))))⟩]) .ret) .skip)) (.seq (.reg [⟨(some 17), none, (.mv (.t 1))⟩, ⟨(some 4), none, (.mv (.t 17))⟩]) .ret))))))
def ro7 : List AOp := [(.mv (.t 4))]
theorem fun7 : Fun Try.prog 7 18 ac7 ro7 := ⟨Try.f7, _, Try.func7, by kernel_rfl, rfl, rfl, by kernel_rfl, by kernel_rfl, by decide⟩
def ac10 : AC := (.seq (.reg [⟨(some 1), none, (.box 2 true (.t 0))⟩, ⟨(some 2), none, (.alloc [.nilS, .nilS])⟩]) (.seq (.reg [⟨(some 3), none, (.alloc [.nilS, .nilS])⟩]) (.seq (.reg [⟨(some 4), none, (.fa 0 (.t 1))⟩, ⟨(some 5), none, (.ld false 1 (.t 4))⟩, ⟨(some 6), none, (.call 33 [(.t 5)])⟩, ⟨(some 7), none, (.fa 0 (.t 3))⟩, ⟨none, none, (.st 1 (.t 7) (.t 6))⟩]) (.seq (.reg [⟨(some 8), none, (.fa 1 (.t 1))⟩, ⟨(some 9), none, (.ld false 1 (.t 8))⟩, ⟨(some 10), none, (.call 34 [(.t 9)])⟩, ⟨(some 11), none, (.fa 1 (.t 3))⟩, ⟨none, none, (.st 1 (.t 11) (.t 10))⟩]) (.seq (.reg [⟨(some 12), none, (.ld true 2 (.t 3))⟩, ⟨none, none, (.st 2 (.t 2) (.t 12))⟩]) .ret)))))
def ro10 : List AOp := [(.ld true 2 (.t 2))]
theorem fun10 : Fun Try.prog 10 13 ac10 ro10 := ⟨Try.f10, _, Try.func10, by kernel_rfl, rfl, rfl, by kernel_rfl, by kernel_rfl, by decide⟩
def ac14 : AC := (.seq (.reg [⟨(some 2), none, (.box 2 true (.t 0))⟩, ⟨(some 3), none, (.box 2 true (.t 1))⟩, ⟨(some 4), none, (.mv (.c (.bool false)))⟩]) (.seq (.seq (.reg [⟨(some 5), none, (.fa 0 (.t 2))⟩, ⟨(some 6), none, (.ld false 1 (.t 5))⟩, ⟨(some 7), none, (.fa 0 (.t 3))⟩, ⟨(some 8), none, (.ld false 1 (.t 7))⟩, ⟨(some 9), none, (.call 39 [(.t 6), (.t 8)])⟩, ⟨(some 10), none, (.un .not (.t 9))⟩]) (.cond (.t 10) (.seq (.reg [⟨(some 4), none, (.mv (.c (.bool false)))⟩]) .ret) .skip)) (.seq (.seq (.reg [⟨(some 11), none, (.fa 1 (.t 2))⟩, ⟨(some 12), none, (.ld false 1 (.t 11))⟩, ⟨(some 13), none, (.fa 1 (.t 3))⟩, ⟨(some 14), none, (.ld false 1 (.t 13))⟩, ⟨(some 15), none, (.call 40 [(.t 12), (.t 14)])⟩, ⟨(some 16), none, (.un .not (.t 15))⟩]) (.cond (.t 16) (.seq (.reg [⟨(some 4), none, (.mv (.c (.bool false)))⟩]) .ret) .skip)) (.seq (.reg [⟨(some 4), none, (.mv (.c (.bool true)))⟩]) .ret))))
def ro14 : List AOp := [(.mv (.t 4))]
theorem fun14 : Fun Try.prog 14 17 ac14 ro14 := ⟨Try.f14, _, Try.func14, by kernel_rfl, rfl, rfl, by kernel_rfl, by kernel_rfl, by decide⟩
def ac29 : AC := (.seq (.reg [⟨(some 4), none, (.mv (.c (.int .i64 0)))⟩]) (.seq (.reg [⟨(some 5), none, (.mv (.t 1))⟩, ⟨(some 6), none, (.mv (.t 0))⟩, ⟨(some 7), none, (.len (.t 6))⟩, ⟨(some 8), none, (.bin .sub (.t 5) (.t 7))⟩, ⟨(some 1), none, (.mv (.t 8))⟩]) (.seq (.seq (.reg [⟨(some 9), none, (.mv (.t 1))⟩, ⟨(some 10), none, (.bin .lss (.t 9) (.c (.int .i64 0)))⟩]) (.cond (.t 10) (.seq (.reg [⟨(some 4), none, (.mv (.c (.int .i64 (-1))))⟩]) .ret) .skip)) (.seq (.reg [⟨(some 11), none, (.mv (.t 1))⟩, ⟨(some 4), none, (.mv (.t 11))⟩]) .ret))))
def ro29 : List AOp := [(.mv (.t 4))]
theorem fun29 : Fun Try.prog 29 12 ac29 ro29 := ⟨Try.f29, _, Try.func29, by kernel_rfl, rfl, rfl, by kernel_rfl, by kernel_rfl, by decide⟩
def ac30 : AC := (.seq (.reg [⟨(some 4), none, (.mv (.c (.int .i64 0)))⟩]) (.seq (.reg [⟨(some 5), none, (.mv (.t 1))⟩, ⟨(some 6), none, (.mv (.t 0))⟩, ⟨(some 7), none, (.len (.t 6))⟩, ⟨(some 8), none, (.bin .sub (.t 5) (.t 7))⟩, ⟨(some 1), none, (.mv (.t 8))⟩]) (.seq (.seq (.reg [⟨(some 9), none, (.mv (.t 1))⟩, ⟨(some 10), none, (.bin .lss (.t 9) (.c (.int .i64 0)))⟩]) (.cond (.t 10) (.seq (.reg [⟨(some 4), none, (.mv (.c (.int .i64 (-1))))⟩]) .ret) .skip)) (.seq (.reg [⟨(some 11), none, (.mv (.t 1))⟩, ⟨(some 4), none, (.mv (.t 11))⟩]) .ret))))
def ro30 : List AOp := [(.mv (.t 4))]
theorem fun30 : Fun Try.prog 30 12 ac30 ro30 := ⟨Try.f30, _, Try.func30, by kernel_rfl, rfl, rfl, by kernel_rfl, by kernel_rfl, by decide⟩
def ac33 : AC := (.seq (.reg [⟨(some 2), none, (.mv (.c .nilS))⟩]) (.seq (.reg [⟨(some 5), none, (.mv (.t 0))⟩, ⟨(some 6), none, (.len (.t 5))⟩, ⟨(some 7), none, (.mks 2 16 [(.int .i64 0), (.int .i64 0)] (.t 6) (.t 6))⟩, ⟨(some 3), none, (.mv (.t 7))⟩]) (.seq (.seq (.reg [⟨(some 4), none, (.mv (.c (.int .i64 0)))⟩]) (.blk 0 (.loop (.seq (.seq (.reg [⟨(some 8), none, (.mv (.t 4))⟩, ⟨(some 9), none, (.mv (.t 0))⟩, ⟨(some 10), none, (.len (.t 9))⟩, ⟨(some 11), none, (.bin .lss (.t 8) (.t 10))⟩]) (.cond (.t 11) .skip (.exit 0))) (.seq (.blk 1 (.reg [⟨(some 14), none, (.mv (.t 3))⟩, ⟨(some 15), none, (.mv (.t 4))⟩, ⟨(some 16), none, (.mv (.t 0))⟩, ⟨(some 17), none, (.mv (.t 4))⟩, ⟨(some 18), none, (.ia 2 (.t 16) (.t 17))⟩, ⟨(some 19), none, (.ld true 2 (.t 18))⟩, ⟨(some 20), none, (.call 53 [(.t 19)])⟩, ⟨(some 21), none, (.ia 2 (.t 14) (.t 15))⟩, ⟨none, none, (.st 2 (.t 21) (.t 20))⟩])) (.reg [⟨(some 12), none, (.mv (.t 4))⟩, ⟨(some 13), none, (.bin .add (.t 12) (.c (.int .i64 1)))⟩, ⟨(some 4), none, (.mv (.t 13))⟩])))))) (.seq (.reg [⟨(some 22), none, (.mv (.t 3))⟩, ⟨(some 2), none, (.mv (.t 22))⟩]) .ret))))
def ro33 : List AOp := [(.mv (.t 2))]
theorem fun33 : Fun Try.prog 33 23 ac33 ro33 := ⟨Try.f33, _, Try.func33, by kernel_rfl, rfl, rfl, by kernel_rfl, by kernel_rfl, by decide⟩
def ac34 : AC := (.seq (.reg [⟨(some 2), none, (.mv (.c .nilS))⟩]) (.seq (.reg [⟨(some 5), none, (.mv (.t 0))⟩, ⟨(some 6), none, (.len (.t 5))⟩, ⟨(some 7), none, (.mks 2 16 [(.int .i64 0), (.int .i64 0)] (.t 6) (.t 6))⟩, ⟨(some 3), none, (.mv (.t 7))⟩]) (.seq (.seq (.reg [⟨(some 4), none, (.mv (.c (.int .i64 0)))⟩]) (.blk 0 (.loop (.seq (.seq (.reg [⟨(some 8), none, (.mv (.t 4))⟩, ⟨(some 9), none, (.mv (.t 0))⟩, ⟨(some 10), none, (.len (.t 9))⟩, ⟨(some 11), none, (.bin .lss (.t 8) (.t 10))⟩]) (.cond (.t 11) .skip (.exit 0))) (.seq (.blk 1 (.reg [⟨(some 14), none, (.mv (.t 3))⟩, ⟨(some 15), none, (.mv (.t 4))⟩, ⟨(some 16), none, (.mv (.t 0))⟩, ⟨(some 17), none, (.mv (.t 4))⟩, ⟨(some 18), none, (.ia 2 (.t 16) (.t 17))⟩, ⟨(some 19), none, (.ld true 2 (.t 18))⟩, ⟨(some 20), none, (.call 54 [(.t 19)])⟩, ⟨(some 21), none, (.ia 2 (.t 14) (.t 15))⟩, ⟨none, none, (.st 2 (.t 21) (.t 20))⟩])) (.reg [⟨(some 12), none, (.mv (.t 4))⟩, ⟨(some 13), none, (.bin .add (.t 12) (.c (.int .i64 1)))⟩, ⟨(some 4), none, (.mv (.t 13))⟩])))))) (.seq (.reg [⟨(some 22), none, (.mv (.t 3))⟩, ⟨(some 2), none, (.mv (.t 22))⟩]) .ret))))
def ro34 : List AOp := [(.mv (.t 2))]
theorem fun34 : Fun Try.prog 34 23 ac34 ro34 := ⟨Try.f34, _, Try.func34, by kernel_rfl, rfl, rfl, by kernel_rfl, by kernel_rfl, by decide⟩
def ac39 : AC := (.seq (.reg [⟨(some 4), none, (.mv (.c (.bool false)))⟩]) (.seq (.seq (.reg [⟨(some 6), none, (.mv (.t 0))⟩, ⟨(some 7), none, (.len (.t 6))⟩, ⟨(some 8), none, (.mv (.t 1))⟩, ⟨(some 9), none, (.len (.t 8))⟩, ⟨(some 10), none, (.bin .neq (.t 7) (.t 9))⟩]) (.cond (.t 10) (.seq (.reg [⟨(some 4), none, (.mv (.c (.bool false)))⟩]) .ret) .skip)) (.seq (.seq (.reg [⟨(some 5), none, (.mv (.c (.int .i64 0)))⟩]) (.blk 0 (.loop (.seq (.seq (.reg [⟨(some 11), none, (.mv (.t 5))⟩, ⟨(some 12), none, (.mv (.t 0))⟩, ⟨(some 13), none, (.len (.t 12))⟩, ⟨(some 14), none, (.bin .lss (.t 11) (.t 13))⟩]) (.cond (.t 14) .skip (.exit 0))) (.seq (.blk 1 (.seq (.dreg [⟨(some 17), none, (.mv (.t 0))⟩, ⟨(some 18), none, (.mv (.t 5))⟩, ⟨(some 19), none, (.ia 2 (.t 17) (.t 18))⟩, ⟨(some 20), none, (.ld true 2 (.t 19))⟩, ⟨(some 21), none, (.mv (.t 1))⟩, ⟨(some 22), none, (.mv (.t 5))⟩, ⟨(some 23), none, (.ia 2 (.t 21) (.t 22))⟩, ⟨(some 24), none, (.ld true 2 (.t 23))⟩, ⟨(some 25), none, (.call 56 [(.t 20), (.t 24)])⟩, ⟨(some 26), none, (.un .not (.t 25))⟩] [[], [], [0, 1], [0, 1, 2], [], [], [4, 5], [4, 5, 6], [0, 1, 2, 3, 4, 5, 6, 7], [0, 1, 2, 3, 4, 5, 6, 7, 8]]) (.cond (.t 26) (.seq (.reg [⟨(some 4), none, (.mv (.c (.bool false)))⟩]) .ret) .skip))) (.reg [⟨(some 15), none, (.mv (.t 5))⟩, ⟨(some 16), none, (.bin .add (.t 15) (.c (.int .i64 1)))⟩, ⟨(some 5), none, (.mv (.t 16))⟩])))))) (.seq (.reg [⟨(some 4), none, (.mv (.c (.bool true)))⟩]) .ret))))
def ro39 : List AOp := [(.mv (.t 4))]
theorem fun39 : Fun Try.prog 39 27 ac39 ro39 := ⟨Try.f39, _, Try.func39, by kernel_rfl, rfl, rfl, by kernel_rfl, by kernel_rfl, by decide⟩
def ac40 : AC := (.seq (.reg [⟨(some 4), none, (.mv (.c (.bool false)))⟩]) (.seq (.seq (.reg [⟨(some 6), none, (.mv (.t 0))⟩, ⟨(some 7), none, (.len (.t 6))⟩, ⟨(some 8), none, (.mv (.t 1))⟩, ⟨(some 9), none, (.len (.t 8))⟩, ⟨(some 10), none, (.bin .neq (.t 7) (.t 9))⟩]) (.cond (.t 10) (.seq (.reg [⟨(some 4), none, (.mv (.c (.bool false)))⟩]) .ret) .skip)) (.seq (.seq (.reg [⟨(some 5), none, (.mv (.c (.int .i64 0)))⟩]) (.blk 0 (.loop (.seq (.seq (.reg [⟨(some 11), none, (.mv (.t 5))⟩, ⟨(some 12), none, (.mv (.t 0))⟩, ⟨(some 13), none, (.len (.t 12))⟩, ⟨(some 14), none, (.bin .lss (.t 11) (.t 13))⟩]) (.cond (.t 14) .skip (.exit 0))) (.seq (.blk 1 (.seq (.dreg [⟨(some 17), none, (.mv (.t 0))⟩, ⟨(some 18), none, (.mv (.t 5))⟩, ⟨(some 19), none, (.ia 2 (.t 17) (.t 18))⟩, ⟨(some 20), none, (.ld true 2 (.t 19))⟩, ⟨(some 21), none, (.mv (.t 1))⟩, ⟨(some 22), none, (.mv (.t 5))⟩, ⟨(some 23), none, (.ia 2 (.t 21) (.t 22))⟩, ⟨(some 24), none, (.ld true 2 (.t 23))⟩, ⟨(some 25), none, (.call 57 [(.t 20), (.t 24)])⟩, ⟨(some 26), none, (.un .not (.t 25))⟩] [[], [], [0, 1], [0, 1, 2], [], [], [4, 5], [4, 5, 6], [0, 1, 2, 3, 4, 5, 6, 7], [0, 1, 2, 3, 4, 5, 6, 7, 8]]) (.cond (.t 26) (.seq (.reg [⟨(some 4), none, (.mv (.c (.bool false)))⟩]) .ret) .skip))) (.reg [⟨(some 15), none, (.mv (.t 5))⟩, ⟨(some 16), none, (.bin .add (.t 15) (.c (.int .i64 1)))⟩, ⟨(some 5), none, (.mv (.t 16))⟩])))))) (.seq (.reg [⟨(some 4), none, (.mv (.c (.bool true)))⟩]) .ret))))
def ro40 : List AOp := [(.mv (.t 4))]
theorem fun40 : Fun Try.prog 40 27 ac40 ro40 := ⟨Try.f40, _, Try.func40, by kernel_rfl, rfl, rfl, by kernel_rfl, by kernel_rfl, by decide⟩
def ac53 : AC := (.seq (.reg [⟨(some 1), none, (.box 2 true (.t 0))⟩, ⟨(some 2), none, (.alloc [(.int .i64 0), (.int .i64 0)])⟩]) (.seq (.reg [⟨(some 3), none, (.alloc [(.int .i64 0), (.int .i64 0)])⟩]) (.seq (.reg [⟨(some 4), none, (.fa 0 (.t 1))⟩, ⟨(some 5), none, (.ld false 1 (.t 4))⟩, ⟨(some 6), none, (.fa 0 (.t 3))⟩, ⟨none, none, (.st 1 (.t 6) (.t 5))⟩]) (.seq (.reg [⟨(some 7), none, (.fa 1 (.t 1))⟩, ⟨(some 8), none, (.ld false 1 (.t 7))⟩, ⟨(some 9), none, (.fa 1 (.t 3))⟩, ⟨none, none, (.st 1 (.t 9) (.t 8))⟩]) (.seq (.reg [⟨(some 10), none, (.ld true 2 (.t 3))⟩, ⟨none, none, (.st 2 (.t 2) (.t 10))⟩]) .ret)))))
def ro53 : List AOp := [(.ld true 2 (.t 2))]
theorem fun53 : Fun Try.prog 53 11 ac53 ro53 := ⟨Try.f53, _, Try.func53, by kernel_rfl, rfl, rfl, by kernel_rfl, by kernel_rfl, by decide⟩
def ac54 : AC := (.seq (.reg [⟨(some 1), none, (.box 2 true (.t 0))⟩, ⟨(some 2), none, (.alloc [(.int .i64 0), (.int .i64 0)])⟩]) (.seq (.reg [⟨(some 3), none, (.alloc [(.int .i64 0), (.int .i64 0)])⟩]) (.seq (.reg [⟨(some 4), none, (.fa 0 (.t 1))⟩, ⟨(some 5), none, (.ld false 1 (.t 4))⟩, ⟨(some 6), none, (.fa 0 (.t 3))⟩, ⟨none, none, (.st 1 (.t 6) (.t 5))⟩]) (.seq (.reg [⟨(some 7), none, (.fa 1 (.t 1))⟩, ⟨(some 8), none, (.ld false 1 (.t 7))⟩, ⟨(some 9), none, (.fa 1 (.t 3))⟩, ⟨none, none, (.st 1 (.t 9) (.t 8))⟩]) (.seq (.reg [⟨(some 10), none, (.ld true 2 (.t 3))⟩, ⟨none, none, (.st 2 (.t 2) (.t 10))⟩]) .ret)))))
def ro54 : List AOp := [(.ld true 2 (.t 2))]
theorem fun54 : Fun Try.prog 54 11 ac54 ro54 := ⟨Try.f54, _, Try.func54, by kernel_rfl, rfl, rfl, by kernel_rfl, by kernel_rfl, by decide⟩
def ac56 : AC := (.seq (.reg [⟨(some 2), none, (.box 2 true (.t 0))⟩, ⟨(some 3), none, (.box 2 true (.t 1))⟩, ⟨(some 4), none, (.mv (.c (.bool false)))⟩]) (.seq (.seq (.reg [⟨(some 5), none, (.fa 0 (.t 2))⟩, ⟨(some 6), none, (.ld false 1 (.t 5))⟩, ⟨(some 7), none, (.fa 0 (.t 3))⟩, ⟨(some 8), none, (.ld false 1 (.t 7))⟩, ⟨(some 9), none, (.bin .neq (.t 6) (.t 8))⟩]) (.cond (.t 9) (.seq (.reg [⟨(some 4), none, (.mv (.c (.bool false)))⟩]) .ret) .skip)) (.seq (.seq (.reg [⟨(some 10), none, (.fa 1 (.t 2))⟩, ⟨(some 11), none, (.ld false 1 (.t 10))⟩, ⟨(some 12), none, (.fa 1 (.t 3))⟩, ⟨(some 13), none, (.ld false 1 (.t 12))⟩, ⟨(some 14), none, (.bin .neq (.t 11) (.t 13))⟩]) (.cond (.t 14) (.seq (.reg [⟨(some 4), none, (.mv (.c (.bool false)))⟩]) .ret) .skip)) (.seq (.reg [⟨(some 4), none, (.mv (.c (.bool true)))⟩]) .ret))))
def ro56 : List AOp := [(.mv (.t 4))]
theorem fun56 : Fun Try.prog 56 15 ac56 ro56 := ⟨Try.f56, _, Try.func56, by kernel_rfl, rfl, rfl, by kernel_rfl, by kernel_rfl, by decide⟩
def ac57 : AC := (.seq (.reg [⟨(some 2), none, (.box 2 true (.t 0))⟩, ⟨(some 3), none, (.box 2 true (.t 1))⟩, ⟨(some 4), none, (.mv (.c (.bool false)))⟩]) (.seq (.seq (.reg [⟨(some 5), none, (.fa 0 (.t 2))⟩, ⟨(some 6), none, (.ld false 1 (.t 5))⟩, ⟨(some 7), none, (.fa 0 (.t 3))⟩, ⟨(some 8), none, (.ld false 1 (.t 7))⟩, ⟨(some 9), none, (.bin .neq (.t 6) (.t 8))⟩]) (.cond (.t 9) (.seq (.reg [⟨(some 4), none, (.mv (.c (.bool false)))⟩]) .ret) .skip)) (.seq (.seq (.reg [⟨(some 10), none, (.fa 1 (.t 2))⟩, ⟨(some 11), none, (.ld false 1 (.t 10))⟩, ⟨(some 12), none, (.fa 1 (.t 3))⟩, ⟨(some 13), none, (.ld false 1 (.t 12))⟩, ⟨(some 14), none, (.bin .neq (.t 11) (.t 13))⟩]) (.cond (.t 14) (.seq (.reg [⟨(some 4), none, (.mv (.c (.bool false)))⟩]) .ret) .skip)) (.seq (.reg [⟨(some 4), none, (.mv (.c (.bool true)))⟩]) .ret))))
def ro57 : List AOp := [(.mv (.t 4))]
theorem fun57 : Fun Try.prog 57 15 ac57 ro57 := ⟨Try.f57, _, Try.func57, by kernel_rfl, rfl, rfl, by kernel_rfl, by kernel_rfl, by decide⟩
def ac59 : AC := (.seq (.reg [⟨(some 2), none, (.box 2 true (.t 0))⟩, ⟨(some 4), none, (.mv (.c (.int .i64 0)))⟩]) (.seq (.seq (.reg [⟨(some 5), none, (.mv (.c (.int .i64 0)))⟩]) (.blk 0 (.loop (.seq (.seq (.reg [⟨(some 6), none, (.mv (.t 5))⟩, ⟨(some 7), none, (.fa 0 (.t 2))⟩, ⟨(some 8), none, (.ld false 1 (.t 7))⟩, ⟨(some 9), none, (.len (.t 8))⟩, ⟨(some 10), none, (.bin .lss (.t 6) (.t 9))⟩]) (.cond (.t 10) .skip (.exit 0))) (.seq (.blk 1 (.seq (.reg [⟨(some 13), none, (.fa 0 (.t 2))⟩, ⟨(some 14), none, (.ld false 1 (.t 13))⟩, ⟨(some 15), none, (.mv (.t 5))⟩, ⟨(some 16), none, (.ia 2 (.t 14) (.t 15))⟩, ⟨(some 17), none, (.fa 0 (.t 16))⟩, ⟨(some 18), none, (.ld false 1 (.t 17))⟩, ⟨(some 19), none, (.mv (.t 1))⟩, ⟨(some 20), none, (.bin .eql (.t 18) (.t 19))⟩]) (.cond (.t 20) (.seq (.reg [⟨(some 21), none, (.mv (.t 5))⟩, ⟨(some 4), none, (.mv (.t 21))⟩]) .ret) .skip))) (.reg [⟨(some 11), none, (.mv (.t 5))⟩, ⟨(some 12), none, (.bin .add (.t 11) (.c (.int .i64 1)))⟩, ⟨(some 5), none, (.mv (.t 12))⟩])))))) (.seq (.reg [⟨(some 4), none, (.mv (.c (.int .i64 (-1))))⟩]) .ret)))
def ro59 : List AOp := [(.mv (.t 4))]
theorem fun59 : Fun Try.prog 59 22 ac59 ro59 := ⟨Try.f59, _, Try.func59, by kernel_rfl, rfl, rfl, by kernel_rfl, by kernel_rfl, by decide⟩
def ac63 : AC := (.seq (.reg [⟨(some 2), none, (.box 2 true (.t 0))⟩, ⟨(some 3), none, (.box 1 false (.t 1))⟩, ⟨(some 4), none, (.mv (.c (.int .i64 0)))⟩]) (.seq (.reg [⟨(some 5), none, (.fa 0 (.t 2))⟩, ⟨(some 6), none, (.ld false 1 (.t 5))⟩, ⟨(some 7), none, (.mkf 76 [(.t 3)])⟩, ⟨(some 8), none, (.call 75 [(.t 6), (.t 7)])⟩, ⟨(some 4), none, (.mv (.t 8))⟩]) .ret))
def ro63 : List AOp := [(.mv (.t 4))]
theorem fun63 : Fun Try.prog 63 9 ac63 ro63 := ⟨Try.f63, _, Try.func63, by kernel_rfl, rfl, rfl, by kernel_rfl, by kernel_rfl, by decide⟩
def ac75 : AC := (.seq (.reg [⟨(some 4), none, (.mv (.c (.int .i64 0)))⟩]) (.seq (.seq (.reg [⟨(some 6), none, (.mv (.t 0))⟩, ⟨(some 7), none, (.len (.t 6))⟩, ⟨(some 8), none, (.mv (.c (.int .i64 0)))⟩]) (.blk 0 (.loop (.seq (.reg [⟨(some 9), none, (.bin .lss (.t 8) (.t 7))⟩]) (.seq (.cond (.t 9) .skip (.exit 0)) (.seq (.blk 1 (.seq (.reg [⟨(some 10), none, (.mv (.t 8))⟩, ⟨(some 5), none, (.mv (.t 10))⟩]) (.seq (.reg [⟨(some 11), none, (.mv (.t 1))⟩, ⟨(some 12), none, (.mv (.t 0))⟩, ⟨(some 13), none, (.mv (.t 5))⟩, ⟨(some 14), none, (.ia 2 (.t 12) (.t 13))⟩, ⟨(some 15), none, (.ld true 2 (.t 14))⟩, ⟨(some 16), none, (.callv (.t 11) [(.t 15)])⟩]) (.cond (.t 16) (.seq (.reg [⟨(some 17), none, (.mv (.t 5))⟩, ⟨(some 4), none, (.mv (.t 17))⟩]) .ret) .skip)))) (.reg [⟨(some 18), none, (.bin .add (.t 8) (.c (.int .i64 1)))⟩, ⟨(some 8), none, (.mv (.t 18))⟩]))))))) (.seq (.reg [⟨(some 4), none, (.mv (.c (.int .i64 (-1))))⟩]) .ret)))
def ro75 : List AOp := [(.mv (.t 4))]
theorem fun75 : Fun Try.prog 75 19 ac75 ro75 := ⟨Try.f75, _, Try.func75, by kernel_rfl, rfl, rfl, by kernel_rfl, by kernel_rfl, by decide⟩
def ac76 : AC := (.seq (.reg [⟨(some 2), none, (.box 2 true (.t 0))⟩, ⟨(some 3), none, (.mv (.c (.bool false)))⟩]) (.seq (.reg [⟨(some 4), none, (.fa 0 (.t 2))⟩, ⟨(some 5), none, (.ld false 1 (.t 4))⟩, ⟨(some 6), none, (.ld false 1 (.t 1))⟩, ⟨(some 7), none, (.bin .eql (.t 5) (.t 6))⟩, ⟨(some 3), none, (.mv (.t 7))⟩]) .ret))
def ro76 : List AOp := [(.mv (.t 3))]
theorem fun76 : Fun Try.prog 76 8 ac76 ro76 := ⟨Try.f76, _, Try.func76, by kernel_rfl, rfl, rfl, by kernel_rfl, by kernel_rfl, by decide⟩
def ac80 : AC := (.seq (.reg [⟨(some 2), none, (.box 2 true (.t 0))⟩, ⟨(some 3), none, (.box 2 true (.t 1))⟩, ⟨(some 4), none, (.mv (.c (.bool false)))⟩]) (.seq (.reg [⟨(some 5), none, (.fa 0 (.t 2))⟩, ⟨(some 6), none, (.ld false 1 (.t 5))⟩, ⟨(some 7), none, (.fa 0 (.t 3))⟩, ⟨(some 8), none, (.ld false 1 (.t 7))⟩, ⟨(some 9), none, (.bin .lss (.t 6) (.t 8))⟩, ⟨(some 10), none, (.mv (.t 9))⟩, ⟨(some 11), (some (10, false)), (.fa 0 (.t 2))⟩, ⟨(some 12), (some (10, false)), (.ld false 1 (.t 11))⟩, ⟨(some 13), (some (10, false)), (.fa 0 (.t 3))⟩, ⟨(some 14), (some (10, false)), (.ld false 1 (.t 13))⟩, ⟨(some 15), (some (10, false)), (.bin .eql (.t 12) (.t 14))⟩, ⟨(some 16), (some (10, false)), (.mv (.t 15))⟩, ⟨(some 17), (some (16, true)), (.fa 1 (.t 2))⟩, ⟨(some 18), (some (16, true)), (.ld false 1 (.t 17))⟩, ⟨(some 19), (some (16, true)), (.fa 1 (.t 3))⟩, ⟨(some 20), (some (16, true)), (.ld false 1 (.t 19))⟩, ⟨(some 21), (some (16, true)), (.bin .lss (.t 18) (.t 20))⟩, ⟨(some 22), (some (10, false)), (.pick (.t 16) (.t 21) (.c (.bool false)))⟩, ⟨(some 23), none, (.pick (.t 10) (.c (.bool true)) (.t 22))⟩, ⟨(some 4), none, (.mv (.t 23))⟩]) .ret))
def ro80 : List AOp := [(.mv (.t 4))]
theorem fun80 : Fun Try.prog 80 24 ac80 ro80 := ⟨Try.f80, _, Try.func80, by kernel_rfl, rfl, rfl, by kernel_rfl, by kernel_rfl, by decide⟩
def ac82 : AC := (.seq (.reg [⟨(some 2), none, (.mv (.c (.bool false)))⟩]) (.seq (.reg [⟨(some 3), none, (.mv (.t 0))⟩, ⟨(some 4), none, (.call 87 [(.t 3), (.c (.int .i64 1)), (.c (.int .i64 4))])⟩, ⟨(some 2), none, (.mv (.t 4))⟩]) .ret))
def ro82 : List AOp := [(.mv (.t 2))]
theorem fun82 : Fun Try.prog 82 5 ac82 ro82 := ⟨Try.f82, _, Try.func82, by kernel_rfl, rfl, rfl, by kernel_rfl, by kernel_rfl, by decide⟩
def ac83 : AC := (.seq (.reg [⟨(some 2), none, (.box 2 true (.t 0))⟩, ⟨(some 3), none, (.box 2 true (.t 1))⟩, ⟨(some 4), none, (.mv (.c (.int .i64 0)))⟩]) (.seq (.dreg [⟨(some 5), none, (.fa 0 (.t 2))⟩, ⟨(some 6), none, (.ld false 1 (.t 5))⟩, ⟨(some 7), none, (.fa 0 (.t 3))⟩, ⟨(some 8), none, (.ld false 1 (.t 7))⟩, ⟨(some 9), none, (.call 89 [(.t 6), (.t 8)])⟩, ⟨(some 10), none, (.fa 1 (.t 2))⟩, ⟨(some 11), none, (.ld false 1 (.t 10))⟩, ⟨(some 12), none, (.fa 1 (.t 3))⟩, ⟨(some 13), none, (.ld false 1 (.t 12))⟩, ⟨(some 14), none, (.call 89 [(.t 11), (.t 13)])⟩, ⟨(some 15), none, (.bsl 1 [(.int .i64 0)] 2 [(0, (.t 9)), (1, (.t 14))])⟩, ⟨(some 16), none, (.call 88 [(.t 15)])⟩, ⟨(some 4), none, (.mv (.t 16))⟩] [[], [0], [], [2], [0, 1, 2, 3], [], [5], [], [7], [0, 1, 2, 3, 4, 5, 6, 7, 8], [0, 1, 2, 3, 4, 5, 6, 7, 8, 9], [0, 1, 2, 3, 4, 5, 6, 7, 8, 9, 10], [0, 1, 2, 3, 4, 5, 6, 7, 8, 9, 10, 11]]) .ret))
def ro83 : List AOp := [(.mv (.t 4))]
theorem fun83 : Fun Try.prog 83 17 ac83 ro83 := ⟨Try.f83, _, Try.func83, by kernel_rfl, rfl, rfl, by kernel_rfl, by kernel_rfl, by decide⟩

/-! ### The first place that a test holds of -/
def IxN (p : Nat → Prop) (n : Nat) (k : Int) : Prop := (k = -1 ∧ ∀ j, j < n → ¬ p j) ∨ ∃ m : Nat, k = m ∧ m < n ∧ p m ∧ ∀ j, j < m → ¬ p j
theorem ixN_ex (p : Nat → Prop) (n : Nat) : ∃ k, IxN p n k := by
  by_cases h : ∀ j, j < n → ¬ p j
  · exact ⟨-1, .inl ⟨rfl, h⟩⟩
  · have hex : ∃ j, j < n ∧ p j := by
      refine Classical.byContradiction fun hn => h fun j hj he => hn ⟨j, hj, he⟩
    obtain ⟨j, hj⟩ := hex
    induction j using Nat.strongRecOn with
    | ind j ih =>
      by_cases hp : ∀ q, q < j → ¬ p q
      · exact ⟨j, .inr ⟨j, rfl, hj.1, hj.2, hp⟩⟩
      · obtain ⟨q, hq⟩ := Classical.not_forall.1 hp
        obtain ⟨hq1, hq2⟩ := Classical.not_imp.1 hq
        exact ih q hq1 ⟨by omega, Classical.not_not.1 hq2⟩
noncomputable def ixN (p : Nat → Prop) (n : Nat) : Int := Classical.choose (ixN_ex p n)
theorem ixN_p (p : Nat → Prop) (n : Nat) : IxN p n (ixN p n) := Classical.choose_spec (ixN_ex p n)
theorem ixN_b (p : Nat → Prop) (n : Nat) : -1 ≤ ixN p n ∧ ixN p n < n := by rcases ixN_p p n with ⟨h, _⟩ | ⟨m, h, h2, _⟩ <;> omega
theorem ixN_at {p : Nat → Prop} {n i : Nat} (hi : i < n) (hp : p i) (hb : ∀ j, j < i → ¬ p j) : ixN p n = i := by
  rcases ixN_p p n with ⟨h1, h2⟩ | ⟨m, h1, h2, h3, h4⟩
  · exact absurd hp (h2 i hi)
  · rw [h1]
    rcases Nat.lt_trichotomy i m with h | h | h
    · exact absurd hp (h4 i h)
    · rw [h]
    · exact absurd h3 (hb m h)
theorem ixN_no {p : Nat → Prop} {n : Nat} (h : ∀ j, j < n → ¬ p j) : ixN p n = -1 := by
  rcases ixN_p p n with ⟨h1, h2⟩ | ⟨m, h1, h2, h3, h4⟩
  · exact h1
  · exact absurd h3 (h m h2)
theorem ixN_in {p : Nat → Prop} {n : Nat} (h : 0 ≤ ixN p n) : (ixN p n).toNat < n ∧ p (ixN p n).toNat := by
  rcases ixN_p p n with ⟨h1, h2⟩ | ⟨m, h1, h2, h3, h4⟩
  · omega
  · rw [h1, Int.toNat_natCast]; exact ⟨h2, h3⟩

structure Cn where
  n : Int
  k : Int
  deriving Inhabited
def cRow (c : Cn) : List AV := [.int .i64 c.n, .int .i64 c.k]
theorem cRow_plain : ∀ x : Cn, ∀ v ∈ cRow x, AV.plain v = true := by intro x v hv; simp [cRow] at hv; rcases hv with rfl | rfl <;> rfl
structure Rl where
  u : Int
  l : Int
  deriving Inhabited
def xRow (c : Rl) : List AV := [.int .i64 c.u, .int .i64 c.l]
theorem xRow_plain : ∀ x : Rl, ∀ v ∈ xRow x, AV.plain v = true := by intro x v hv; simp [xRow] at hv; rcases hv with rfl | rfl <;> rfl
structure Rc where
  cs : List Cn
  xs : List Rl
  deriving Inhabited
def rRow (a b : Bool) (r : Rc) : List AV := [.vw a (r.cs.map cRow), .vw b (r.xs.map xRow)]
theorem ltrK (ws : List Cn) (m : Nat) : ∀ row ∈ ws.map cRow, ∀ x ∈ row, AV.ltr m x = true := by
  refine rows_ltr _ m fun row hr x hx => ?_
  obtain ⟨p, _, rfl⟩ := List.mem_map.1 hr
  exact cRow_plain p x hx
theorem ltrX (ws : List Rl) (m : Nat) : ∀ row ∈ ws.map xRow, ∀ x ∈ row, AV.ltr m x = true := by
  refine rows_ltr _ m fun row hr x hx => ?_
  obtain ⟨p, _, rfl⟩ := List.mem_map.1 hr
  exact xRow_plain p x hx

theorem con53 (f : Cn) : Con Try.prog 53 true [.agg (cRow f)] (.agg (cRow f)) [] := by
  refine con_of_wp mixed fun53 (by simp) [] plain_nil ?_
  unfold ac53 ro53
  simp only [zipT]
  repeat (first
    | refine wC_a rfl ?_
    | refine q_s rfl ?_
    | refine q_b rfl ?_
    | refine wG_nil ?_
    | refine wG_g rfl ?_
    | refine wG_pure (o_len_vwm rfl) ?_
    | refine wG_pure (o_not_d rfl) ?_
    | refine wG_p rfl (by first | exact rfl | omega) ?_
    | refine wG_pure (o_str2 rfl rfl rfl) ?_
    | refine wG_pure (e_istr rfl rfl (by omega)) ?_
    | refine wG_pure (e_istr0 rfl rfl (by omega)) ?_
    | refine wG_pure (o_not rfl) ?_
    | refine wG_pure (e_ia_vw0 rfl rfl (by omega) rfl) ?_
    | refine wG_pure (e_ia_vwp rfl rfl (by omega) rfl) ?_
    | refine wG_pure (e_ia_vwm rfl rfl (by omega) (by omega) rfl) ?_
    | refine wG_pure (e_ia_vwi rfl rfl (by omega) rfl) ?_
    | refine wG_pure (e_ia_vwn rfl rfl (by omega) (by omega) rfl) ?_
    | refine wG_n rfl rfl ?_
    | refine wG_u rfl rfl ?_
    | refine wG_new (o_mks rfl rfl (by omega) (by decide)) ?_)
  refine ret_valE (.inr rfl) rfl trivial rfl ?_; exact ⟨_, retV_ldt rfl rfl rfl rfl rfl, rfl⟩
theorem con54 (f : Rl) : Con Try.prog 54 true [.agg (xRow f)] (.agg (xRow f)) [] := by
  refine con_of_wp mixed fun54 (by simp) [] plain_nil ?_
  unfold ac54 ro54
  simp only [zipT]
  repeat (first
    | refine wC_a rfl ?_
    | refine q_s rfl ?_
    | refine q_b rfl ?_
    | refine wG_nil ?_
    | refine wG_g rfl ?_
    | refine wG_pure (o_len_vwm rfl) ?_
    | refine wG_pure (o_not_d rfl) ?_
    | refine wG_p rfl (by first | exact rfl | omega) ?_
    | refine wG_pure (o_str2 rfl rfl rfl) ?_
    | refine wG_pure (e_istr rfl rfl (by omega)) ?_
    | refine wG_pure (e_istr0 rfl rfl (by omega)) ?_
    | refine wG_pure (o_not rfl) ?_
    | refine wG_pure (e_ia_vw0 rfl rfl (by omega) rfl) ?_
    | refine wG_pure (e_ia_vwp rfl rfl (by omega) rfl) ?_
    | refine wG_pure (e_ia_vwm rfl rfl (by omega) (by omega) rfl) ?_
    | refine wG_pure (e_ia_vwi rfl rfl (by omega) rfl) ?_
    | refine wG_pure (e_ia_vwn rfl rfl (by omega) (by omega) rfl) ?_
    | refine wG_n rfl rfl ?_
    | refine wG_u rfl rfl ?_
    | refine wG_new (o_mks rfl rfl (by omega) (by decide)) ?_)
  refine ret_valE (.inr rfl) rfl trivial rfl ?_; exact ⟨_, retV_ldt rfl rfl rfl rfl rfl, rfl⟩
theorem con56 (a : Cn) : Con Try.prog 56 true [.agg (cRow a), .agg (cRow a)] (.bool true) [] := by
  refine con_of_wp mixed fun56 (by simp) [] plain_nil ?_
  unfold ac56 ro56
  simp only [zipT]
  repeat' (first | (first
    | refine wC_a rfl ?_
    | refine q_s rfl ?_
    | refine q_b rfl ?_
    | refine wG_nil ?_
    | refine wG_g rfl ?_
    | refine wG_pure (o_len_vwm rfl) ?_
    | refine wG_pure (o_not_d rfl) ?_
    | refine wG_p rfl (by first | exact rfl | omega) ?_
    | refine wG_pure (o_str2 rfl rfl rfl) ?_
    | refine wG_pure (e_istr rfl rfl (by omega)) ?_
    | refine wG_pure (e_istr0 rfl rfl (by omega)) ?_
    | refine wG_pure (o_not rfl) ?_
    | refine wG_pure (e_ia_vw0 rfl rfl (by omega) rfl) ?_
    | refine wG_pure (e_ia_vwp rfl rfl (by omega) rfl) ?_
    | refine wG_pure (e_ia_vwm rfl rfl (by omega) (by omega) rfl) ?_
    | refine wG_pure (e_ia_vwi rfl rfl (by omega) rfl) ?_
    | refine wG_pure (e_ia_vwn rfl rfl (by omega) (by omega) rfl) ?_
    | refine wG_n rfl rfl ?_
    | refine wG_u rfl rfl ?_
    | refine wG_new (o_mks rfl rfl (by omega) (by decide)) ?_) | (refine wG_gd rfl (fun hgt => ?_) (fun hgf => ?_) <;> (first | simp only [eq_true hgt, decide_true] | simp only [eq_false hgf, decide_false])) | refine wC_cond_d rfl (fun hg => ?_) (fun hg => ?_))
  any_goals contradiction
  refine ret_boolE (.inr rfl) ⟨_, retV_mv rfl, rfl⟩
theorem con57 (a : Rl) : Con Try.prog 57 true [.agg (xRow a), .agg (xRow a)] (.bool true) [] := by
  refine con_of_wp mixed fun57 (by simp) [] plain_nil ?_
  unfold ac57 ro57
  simp only [zipT]
  repeat' (first | (first
    | refine wC_a rfl ?_
    | refine q_s rfl ?_
    | refine q_b rfl ?_
    | refine wG_nil ?_
    | refine wG_g rfl ?_
    | refine wG_pure (o_len_vwm rfl) ?_
    | refine wG_pure (o_not_d rfl) ?_
    | refine wG_p rfl (by first | exact rfl | omega) ?_
    | refine wG_pure (o_str2 rfl rfl rfl) ?_
    | refine wG_pure (e_istr rfl rfl (by omega)) ?_
    | refine wG_pure (e_istr0 rfl rfl (by omega)) ?_
    | refine wG_pure (o_not rfl) ?_
    | refine wG_pure (e_ia_vw0 rfl rfl (by omega) rfl) ?_
    | refine wG_pure (e_ia_vwp rfl rfl (by omega) rfl) ?_
    | refine wG_pure (e_ia_vwm rfl rfl (by omega) (by omega) rfl) ?_
    | refine wG_pure (e_ia_vwi rfl rfl (by omega) rfl) ?_
    | refine wG_pure (e_ia_vwn rfl rfl (by omega) (by omega) rfl) ?_
    | refine wG_n rfl rfl ?_
    | refine wG_u rfl rfl ?_
    | refine wG_new (o_mks rfl rfl (by omega) (by decide)) ?_) | (refine wG_gd rfl (fun hgt => ?_) (fun hgf => ?_) <;> (first | simp only [eq_true hgt, decide_true] | simp only [eq_false hgf, decide_false])) | refine wC_cond_d rfl (fun hg => ?_) (fun hg => ?_))
  any_goals contradiction
  refine ret_boolE (.inr rfl) ⟨_, retV_mv rfl, rfl⟩
theorem con33 (nn : Bool) (xs : List Cn) (hlen : xs.length ≤ 1048576) : Con Try.prog 33 true [.vw nn (xs.map cRow)] (.sl 0 2 0 xs.length) [xs.map cRow] := by
  refine con_of_wp mixed fun33 (by simp) [0] (plain_map cRow_plain xs) ?_
  unfold ac33 ro33
  simp only [zipT]
  repeat (first
    | refine wC_a rfl ?_
    | refine q_s rfl ?_
    | refine q_b rfl ?_
    | refine wG_nil ?_
    | refine wG_g rfl ?_
    | refine wG_pure (o_len_vwm rfl) ?_
    | refine wG_pure (o_not_d rfl) ?_
    | refine wG_p rfl (by first | exact rfl | omega) ?_
    | refine wG_pure (o_str2 rfl rfl rfl) ?_
    | refine wG_pure (e_istr rfl rfl (by omega)) ?_
    | refine wG_pure (e_istr0 rfl rfl (by omega)) ?_
    | refine wG_pure (o_not rfl) ?_
    | refine wG_pure (e_ia_vw0 rfl rfl (by omega) rfl) ?_
    | refine wG_pure (e_ia_vwp rfl rfl (by omega) rfl) ?_
    | refine wG_pure (e_ia_vwm rfl rfl (by omega) (by omega) rfl) ?_
    | refine wG_pure (e_ia_vwi rfl rfl (by omega) rfl) ?_
    | refine wG_pure (e_ia_vwn rfl rfl (by omega) (by omega) rfl) ?_
    | refine wG_n rfl rfl ?_
    | refine wG_u rfl rfl ?_
    | refine wG_new (o_mks rfl rfl (by omega) (by decide)) ?_)
  refine wC_loop Nat (fun i => ⟨[(0, .vw nn (xs.map cRow)), (3, .sl 0 2 0 xs.length), (4, .int .i64 (i : Int))], [(0, some ((xs.take i).map cRow ++ List.replicate (xs.length - i) (cRow ⟨0,0⟩)))], 1⟩) (fun i => i ≤ xs.length) (fun i => xs.length - i) 0 (Nat.zero_le _) ?_ (fun _ _ => Nat.zero_le _) ?_
  · refine ⟨⟨⟨rfl, rfl⟩, ⟨rfl, rfl⟩, ⟨rfl, rfl⟩, trivial⟩, ⟨rfl, Nat.zero_lt_one, rows_ltr _ _ (fill_plain cRow_plain (cRow_plain _) xs 0)⟩, trivial⟩
  intro i hi
  repeat (first
    | refine wC_a rfl ?_
    | refine q_s rfl ?_
    | refine q_b rfl ?_
    | refine wG_nil ?_
    | refine wG_g rfl ?_
    | refine wG_pure (o_len_vwm rfl) ?_
    | refine wG_pure (o_not_d rfl) ?_
    | refine wG_p rfl (by first | exact rfl | omega) ?_
    | refine wG_pure (o_str2 rfl rfl rfl) ?_
    | refine wG_pure (e_istr rfl rfl (by omega)) ?_
    | refine wG_pure (e_istr0 rfl rfl (by omega)) ?_
    | refine wG_pure (o_not rfl) ?_
    | refine wG_pure (e_ia_vw0 rfl rfl (by omega) rfl) ?_
    | refine wG_pure (e_ia_vwp rfl rfl (by omega) rfl) ?_
    | refine wG_pure (e_ia_vwm rfl rfl (by omega) (by omega) rfl) ?_
    | refine wG_pure (e_ia_vwi rfl rfl (by omega) rfl) ?_
    | refine wG_pure (e_ia_vwn rfl rfl (by omega) (by omega) rfl) ?_
    | refine wG_n rfl rfl ?_
    | refine wG_u rfl rfl ?_
    | refine wG_new (o_mks rfl rfl (by omega) (by decide)) ?_)
  refine wC_cond_d rfl (fun h2 => ?_) (fun h2 => ?_)
  · have hi2 : i < xs.length := by omega
    repeat (first | refine wG_call (con53 (xs.getD i default)) rfl rfl ?_ | (first
    | refine wC_a rfl ?_
    | refine q_s rfl ?_
    | refine q_b rfl ?_
    | refine wG_nil ?_
    | refine wG_g rfl ?_
    | refine wG_pure (o_len_vwm rfl) ?_
    | refine wG_pure (o_not_d rfl) ?_
    | refine wG_p rfl (by first | exact rfl | omega) ?_
    | refine wG_pure (o_str2 rfl rfl rfl) ?_
    | refine wG_pure (e_istr rfl rfl (by omega)) ?_
    | refine wG_pure (e_istr0 rfl rfl (by omega)) ?_
    | refine wG_pure (o_not rfl) ?_
    | refine wG_pure (e_ia_vw0 rfl rfl (by omega) rfl) ?_
    | refine wG_pure (e_ia_vwp rfl rfl (by omega) rfl) ?_
    | refine wG_pure (e_ia_vwm rfl rfl (by omega) (by omega) rfl) ?_
    | refine wG_pure (e_ia_vwi rfl rfl (by omega) rfl) ?_
    | refine wG_pure (e_ia_vwn rfl rfl (by omega) (by omega) rfl) ?_
    | refine wG_n rfl rfl ?_
    | refine wG_u rfl rfl ?_
    | refine wG_new (o_mks rfl rfl (by omega) (by decide)) ?_))
    refine wG_pure (e_ia_sl rfl rfl (by omega) (by omega)) ?_
    have e0 : 0 + ((i : Int)).toNat = i := by simp
    simp only [e0]
    refine wG_upd (o_st_agg rfl rfl (fill_get _ _ _ _ hi2) rfl rfl rfl rfl) ?_
    repeat (first
    | refine wC_a rfl ?_
    | refine q_s rfl ?_
    | refine q_b rfl ?_
    | refine wG_nil ?_
    | refine wG_g rfl ?_
    | refine wG_pure (o_len_vwm rfl) ?_
    | refine wG_pure (o_not_d rfl) ?_
    | refine wG_p rfl (by first | exact rfl | omega) ?_
    | refine wG_pure (o_str2 rfl rfl rfl) ?_
    | refine wG_pure (e_istr rfl rfl (by omega)) ?_
    | refine wG_pure (e_istr0 rfl rfl (by omega)) ?_
    | refine wG_pure (o_not rfl) ?_
    | refine wG_pure (e_ia_vw0 rfl rfl (by omega) rfl) ?_
    | refine wG_pure (e_ia_vwp rfl rfl (by omega) rfl) ?_
    | refine wG_pure (e_ia_vwm rfl rfl (by omega) (by omega) rfl) ?_
    | refine wG_pure (e_ia_vwi rfl rfl (by omega) rfl) ?_
    | refine wG_pure (e_ia_vwn rfl rfl (by omega) (by omega) rfl) ?_
    | refine wG_n rfl rfl ?_
    | refine wG_u rfl rfl ?_
    | refine wG_new (o_mks rfl rfl (by omega) (by decide)) ?_)
    refine ⟨i + 1, by omega, by omega, ⟨⟨rfl, rfl⟩, ⟨rfl, rfl⟩, ⟨by simp [lk], rfl⟩, trivial⟩, ⟨?_, Nat.zero_lt_one, rows_ltr _ _ (fill_plain cRow_plain (cRow_plain _) xs (i + 1))⟩, trivial⟩
    rw [← fill_set cRow _ xs i hi2]
    rfl
  · have hi3 : i = xs.length := by omega
    subst hi3
    repeat (first
    | refine wC_a rfl ?_
    | refine q_s rfl ?_
    | refine q_b rfl ?_
    | refine wG_nil ?_
    | refine wG_g rfl ?_
    | refine wG_pure (o_len_vwm rfl) ?_
    | refine wG_pure (o_not_d rfl) ?_
    | refine wG_p rfl (by first | exact rfl | omega) ?_
    | refine wG_pure (o_str2 rfl rfl rfl) ?_
    | refine wG_pure (e_istr rfl rfl (by omega)) ?_
    | refine wG_pure (e_istr0 rfl rfl (by omega)) ?_
    | refine wG_pure (o_not rfl) ?_
    | refine wG_pure (e_ia_vw0 rfl rfl (by omega) rfl) ?_
    | refine wG_pure (e_ia_vwp rfl rfl (by omega) rfl) ?_
    | refine wG_pure (e_ia_vwm rfl rfl (by omega) (by omega) rfl) ?_
    | refine wG_pure (e_ia_vwi rfl rfl (by omega) rfl) ?_
    | refine wG_pure (e_ia_vwn rfl rfl (by omega) (by omega) rfl) ?_
    | refine wG_n rfl rfl ?_
    | refine wG_u rfl rfl ?_
    | refine wG_new (o_mks rfl rfl (by omega) (by decide)) ?_)
    refine ret_sl (.inr rfl) (retV_mv rfl) ?_
    rw [← fill_end cRow (cRow ⟨0,0⟩) xs]
    rfl
theorem con34 (nn : Bool) (xs : List Rl) (hlen : xs.length ≤ 1048576) : Con Try.prog 34 true [.vw nn (xs.map xRow)] (.sl 0 2 0 xs.length) [xs.map xRow] := by
  refine con_of_wp mixed fun34 (by simp) [0] (plain_map xRow_plain xs) ?_
  unfold ac34 ro34
  simp only [zipT]
  repeat (first
    | refine wC_a rfl ?_
    | refine q_s rfl ?_
    | refine q_b rfl ?_
    | refine wG_nil ?_
    | refine wG_g rfl ?_
    | refine wG_pure (o_len_vwm rfl) ?_
    | refine wG_pure (o_not_d rfl) ?_
    | refine wG_p rfl (by first | exact rfl | omega) ?_
    | refine wG_pure (o_str2 rfl rfl rfl) ?_
    | refine wG_pure (e_istr rfl rfl (by omega)) ?_
    | refine wG_pure (e_istr0 rfl rfl (by omega)) ?_
    | refine wG_pure (o_not rfl) ?_
    | refine wG_pure (e_ia_vw0 rfl rfl (by omega) rfl) ?_
    | refine wG_pure (e_ia_vwp rfl rfl (by omega) rfl) ?_
    | refine wG_pure (e_ia_vwm rfl rfl (by omega) (by omega) rfl) ?_
    | refine wG_pure (e_ia_vwi rfl rfl (by omega) rfl) ?_
    | refine wG_pure (e_ia_vwn rfl rfl (by omega) (by omega) rfl) ?_
    | refine wG_n rfl rfl ?_
    | refine wG_u rfl rfl ?_
    | refine wG_new (o_mks rfl rfl (by omega) (by decide)) ?_)
  refine wC_loop Nat (fun i => ⟨[(0, .vw nn (xs.map xRow)), (3, .sl 0 2 0 xs.length), (4, .int .i64 (i : Int))], [(0, some ((xs.take i).map xRow ++ List.replicate (xs.length - i) (xRow ⟨0,0⟩)))], 1⟩) (fun i => i ≤ xs.length) (fun i => xs.length - i) 0 (Nat.zero_le _) ?_ (fun _ _ => Nat.zero_le _) ?_
  · refine ⟨⟨⟨rfl, rfl⟩, ⟨rfl, rfl⟩, ⟨rfl, rfl⟩, trivial⟩, ⟨rfl, Nat.zero_lt_one, rows_ltr _ _ (fill_plain xRow_plain (xRow_plain _) xs 0)⟩, trivial⟩
  intro i hi
  repeat (first
    | refine wC_a rfl ?_
    | refine q_s rfl ?_
    | refine q_b rfl ?_
    | refine wG_nil ?_
    | refine wG_g rfl ?_
    | refine wG_pure (o_len_vwm rfl) ?_
    | refine wG_pure (o_not_d rfl) ?_
    | refine wG_p rfl (by first | exact rfl | omega) ?_
    | refine wG_pure (o_str2 rfl rfl rfl) ?_
    | refine wG_pure (e_istr rfl rfl (by omega)) ?_
    | refine wG_pure (e_istr0 rfl rfl (by omega)) ?_
    | refine wG_pure (o_not rfl) ?_
    | refine wG_pure (e_ia_vw0 rfl rfl (by omega) rfl) ?_
    | refine wG_pure (e_ia_vwp rfl rfl (by omega) rfl) ?_
    | refine wG_pure (e_ia_vwm rfl rfl (by omega) (by omega) rfl) ?_
    | refine wG_pure (e_ia_vwi rfl rfl (by omega) rfl) ?_
    | refine wG_pure (e_ia_vwn rfl rfl (by omega) (by omega) rfl) ?_
    | refine wG_n rfl rfl ?_
    | refine wG_u rfl rfl ?_
    | refine wG_new (o_mks rfl rfl (by omega) (by decide)) ?_)
  refine wC_cond_d rfl (fun h2 => ?_) (fun h2 => ?_)
  · have hi2 : i < xs.length := by omega
    repeat (first | refine wG_call (con54 (xs.getD i default)) rfl rfl ?_ | (first
    | refine wC_a rfl ?_
    | refine q_s rfl ?_
    | refine q_b rfl ?_
    | refine wG_nil ?_
    | refine wG_g rfl ?_
    | refine wG_pure (o_len_vwm rfl) ?_
    | refine wG_pure (o_not_d rfl) ?_
    | refine wG_p rfl (by first | exact rfl | omega) ?_
    | refine wG_pure (o_str2 rfl rfl rfl) ?_
    | refine wG_pure (e_istr rfl rfl (by omega)) ?_
    | refine wG_pure (e_istr0 rfl rfl (by omega)) ?_
    | refine wG_pure (o_not rfl) ?_
    | refine wG_pure (e_ia_vw0 rfl rfl (by omega) rfl) ?_
    | refine wG_pure (e_ia_vwp rfl rfl (by omega) rfl) ?_
    | refine wG_pure (e_ia_vwm rfl rfl (by omega) (by omega) rfl) ?_
    | refine wG_pure (e_ia_vwi rfl rfl (by omega) rfl) ?_
    | refine wG_pure (e_ia_vwn rfl rfl (by omega) (by omega) rfl) ?_
    | refine wG_n rfl rfl ?_
    | refine wG_u rfl rfl ?_
    | refine wG_new (o_mks rfl rfl (by omega) (by decide)) ?_))
    refine wG_pure (e_ia_sl rfl rfl (by omega) (by omega)) ?_
    have e0 : 0 + ((i : Int)).toNat = i := by simp
    simp only [e0]
    refine wG_upd (o_st_agg rfl rfl (fill_get _ _ _ _ hi2) rfl rfl rfl rfl) ?_
    repeat (first
    | refine wC_a rfl ?_
    | refine q_s rfl ?_
    | refine q_b rfl ?_
    | refine wG_nil ?_
    | refine wG_g rfl ?_
    | refine wG_pure (o_len_vwm rfl) ?_
    | refine wG_pure (o_not_d rfl) ?_
    | refine wG_p rfl (by first | exact rfl | omega) ?_
    | refine wG_pure (o_str2 rfl rfl rfl) ?_
    | refine wG_pure (e_istr rfl rfl (by omega)) ?_
    | refine wG_pure (e_istr0 rfl rfl (by omega)) ?_
    | refine wG_pure (o_not rfl) ?_
    | refine wG_pure (e_ia_vw0 rfl rfl (by omega) rfl) ?_
    | refine wG_pure (e_ia_vwp rfl rfl (by omega) rfl) ?_
    | refine wG_pure (e_ia_vwm rfl rfl (by omega) (by omega) rfl) ?_
    | refine wG_pure (e_ia_vwi rfl rfl (by omega) rfl) ?_
    | refine wG_pure (e_ia_vwn rfl rfl (by omega) (by omega) rfl) ?_
    | refine wG_n rfl rfl ?_
    | refine wG_u rfl rfl ?_
    | refine wG_new (o_mks rfl rfl (by omega) (by decide)) ?_)
    refine ⟨i + 1, by omega, by omega, ⟨⟨rfl, rfl⟩, ⟨rfl, rfl⟩, ⟨by simp [lk], rfl⟩, trivial⟩, ⟨?_, Nat.zero_lt_one, rows_ltr _ _ (fill_plain xRow_plain (xRow_plain _) xs (i + 1))⟩, trivial⟩
    rw [← fill_set xRow _ xs i hi2]
    rfl
  · have hi3 : i = xs.length := by omega
    subst hi3
    repeat (first
    | refine wC_a rfl ?_
    | refine q_s rfl ?_
    | refine q_b rfl ?_
    | refine wG_nil ?_
    | refine wG_g rfl ?_
    | refine wG_pure (o_len_vwm rfl) ?_
    | refine wG_pure (o_not_d rfl) ?_
    | refine wG_p rfl (by first | exact rfl | omega) ?_
    | refine wG_pure (o_str2 rfl rfl rfl) ?_
    | refine wG_pure (e_istr rfl rfl (by omega)) ?_
    | refine wG_pure (e_istr0 rfl rfl (by omega)) ?_
    | refine wG_pure (o_not rfl) ?_
    | refine wG_pure (e_ia_vw0 rfl rfl (by omega) rfl) ?_
    | refine wG_pure (e_ia_vwp rfl rfl (by omega) rfl) ?_
    | refine wG_pure (e_ia_vwm rfl rfl (by omega) (by omega) rfl) ?_
    | refine wG_pure (e_ia_vwi rfl rfl (by omega) rfl) ?_
    | refine wG_pure (e_ia_vwn rfl rfl (by omega) (by omega) rfl) ?_
    | refine wG_n rfl rfl ?_
    | refine wG_u rfl rfl ?_
    | refine wG_new (o_mks rfl rfl (by omega) (by decide)) ?_)
    refine ret_sl (.inr rfl) (retV_mv rfl) ?_
    rw [← fill_end xRow (xRow ⟨0,0⟩) xs]
    rfl
theorem con39 (nn mm : Bool) (xs : List Cn) (h1 : xs.length ≤ 1048576) : Con Try.prog 39 true [.vw nn (xs.map cRow), .vw mm (xs.map cRow)] (.bool true) [] := by
  refine con_of_wp mixed fun39 (by simp) [] plain_nil ?_
  unfold ac39 ro39
  simp only [zipT]
  repeat (first
    | refine wC_a rfl ?_
    | refine q_s rfl ?_
    | refine q_b rfl ?_
    | refine wG_nil ?_
    | refine wG_g rfl ?_
    | refine wG_pure (o_len_vwm rfl) ?_
    | refine wG_pure (o_not_d rfl) ?_
    | refine wG_p rfl (by first | exact rfl | omega) ?_
    | refine wG_pure (o_str2 rfl rfl rfl) ?_
    | refine wG_pure (e_istr rfl rfl (by omega)) ?_
    | refine wG_pure (e_istr0 rfl rfl (by omega)) ?_
    | refine wG_pure (o_not rfl) ?_
    | refine wG_pure (e_ia_vw0 rfl rfl (by omega) rfl) ?_
    | refine wG_pure (e_ia_vwp rfl rfl (by omega) rfl) ?_
    | refine wG_pure (e_ia_vwm rfl rfl (by omega) (by omega) rfl) ?_
    | refine wG_pure (e_ia_vwi rfl rfl (by omega) rfl) ?_
    | refine wG_pure (e_ia_vwn rfl rfl (by omega) (by omega) rfl) ?_
    | refine wG_n rfl rfl ?_
    | refine wG_u rfl rfl ?_
    | refine wG_new (o_mks rfl rfl (by omega) (by decide)) ?_)
  refine wC_cond_d rfl (fun h3 => ?_) (fun h3 => ?_)
  · exact absurd rfl h3
  repeat (first
    | refine wC_a rfl ?_
    | refine q_s rfl ?_
    | refine q_b rfl ?_
    | refine wG_nil ?_
    | refine wG_g rfl ?_
    | refine wG_pure (o_len_vwm rfl) ?_
    | refine wG_pure (o_not_d rfl) ?_
    | refine wG_p rfl (by first | exact rfl | omega) ?_
    | refine wG_pure (o_str2 rfl rfl rfl) ?_
    | refine wG_pure (e_istr rfl rfl (by omega)) ?_
    | refine wG_pure (e_istr0 rfl rfl (by omega)) ?_
    | refine wG_pure (o_not rfl) ?_
    | refine wG_pure (e_ia_vw0 rfl rfl (by omega) rfl) ?_
    | refine wG_pure (e_ia_vwp rfl rfl (by omega) rfl) ?_
    | refine wG_pure (e_ia_vwm rfl rfl (by omega) (by omega) rfl) ?_
    | refine wG_pure (e_ia_vwi rfl rfl (by omega) rfl) ?_
    | refine wG_pure (e_ia_vwn rfl rfl (by omega) (by omega) rfl) ?_
    | refine wG_n rfl rfl ?_
    | refine wG_u rfl rfl ?_
    | refine wG_new (o_mks rfl rfl (by omega) (by decide)) ?_)
  refine wC_loop Nat (fun i => ⟨[(0, .vw nn (xs.map cRow)), (1, .vw mm (xs.map cRow)), (5, .int .i64 (i : Int))], [], 0⟩) (fun i => i ≤ xs.length) (fun i => xs.length - i) 0 (Nat.zero_le _) ?_ (fun _ _ => Nat.le_refl _) ?_
  · simp [LeP, leT, leH, lk, AV.ltr, ltrL, Ab.hg, upd, -List.getD_eq_getElem?_getD, -Int.default_eq_zero]
  intro i hi
  repeat (first
    | refine wC_a rfl ?_
    | refine q_s rfl ?_
    | refine q_b rfl ?_
    | refine wG_nil ?_
    | refine wG_g rfl ?_
    | refine wG_pure (o_len_vwm rfl) ?_
    | refine wG_pure (o_not_d rfl) ?_
    | refine wG_p rfl (by first | exact rfl | omega) ?_
    | refine wG_pure (o_str2 rfl rfl rfl) ?_
    | refine wG_pure (e_istr rfl rfl (by omega)) ?_
    | refine wG_pure (e_istr0 rfl rfl (by omega)) ?_
    | refine wG_pure (o_not rfl) ?_
    | refine wG_pure (e_ia_vw0 rfl rfl (by omega) rfl) ?_
    | refine wG_pure (e_ia_vwp rfl rfl (by omega) rfl) ?_
    | refine wG_pure (e_ia_vwm rfl rfl (by omega) (by omega) rfl) ?_
    | refine wG_pure (e_ia_vwi rfl rfl (by omega) rfl) ?_
    | refine wG_pure (e_ia_vwn rfl rfl (by omega) (by omega) rfl) ?_
    | refine wG_n rfl rfl ?_
    | refine wG_u rfl rfl ?_
    | refine wG_new (o_mks rfl rfl (by omega) (by decide)) ?_)
  refine wC_cond_d rfl (fun h4 => ?_) (fun h4 => ?_)
  · have hi2 : i < xs.length := by omega
    repeat (first | refine wG_call (con56 (xs.getD i default)) rfl rfl ?_ | (first
    | refine wC_a rfl ?_
    | refine q_s rfl ?_
    | refine q_b rfl ?_
    | refine wG_nil ?_
    | refine wG_g rfl ?_
    | refine wG_pure (o_len_vwm rfl) ?_
    | refine wG_pure (o_not_d rfl) ?_
    | refine wG_p rfl (by first | exact rfl | omega) ?_
    | refine wG_pure (o_str2 rfl rfl rfl) ?_
    | refine wG_pure (e_istr rfl rfl (by omega)) ?_
    | refine wG_pure (e_istr0 rfl rfl (by omega)) ?_
    | refine wG_pure (o_not rfl) ?_
    | refine wG_pure (e_ia_vw0 rfl rfl (by omega) rfl) ?_
    | refine wG_pure (e_ia_vwp rfl rfl (by omega) rfl) ?_
    | refine wG_pure (e_ia_vwm rfl rfl (by omega) (by omega) rfl) ?_
    | refine wG_pure (e_ia_vwi rfl rfl (by omega) rfl) ?_
    | refine wG_pure (e_ia_vwn rfl rfl (by omega) (by omega) rfl) ?_
    | refine wG_n rfl rfl ?_
    | refine wG_u rfl rfl ?_
    | refine wG_new (o_mks rfl rfl (by omega) (by decide)) ?_))
    exact ⟨i + 1, by omega, by omega, by simp [LeP, leT, leH, lk, AV.ltr, ltrL, Ab.hg, upd, -List.getD_eq_getElem?_getD, -Int.default_eq_zero]⟩
  · have hi3 : i = xs.length := by omega
    subst hi3
    repeat (first
    | refine wC_a rfl ?_
    | refine q_s rfl ?_
    | refine q_b rfl ?_
    | refine wG_nil ?_
    | refine wG_g rfl ?_
    | refine wG_pure (o_len_vwm rfl) ?_
    | refine wG_pure (o_not_d rfl) ?_
    | refine wG_p rfl (by first | exact rfl | omega) ?_
    | refine wG_pure (o_str2 rfl rfl rfl) ?_
    | refine wG_pure (e_istr rfl rfl (by omega)) ?_
    | refine wG_pure (e_istr0 rfl rfl (by omega)) ?_
    | refine wG_pure (o_not rfl) ?_
    | refine wG_pure (e_ia_vw0 rfl rfl (by omega) rfl) ?_
    | refine wG_pure (e_ia_vwp rfl rfl (by omega) rfl) ?_
    | refine wG_pure (e_ia_vwm rfl rfl (by omega) (by omega) rfl) ?_
    | refine wG_pure (e_ia_vwi rfl rfl (by omega) rfl) ?_
    | refine wG_pure (e_ia_vwn rfl rfl (by omega) (by omega) rfl) ?_
    | refine wG_n rfl rfl ?_
    | refine wG_u rfl rfl ?_
    | refine wG_new (o_mks rfl rfl (by omega) (by decide)) ?_)
    exact ret_boolE (.inr rfl) ⟨_, retV_mv rfl, rfl⟩
theorem con40 (nn mm : Bool) (xs : List Rl) (h1 : xs.length ≤ 1048576) : Con Try.prog 40 true [.vw nn (xs.map xRow), .vw mm (xs.map xRow)] (.bool true) [] := by
  refine con_of_wp mixed fun40 (by simp) [] plain_nil ?_
  unfold ac40 ro40
  simp only [zipT]
  repeat (first
    | refine wC_a rfl ?_
    | refine q_s rfl ?_
    | refine q_b rfl ?_
    | refine wG_nil ?_
    | refine wG_g rfl ?_
    | refine wG_pure (o_len_vwm rfl) ?_
    | refine wG_pure (o_not_d rfl) ?_
    | refine wG_p rfl (by first | exact rfl | omega) ?_
    | refine wG_pure (o_str2 rfl rfl rfl) ?_
    | refine wG_pure (e_istr rfl rfl (by omega)) ?_
    | refine wG_pure (e_istr0 rfl rfl (by omega)) ?_
    | refine wG_pure (o_not rfl) ?_
    | refine wG_pure (e_ia_vw0 rfl rfl (by omega) rfl) ?_
    | refine wG_pure (e_ia_vwp rfl rfl (by omega) rfl) ?_
    | refine wG_pure (e_ia_vwm rfl rfl (by omega) (by omega) rfl) ?_
    | refine wG_pure (e_ia_vwi rfl rfl (by omega) rfl) ?_
    | refine wG_pure (e_ia_vwn rfl rfl (by omega) (by omega) rfl) ?_
    | refine wG_n rfl rfl ?_
    | refine wG_u rfl rfl ?_
    | refine wG_new (o_mks rfl rfl (by omega) (by decide)) ?_)
  refine wC_cond_d rfl (fun h3 => ?_) (fun h3 => ?_)
  · exact absurd rfl h3
  repeat (first
    | refine wC_a rfl ?_
    | refine q_s rfl ?_
    | refine q_b rfl ?_
    | refine wG_nil ?_
    | refine wG_g rfl ?_
    | refine wG_pure (o_len_vwm rfl) ?_
    | refine wG_pure (o_not_d rfl) ?_
    | refine wG_p rfl (by first | exact rfl | omega) ?_
    | refine wG_pure (o_str2 rfl rfl rfl) ?_
    | refine wG_pure (e_istr rfl rfl (by omega)) ?_
    | refine wG_pure (e_istr0 rfl rfl (by omega)) ?_
    | refine wG_pure (o_not rfl) ?_
    | refine wG_pure (e_ia_vw0 rfl rfl (by omega) rfl) ?_
    | refine wG_pure (e_ia_vwp rfl rfl (by omega) rfl) ?_
    | refine wG_pure (e_ia_vwm rfl rfl (by omega) (by omega) rfl) ?_
    | refine wG_pure (e_ia_vwi rfl rfl (by omega) rfl) ?_
    | refine wG_pure (e_ia_vwn rfl rfl (by omega) (by omega) rfl) ?_
    | refine wG_n rfl rfl ?_
    | refine wG_u rfl rfl ?_
    | refine wG_new (o_mks rfl rfl (by omega) (by decide)) ?_)
  refine wC_loop Nat (fun i => ⟨[(0, .vw nn (xs.map xRow)), (1, .vw mm (xs.map xRow)), (5, .int .i64 (i : Int))], [], 0⟩) (fun i => i ≤ xs.length) (fun i => xs.length - i) 0 (Nat.zero_le _) ?_ (fun _ _ => Nat.le_refl _) ?_
  · simp [LeP, leT, leH, lk, AV.ltr, ltrL, Ab.hg, upd, -List.getD_eq_getElem?_getD, -Int.default_eq_zero]
  intro i hi
  repeat (first
    | refine wC_a rfl ?_
    | refine q_s rfl ?_
    | refine q_b rfl ?_
    | refine wG_nil ?_
    | refine wG_g rfl ?_
    | refine wG_pure (o_len_vwm rfl) ?_
    | refine wG_pure (o_not_d rfl) ?_
    | refine wG_p rfl (by first | exact rfl | omega) ?_
    | refine wG_pure (o_str2 rfl rfl rfl) ?_
    | refine wG_pure (e_istr rfl rfl (by omega)) ?_
    | refine wG_pure (e_istr0 rfl rfl (by omega)) ?_
    | refine wG_pure (o_not rfl) ?_
    | refine wG_pure (e_ia_vw0 rfl rfl (by omega) rfl) ?_
    | refine wG_pure (e_ia_vwp rfl rfl (by omega) rfl) ?_
    | refine wG_pure (e_ia_vwm rfl rfl (by omega) (by omega) rfl) ?_
    | refine wG_pure (e_ia_vwi rfl rfl (by omega) rfl) ?_
    | refine wG_pure (e_ia_vwn rfl rfl (by omega) (by omega) rfl) ?_
    | refine wG_n rfl rfl ?_
    | refine wG_u rfl rfl ?_
    | refine wG_new (o_mks rfl rfl (by omega) (by decide)) ?_)
  refine wC_cond_d rfl (fun h4 => ?_) (fun h4 => ?_)
  · have hi2 : i < xs.length := by omega
    repeat (first | refine wG_call (con57 (xs.getD i default)) rfl rfl ?_ | (first
    | refine wC_a rfl ?_
    | refine q_s rfl ?_
    | refine q_b rfl ?_
    | refine wG_nil ?_
    | refine wG_g rfl ?_
    | refine wG_pure (o_len_vwm rfl) ?_
    | refine wG_pure (o_not_d rfl) ?_
    | refine wG_p rfl (by first | exact rfl | omega) ?_
    | refine wG_pure (o_str2 rfl rfl rfl) ?_
    | refine wG_pure (e_istr rfl rfl (by omega)) ?_
    | refine wG_pure (e_istr0 rfl rfl (by omega)) ?_
    | refine wG_pure (o_not rfl) ?_
    | refine wG_pure (e_ia_vw0 rfl rfl (by omega) rfl) ?_
    | refine wG_pure (e_ia_vwp rfl rfl (by omega) rfl) ?_
    | refine wG_pure (e_ia_vwm rfl rfl (by omega) (by omega) rfl) ?_
    | refine wG_pure (e_ia_vwi rfl rfl (by omega) rfl) ?_
    | refine wG_pure (e_ia_vwn rfl rfl (by omega) (by omega) rfl) ?_
    | refine wG_n rfl rfl ?_
    | refine wG_u rfl rfl ?_
    | refine wG_new (o_mks rfl rfl (by omega) (by decide)) ?_))
    exact ⟨i + 1, by omega, by omega, by simp [LeP, leT, leH, lk, AV.ltr, ltrL, Ab.hg, upd, -List.getD_eq_getElem?_getD, -Int.default_eq_zero]⟩
  · have hi3 : i = xs.length := by omega
    subst hi3
    repeat (first
    | refine wC_a rfl ?_
    | refine q_s rfl ?_
    | refine q_b rfl ?_
    | refine wG_nil ?_
    | refine wG_g rfl ?_
    | refine wG_pure (o_len_vwm rfl) ?_
    | refine wG_pure (o_not_d rfl) ?_
    | refine wG_p rfl (by first | exact rfl | omega) ?_
    | refine wG_pure (o_str2 rfl rfl rfl) ?_
    | refine wG_pure (e_istr rfl rfl (by omega)) ?_
    | refine wG_pure (e_istr0 rfl rfl (by omega)) ?_
    | refine wG_pure (o_not rfl) ?_
    | refine wG_pure (e_ia_vw0 rfl rfl (by omega) rfl) ?_
    | refine wG_pure (e_ia_vwp rfl rfl (by omega) rfl) ?_
    | refine wG_pure (e_ia_vwm rfl rfl (by omega) (by omega) rfl) ?_
    | refine wG_pure (e_ia_vwi rfl rfl (by omega) rfl) ?_
    | refine wG_pure (e_ia_vwn rfl rfl (by omega) (by omega) rfl) ?_
    | refine wG_n rfl rfl ?_
    | refine wG_u rfl rfl ?_
    | refine wG_new (o_mks rfl rfl (by omega) (by decide)) ?_)
    exact ret_boolE (.inr rfl) ⟨_, retV_mv rfl, rfl⟩
theorem con29 (nn : Bool) (xs : List Cn) (hlen : xs.length ≤ 9223372036854775807) (l : Int) (h0 : 0 ≤ l) (h1 : l ≤ 1048576) : Con Try.prog 29 true [.vw nn (xs.map cRow), .int .i64 l] (.int .i64 (if l - xs.length < 0 then -1 else l - xs.length)) [] := by
  refine con_of_wp mixed fun29 (by simp) [] plain_nil ?_
  unfold ac29 ro29
  simp only [zipT]
  repeat' (first | (first
    | refine wC_a rfl ?_
    | refine q_s rfl ?_
    | refine q_b rfl ?_
    | refine wG_nil ?_
    | refine wG_g rfl ?_
    | refine wG_pure (o_len_vwm rfl) ?_
    | refine wG_pure (o_not_d rfl) ?_
    | refine wG_p rfl (by first | exact rfl | omega) ?_
    | refine wG_pure (o_str2 rfl rfl rfl) ?_
    | refine wG_pure (e_istr rfl rfl (by omega)) ?_
    | refine wG_pure (e_istr0 rfl rfl (by omega)) ?_
    | refine wG_pure (o_not rfl) ?_
    | refine wG_pure (e_ia_vw0 rfl rfl (by omega) rfl) ?_
    | refine wG_pure (e_ia_vwp rfl rfl (by omega) rfl) ?_
    | refine wG_pure (e_ia_vwm rfl rfl (by omega) (by omega) rfl) ?_
    | refine wG_pure (e_ia_vwi rfl rfl (by omega) rfl) ?_
    | refine wG_pure (e_ia_vwn rfl rfl (by omega) (by omega) rfl) ?_
    | refine wG_n rfl rfl ?_
    | refine wG_u rfl rfl ?_
    | refine wG_new (o_mks rfl rfl (by omega) (by decide)) ?_) | (refine wG_gd rfl (fun hgt => ?_) (fun hgf => ?_) <;> (first | simp only [eq_true hgt, decide_true] | simp only [eq_false hgf, decide_false])) | refine wC_cond_d rfl (fun hg => ?_) (fun hg => ?_))
  · refine ret_intE (.inr rfl) ⟨_, retV_mv rfl, ?_⟩; rw [if_pos (by assumption)]
  · refine ret_intE (.inr rfl) ⟨_, retV_mv rfl, ?_⟩; rw [if_neg (by assumption)]
theorem con30 (nn : Bool) (xs : List Rl) (hlen : xs.length ≤ 9223372036854775807) (l : Int) (h0 : 0 ≤ l) (h1 : l ≤ 1048576) : Con Try.prog 30 true [.vw nn (xs.map xRow), .int .i64 l] (.int .i64 (if l - xs.length < 0 then -1 else l - xs.length)) [] := by
  refine con_of_wp mixed fun30 (by simp) [] plain_nil ?_
  unfold ac30 ro30
  simp only [zipT]
  repeat' (first | (first
    | refine wC_a rfl ?_
    | refine q_s rfl ?_
    | refine q_b rfl ?_
    | refine wG_nil ?_
    | refine wG_g rfl ?_
    | refine wG_pure (o_len_vwm rfl) ?_
    | refine wG_pure (o_not_d rfl) ?_
    | refine wG_p rfl (by first | exact rfl | omega) ?_
    | refine wG_pure (o_str2 rfl rfl rfl) ?_
    | refine wG_pure (e_istr rfl rfl (by omega)) ?_
    | refine wG_pure (e_istr0 rfl rfl (by omega)) ?_
    | refine wG_pure (o_not rfl) ?_
    | refine wG_pure (e_ia_vw0 rfl rfl (by omega) rfl) ?_
    | refine wG_pure (e_ia_vwp rfl rfl (by omega) rfl) ?_
    | refine wG_pure (e_ia_vwm rfl rfl (by omega) (by omega) rfl) ?_
    | refine wG_pure (e_ia_vwi rfl rfl (by omega) rfl) ?_
    | refine wG_pure (e_ia_vwn rfl rfl (by omega) (by omega) rfl) ?_
    | refine wG_n rfl rfl ?_
    | refine wG_u rfl rfl ?_
    | refine wG_new (o_mks rfl rfl (by omega) (by decide)) ?_) | (refine wG_gd rfl (fun hgt => ?_) (fun hgf => ?_) <;> (first | simp only [eq_true hgt, decide_true] | simp only [eq_false hgf, decide_false])) | refine wC_cond_d rfl (fun hg => ?_) (fun hg => ?_))
  · refine ret_intE (.inr rfl) ⟨_, retV_mv rfl, ?_⟩; rw [if_pos (by assumption)]
  · refine ret_intE (.inr rfl) ⟨_, retV_mv rfl, ?_⟩; rw [if_neg (by assumption)]
def szR (l : Int) (r : Rc) : Int := if l - r.cs.length < 0 then -1 else if l - r.cs.length - r.xs.length < 0 then -1 else l - r.cs.length - r.xs.length
theorem szR_ok {r : Rc} {l : Int} (h : 0 ≤ szR l r) : (r.cs.length : Int) ≤ l ∧ (r.xs.length : Int) ≤ l ∧ szR l r ≤ l := by
  unfold szR at h ⊢
  split at h <;> rename_i h1
  · omega
  · rw [if_neg h1]
    split at h <;> rename_i h2
    · omega
    · rw [if_neg h2]; omega
theorem con7 (a b : Bool) (r : Rc) (h1 : r.cs.length ≤ 9223372036854775807) (h2 : r.xs.length ≤ 9223372036854775807) (l : Int) (h0 : 0 ≤ l) (hl : l ≤ 1048576) : Con Try.prog 7 true [.agg (rRow a b r), .int .i64 l] (.int .i64 (szR l r)) [] := by
  refine con_of_wp mixed fun7 (by simp) [] plain_nil ?_
  unfold ac7 ro7
  simp only [zipT]
  have c1 := con29 a r.cs h1 l h0 hl
  by_cases hs : l - (r.cs.length : Int) < 0
  · rw [if_pos hs] at c1
    repeat (first | refine wG_call c1 rfl rfl ?_ | (first
    | refine wC_a rfl ?_
    | refine q_s rfl ?_
    | refine q_b rfl ?_
    | refine wG_nil ?_
    | refine wG_g rfl ?_
    | refine wG_pure (o_len_vwm rfl) ?_
    | refine wG_pure (o_not_d rfl) ?_
    | refine wG_p rfl (by first | exact rfl | omega) ?_
    | refine wG_pure (o_str2 rfl rfl rfl) ?_
    | refine wG_pure (e_istr rfl rfl (by omega)) ?_
    | refine wG_pure (e_istr0 rfl rfl (by omega)) ?_
    | refine wG_pure (o_not rfl) ?_
    | refine wG_pure (e_ia_vw0 rfl rfl (by omega) rfl) ?_
    | refine wG_pure (e_ia_vwp rfl rfl (by omega) rfl) ?_
    | refine wG_pure (e_ia_vwm rfl rfl (by omega) (by omega) rfl) ?_
    | refine wG_pure (e_ia_vwi rfl rfl (by omega) rfl) ?_
    | refine wG_pure (e_ia_vwn rfl rfl (by omega) (by omega) rfl) ?_
    | refine wG_n rfl rfl ?_
    | refine wG_u rfl rfl ?_
    | refine wG_new (o_mks rfl rfl (by omega) (by decide)) ?_))
    refine ret_intE (.inr rfl) ⟨_, retV_mv rfl, ?_⟩; unfold szR; rw [if_pos hs]
  · rw [if_neg hs] at c1
    have c2 := con30 b r.xs h2 (l - r.cs.length) (by omega) (by omega)
    by_cases ht : l - (r.cs.length : Int) - (r.xs.length : Int) < 0
    · rw [if_pos ht] at c2
      repeat' (first | refine wG_call c1 rfl rfl ?_ | refine wG_call c2 rfl rfl ?_ | (first
    | refine wC_a rfl ?_
    | refine q_s rfl ?_
    | refine q_b rfl ?_
    | refine wG_nil ?_
    | refine wG_g rfl ?_
    | refine wG_pure (o_len_vwm rfl) ?_
    | refine wG_pure (o_not_d rfl) ?_
    | refine wG_p rfl (by first | exact rfl | omega) ?_
    | refine wG_pure (o_str2 rfl rfl rfl) ?_
    | refine wG_pure (e_istr rfl rfl (by omega)) ?_
    | refine wG_pure (e_istr0 rfl rfl (by omega)) ?_
    | refine wG_pure (o_not rfl) ?_
    | refine wG_pure (e_ia_vw0 rfl rfl (by omega) rfl) ?_
    | refine wG_pure (e_ia_vwp rfl rfl (by omega) rfl) ?_
    | refine wG_pure (e_ia_vwm rfl rfl (by omega) (by omega) rfl) ?_
    | refine wG_pure (e_ia_vwi rfl rfl (by omega) rfl) ?_
    | refine wG_pure (e_ia_vwn rfl rfl (by omega) (by omega) rfl) ?_
    | refine wG_n rfl rfl ?_
    | refine wG_u rfl rfl ?_
    | refine wG_new (o_mks rfl rfl (by omega) (by decide)) ?_) | (refine wG_gd rfl (fun hgt => ?_) (fun hgf => ?_) <;> (first | simp only [eq_true hgt, decide_true] | simp only [eq_false hgf, decide_false])) | refine wC_cond_d rfl (fun hg => ?_) (fun hg => ?_))
      any_goals (exfalso; omega)
      refine ret_intE (.inr rfl) ⟨_, retV_mv rfl, ?_⟩; unfold szR; rw [if_neg hs, if_pos ht]
    · rw [if_neg ht] at c2
      repeat' (first | refine wG_call c1 rfl rfl ?_ | refine wG_call c2 rfl rfl ?_ | (first
    | refine wC_a rfl ?_
    | refine q_s rfl ?_
    | refine q_b rfl ?_
    | refine wG_nil ?_
    | refine wG_g rfl ?_
    | refine wG_pure (o_len_vwm rfl) ?_
    | refine wG_pure (o_not_d rfl) ?_
    | refine wG_p rfl (by first | exact rfl | omega) ?_
    | refine wG_pure (o_str2 rfl rfl rfl) ?_
    | refine wG_pure (e_istr rfl rfl (by omega)) ?_
    | refine wG_pure (e_istr0 rfl rfl (by omega)) ?_
    | refine wG_pure (o_not rfl) ?_
    | refine wG_pure (e_ia_vw0 rfl rfl (by omega) rfl) ?_
    | refine wG_pure (e_ia_vwp rfl rfl (by omega) rfl) ?_
    | refine wG_pure (e_ia_vwm rfl rfl (by omega) (by omega) rfl) ?_
    | refine wG_pure (e_ia_vwi rfl rfl (by omega) rfl) ?_
    | refine wG_pure (e_ia_vwn rfl rfl (by omega) (by omega) rfl) ?_
    | refine wG_n rfl rfl ?_
    | refine wG_u rfl rfl ?_
    | refine wG_new (o_mks rfl rfl (by omega) (by decide)) ?_) | (refine wG_gd rfl (fun hgt => ?_) (fun hgf => ?_) <;> (first | simp only [eq_true hgt, decide_true] | simp only [eq_false hgf, decide_false])) | refine wC_cond_d rfl (fun hg => ?_) (fun hg => ?_))
      any_goals (exfalso; omega)
      refine ret_intE (.inr rfl) ⟨_, retV_mv rfl, ?_⟩; unfold szR; rw [if_neg hs, if_neg ht]
theorem con10 (a b : Bool) (r : Rc) (h1 : r.cs.length ≤ 1048576) (h2 : r.xs.length ≤ 1048576) : Con Try.prog 10 true [.agg (rRow a b r)] (.agg [.sl 0 2 0 r.cs.length, .sl 1 2 0 r.xs.length]) [r.cs.map cRow, r.xs.map xRow] := by
  refine con_of_wp mixed fun10 (by simp) [3, 4] (by
    intro rows hr row hrow x hx
    simp at hr
    rcases hr with rfl | rfl
    · obtain ⟨p, _, rfl⟩ := List.mem_map.1 hrow; exact cRow_plain p x hx
    · obtain ⟨p, _, rfl⟩ := List.mem_map.1 hrow; exact xRow_plain p x hx) ?_
  unfold ac10 ro10
  simp only [zipT]
  repeat (first | refine wG_call1 (con33 a r.cs h1) rfl rfl ?_ | refine wG_call1 (con34 b r.xs h2) rfl rfl ?_ | (first
    | refine wC_a rfl ?_
    | refine q_s rfl ?_
    | refine q_b rfl ?_
    | refine wG_nil ?_
    | refine wG_g rfl ?_
    | refine wG_pure (o_len_vwm rfl) ?_
    | refine wG_pure (o_not_d rfl) ?_
    | refine wG_p rfl (by first | exact rfl | omega) ?_
    | refine wG_pure (o_str2 rfl rfl rfl) ?_
    | refine wG_pure (e_istr rfl rfl (by omega)) ?_
    | refine wG_pure (e_istr0 rfl rfl (by omega)) ?_
    | refine wG_pure (o_not rfl) ?_
    | refine wG_pure (e_ia_vw0 rfl rfl (by omega) rfl) ?_
    | refine wG_pure (e_ia_vwp rfl rfl (by omega) rfl) ?_
    | refine wG_pure (e_ia_vwm rfl rfl (by omega) (by omega) rfl) ?_
    | refine wG_pure (e_ia_vwi rfl rfl (by omega) rfl) ?_
    | refine wG_pure (e_ia_vwn rfl rfl (by omega) (by omega) rfl) ?_
    | refine wG_n rfl rfl ?_
    | refine wG_u rfl rfl ?_
    | refine wG_new (o_mks rfl rfl (by omega) (by decide)) ?_))
  refine ret_any (.inr rfl) (retV_ldt rfl rfl rfl rfl rfl) rfl trivial rfl rfl (by decide) (fun i rows h => ?_)
  match i, h with
  | 0, h => simp at h; subst h; rfl
  | 1, h => simp at h; subst h; rfl
theorem con14 (a b c d : Bool) (r : Rc) (h1 : r.cs.length ≤ 1048576) (h2 : r.xs.length ≤ 1048576) : Con Try.prog 14 true [.agg (rRow a b r), .agg (rRow c d r)] (.bool true) [] := by
  refine con_of_wp mixed fun14 (by simp) [] plain_nil ?_
  unfold ac14 ro14
  simp only [zipT]
  repeat (first | refine wG_call (con39 a c r.cs h1) rfl rfl ?_ | refine wG_call (con40 b d r.xs h2) rfl rfl ?_ | refine wE_c (con39 a c r.cs h1) rfl rfl rfl ?_ | refine wE_c (con40 b d r.xs h2) rfl rfl rfl ?_ | (first
    | refine wC_a rfl ?_
    | refine q_s rfl ?_
    | refine q_b rfl ?_
    | refine wG_nil ?_
    | refine wG_g rfl ?_
    | refine wG_pure (o_len_vwm rfl) ?_
    | refine wG_pure (o_not_d rfl) ?_
    | refine wG_p rfl (by first | exact rfl | omega) ?_
    | refine wG_pure (o_str2 rfl rfl rfl) ?_
    | refine wG_pure (e_istr rfl rfl (by omega)) ?_
    | refine wG_pure (e_istr0 rfl rfl (by omega)) ?_
    | refine wG_pure (o_not rfl) ?_
    | refine wG_pure (e_ia_vw0 rfl rfl (by omega) rfl) ?_
    | refine wG_pure (e_ia_vwp rfl rfl (by omega) rfl) ?_
    | refine wG_pure (e_ia_vwm rfl rfl (by omega) (by omega) rfl) ?_
    | refine wG_pure (e_ia_vwi rfl rfl (by omega) rfl) ?_
    | refine wG_pure (e_ia_vwn rfl rfl (by omega) (by omega) rfl) ?_
    | refine wG_n rfl rfl ?_
    | refine wG_u rfl rfl ?_
    | refine wG_new (o_mks rfl rfl (by omega) (by decide)) ?_) | (first
    | refine wE_nil (by kernel_rfl) ?_
    | refine wE_gy rfl ?_
    | refine wE_gn rfl rfl rfl ?_
    | refine wE_gu rfl rfl ?_
    | refine wE_gnn rfl rfl rfl ?_
    | refine wE_v (o_len_vwm rfl) rfl ?_
    | refine wE_v (o_not_d rfl) rfl ?_
    | refine wE_p rfl (by first | exact rfl | omega) rfl ?_
    | refine wE_v (o_str2 rfl rfl rfl) rfl ?_
    | refine wE_v (e_istr rfl rfl (by omega)) rfl ?_
    | refine wE_v (e_istr0 rfl rfl (by omega)) rfl ?_
    | refine wE_v (o_not rfl) rfl ?_
    | refine wE_v (e_ia_vw0 rfl rfl (by omega) rfl) rfl ?_
    | refine wE_v (e_ia_vwp rfl rfl (by omega) rfl) rfl ?_
    | refine wE_v (e_ia_vwm rfl rfl (by omega) (by omega) rfl) rfl ?_
    | refine wE_v (e_ia_vwi rfl rfl (by omega) rfl) rfl ?_
    | refine wE_v (e_ia_vwn rfl rfl (by omega) (by omega) rfl) rfl ?_
    | refine wE_n rfl rfl rfl ?_
    | refine wE_u rfl rfl rfl ?_
    | refine wE_new (o_mks rfl rfl (by omega) (by decide)) rfl ?_))
  exact ret_boolE (.inr rfl) ⟨_, retV_mv rfl, rfl⟩
/-- A record of two own lists, by content. -/
theorem ag_rec {T : Nat → AV} {H : Nat → Option Ab.Rows} {x : AX} {xs : List AX} {vs : List AV} {r : Rc} {q1 q2 : Nat} (h1 : gT T x = .agg [.sl q1 2 0 r.cs.length, .sl q2 2 0 r.xs.length]) (h2 : H q1 = some (r.cs.map cRow)) (h3 : H q2 = some (r.xs.map xRow)) (hr : (xs.map (gT T)).map (dr H 6) = vs) :
    ((x :: xs).map (gT T)).map (dr H 6) = .agg (rRow true true r) :: vs := by
  refine ag_any ?_ hr
  rw [h1]
  have e1 := dr_rows (m := 3) (sz := 2) h2 rfl cRow_plain
  have e2 := dr_rows (m := 3) (sz := 2) h3 rfl xRow_plain
  show AV.agg [dr H 5 (.sl q1 2 0 r.cs.length), dr H 5 (.sl q2 2 0 r.xs.length)] = _
  rw [e1, e2]; rfl

/-! ### Where a context stands -/
noncomputable def idx (r : Rc) (m : Int) : Int := ixN (fun j => (r.cs.getD j default).n = m) r.cs.length
theorem idx_b (r : Rc) (m : Int) : -1 ≤ idx r m ∧ idx r m < r.cs.length := ixN_b _ _
theorem con59 (a b : Bool) (r : Rc) (m : Int) (h1 : r.cs.length ≤ 1048576) : Con Try.prog 59 true [.agg (rRow a b r), .int .i64 m] (.int .i64 (idx r m)) [] := by
  refine con_of_wp mixed fun59 (by simp) [] plain_nil ?_
  unfold ac59 ro59
  simp only [zipT]
  repeat (first
    | refine wC_a rfl ?_
    | refine q_s rfl ?_
    | refine q_b rfl ?_
    | refine wG_nil ?_
    | refine wG_g rfl ?_
    | refine wG_pure (o_len_vwm rfl) ?_
    | refine wG_pure (o_not_d rfl) ?_
    | refine wG_p rfl (by first | exact rfl | omega) ?_
    | refine wG_pure (o_str2 rfl rfl rfl) ?_
    | refine wG_pure (e_istr rfl rfl (by omega)) ?_
    | refine wG_pure (e_istr0 rfl rfl (by omega)) ?_
    | refine wG_pure (o_not rfl) ?_
    | refine wG_pure (e_ia_vw0 rfl rfl (by omega) rfl) ?_
    | refine wG_pure (e_ia_vwp rfl rfl (by omega) rfl) ?_
    | refine wG_pure (e_ia_vwm rfl rfl (by omega) (by omega) rfl) ?_
    | refine wG_pure (e_ia_vwi rfl rfl (by omega) rfl) ?_
    | refine wG_pure (e_ia_vwn rfl rfl (by omega) (by omega) rfl) ?_
    | refine wG_n rfl rfl ?_
    | refine wG_u rfl rfl ?_
    | refine wG_new (o_mks rfl rfl (by omega) (by decide)) ?_)
  refine wC_loop Nat (fun i => ⟨[(1, .int .i64 m), (2, .pt 0 0 0), (5, .int .i64 (i : Int))], [(0, some [[.vw a (r.cs.map cRow), .vw b (r.xs.map xRow)]])], 1⟩) (fun i => i ≤ r.cs.length ∧ ∀ j, j < i → ¬ (r.cs.getD j default).n = m) (fun i => r.cs.length - i) 0 ⟨Nat.zero_le _, fun j hj => absurd hj (Nat.not_lt_zero _)⟩ ?_ (fun _ _ => Nat.zero_le _) ?_
  · simp [LeP, leT, leH, lk, AV.ltr, ltrL, Ab.hg, upd, -List.getD_eq_getElem?_getD, -Int.default_eq_zero]
  rintro i ⟨hi, hok⟩
  by_cases hi2 : i < r.cs.length
  · repeat' (first | (first
    | refine wC_a rfl ?_
    | refine q_s rfl ?_
    | refine q_b rfl ?_
    | refine wG_nil ?_
    | refine wG_g rfl ?_
    | refine wG_pure (o_len_vwm rfl) ?_
    | refine wG_pure (o_not_d rfl) ?_
    | refine wG_p rfl (by first | exact rfl | omega) ?_
    | refine wG_pure (o_str2 rfl rfl rfl) ?_
    | refine wG_pure (e_istr rfl rfl (by omega)) ?_
    | refine wG_pure (e_istr0 rfl rfl (by omega)) ?_
    | refine wG_pure (o_not rfl) ?_
    | refine wG_pure (e_ia_vw0 rfl rfl (by omega) rfl) ?_
    | refine wG_pure (e_ia_vwp rfl rfl (by omega) rfl) ?_
    | refine wG_pure (e_ia_vwm rfl rfl (by omega) (by omega) rfl) ?_
    | refine wG_pure (e_ia_vwi rfl rfl (by omega) rfl) ?_
    | refine wG_pure (e_ia_vwn rfl rfl (by omega) (by omega) rfl) ?_
    | refine wG_n rfl rfl ?_
    | refine wG_u rfl rfl ?_
    | refine wG_new (o_mks rfl rfl (by omega) (by decide)) ?_) | (refine wG_gd rfl (fun hgt => ?_) (fun hgf => ?_) <;> (first | simp only [eq_true hgt, decide_true] | simp only [eq_false hgf, decide_false])) | refine wC_cond_d rfl (fun hg => ?_) (fun hg => ?_))
    any_goals (exfalso; omega)
    · refine ret_intE (.inr rfl) ⟨_, retV_mv rfl, ?_⟩
      exact (ixN_at hi2 (by assumption) hok).symm
    · refine ⟨i + 1, ⟨by omega, fun j hj => ?_⟩, by omega, by simp [LeP, leT, leH, lk, AV.ltr, ltrL, Ab.hg, upd, -List.getD_eq_getElem?_getD, -Int.default_eq_zero]⟩
      rcases Nat.lt_or_ge j i with hji | hji
      · exact hok j hji
      · obtain rfl : j = i := by omega
        assumption
  · have hi3 : i = r.cs.length := by omega
    subst hi3
    repeat' (first | (first
    | refine wC_a rfl ?_
    | refine q_s rfl ?_
    | refine q_b rfl ?_
    | refine wG_nil ?_
    | refine wG_g rfl ?_
    | refine wG_pure (o_len_vwm rfl) ?_
    | refine wG_pure (o_not_d rfl) ?_
    | refine wG_p rfl (by first | exact rfl | omega) ?_
    | refine wG_pure (o_str2 rfl rfl rfl) ?_
    | refine wG_pure (e_istr rfl rfl (by omega)) ?_
    | refine wG_pure (e_istr0 rfl rfl (by omega)) ?_
    | refine wG_pure (o_not rfl) ?_
    | refine wG_pure (e_ia_vw0 rfl rfl (by omega) rfl) ?_
    | refine wG_pure (e_ia_vwp rfl rfl (by omega) rfl) ?_
    | refine wG_pure (e_ia_vwm rfl rfl (by omega) (by omega) rfl) ?_
    | refine wG_pure (e_ia_vwi rfl rfl (by omega) rfl) ?_
    | refine wG_pure (e_ia_vwn rfl rfl (by omega) (by omega) rfl) ?_
    | refine wG_n rfl rfl ?_
    | refine wG_u rfl rfl ?_
    | refine wG_new (o_mks rfl rfl (by omega) (by decide)) ?_) | (refine wG_gd rfl (fun hgt => ?_) (fun hgf => ?_) <;> (first | simp only [eq_true hgt, decide_true] | simp only [eq_false hgf, decide_false])) | refine wC_cond_d rfl (fun hg => ?_) (fun hg => ?_))
    any_goals (exfalso; omega)
    exact ret_intE (.inr rfl) ⟨_, retV_mv rfl, (ixN_no hok).symm⟩
theorem con76 (c : Cn) (m : Int) : Con Try.prog 76 true [.agg (cRow c), .vp [.int .i64 m]] (.bool (decide (c.n = m))) [] := by
  refine con_of_wp mixed fun76 (by simp) [] plain_nil ?_
  unfold ac76 ro76
  simp only [zipT]
  repeat (first
    | refine wC_a rfl ?_
    | refine q_s rfl ?_
    | refine q_b rfl ?_
    | refine wG_nil ?_
    | refine wG_g rfl ?_
    | refine wG_pure (o_len_vwm rfl) ?_
    | refine wG_pure (o_not_d rfl) ?_
    | refine wG_p rfl (by first | exact rfl | omega) ?_
    | refine wG_pure (o_str2 rfl rfl rfl) ?_
    | refine wG_pure (e_istr rfl rfl (by omega)) ?_
    | refine wG_pure (e_istr0 rfl rfl (by omega)) ?_
    | refine wG_pure (o_not rfl) ?_
    | refine wG_pure (e_ia_vw0 rfl rfl (by omega) rfl) ?_
    | refine wG_pure (e_ia_vwp rfl rfl (by omega) rfl) ?_
    | refine wG_pure (e_ia_vwm rfl rfl (by omega) (by omega) rfl) ?_
    | refine wG_pure (e_ia_vwi rfl rfl (by omega) rfl) ?_
    | refine wG_pure (e_ia_vwn rfl rfl (by omega) (by omega) rfl) ?_
    | refine wG_n rfl rfl ?_
    | refine wG_u rfl rfl ?_
    | refine wG_new (o_mks rfl rfl (by omega) (by decide)) ?_)
  exact ret_boolE (.inr rfl) ⟨_, retV_mv rfl, rfl⟩
theorem con75 (nn : Bool) (r : Rc) (h1 : r.cs.length ≤ 1048576) (m : Int) :
    Con Try.prog 75 true [.vw nn (r.cs.map cRow), .fn 76 [.vp [.int .i64 m]]] (.int .i64 (idx r m)) [] := by
  refine con_of_wp mixed fun75 (by simp) [] plain_nil ?_
  unfold ac75 ro75
  simp only [zipT]
  repeat (first
    | refine wC_a rfl ?_
    | refine q_s rfl ?_
    | refine q_b rfl ?_
    | refine wG_nil ?_
    | refine wG_g rfl ?_
    | refine wG_pure (o_len_vwm rfl) ?_
    | refine wG_pure (o_not_d rfl) ?_
    | refine wG_p rfl (by first | exact rfl | omega) ?_
    | refine wG_pure (o_str2 rfl rfl rfl) ?_
    | refine wG_pure (e_istr rfl rfl (by omega)) ?_
    | refine wG_pure (e_istr0 rfl rfl (by omega)) ?_
    | refine wG_pure (o_not rfl) ?_
    | refine wG_pure (e_ia_vw0 rfl rfl (by omega) rfl) ?_
    | refine wG_pure (e_ia_vwp rfl rfl (by omega) rfl) ?_
    | refine wG_pure (e_ia_vwm rfl rfl (by omega) (by omega) rfl) ?_
    | refine wG_pure (e_ia_vwi rfl rfl (by omega) rfl) ?_
    | refine wG_pure (e_ia_vwn rfl rfl (by omega) (by omega) rfl) ?_
    | refine wG_n rfl rfl ?_
    | refine wG_u rfl rfl ?_
    | refine wG_new (o_mks rfl rfl (by omega) (by decide)) ?_)
  refine wC_loop Nat (fun i => ⟨[(0, .vw nn (r.cs.map cRow)), (1, .fn 76 [.vp [.int .i64 m]]), (7, .int .i64 (r.cs.length : Int)), (8, .int .i64 (i : Int))], [], 0⟩) (fun i => i ≤ r.cs.length ∧ ∀ j, j < i → ¬ (r.cs.getD j default).n = m) (fun i => r.cs.length - i) 0 ⟨Nat.zero_le _, fun j hj => absurd hj (Nat.not_lt_zero _)⟩ ?_ (fun _ _ => Nat.le_refl _) ?_
  · simp [LeP, leT, leH, lk, AV.ltr, ltrL, Ab.hg, upd, -List.getD_eq_getElem?_getD, -Int.default_eq_zero]
  rintro i ⟨hi, hok⟩
  by_cases hi2 : i < r.cs.length
  · repeat' (first | refine wG_callv rfl (con76 (r.cs.getD i default) m) rfl rfl ?_ | (first
    | refine wC_a rfl ?_
    | refine q_s rfl ?_
    | refine q_b rfl ?_
    | refine wG_nil ?_
    | refine wG_g rfl ?_
    | refine wG_pure (o_len_vwm rfl) ?_
    | refine wG_pure (o_not_d rfl) ?_
    | refine wG_p rfl (by first | exact rfl | omega) ?_
    | refine wG_pure (o_str2 rfl rfl rfl) ?_
    | refine wG_pure (e_istr rfl rfl (by omega)) ?_
    | refine wG_pure (e_istr0 rfl rfl (by omega)) ?_
    | refine wG_pure (o_not rfl) ?_
    | refine wG_pure (e_ia_vw0 rfl rfl (by omega) rfl) ?_
    | refine wG_pure (e_ia_vwp rfl rfl (by omega) rfl) ?_
    | refine wG_pure (e_ia_vwm rfl rfl (by omega) (by omega) rfl) ?_
    | refine wG_pure (e_ia_vwi rfl rfl (by omega) rfl) ?_
    | refine wG_pure (e_ia_vwn rfl rfl (by omega) (by omega) rfl) ?_
    | refine wG_n rfl rfl ?_
    | refine wG_u rfl rfl ?_
    | refine wG_new (o_mks rfl rfl (by omega) (by decide)) ?_) | (refine wG_gd rfl (fun hgt => ?_) (fun hgf => ?_) <;> (first | simp only [eq_true hgt, decide_true] | simp only [eq_false hgf, decide_false])) | refine wC_cond_d rfl (fun hg => ?_) (fun hg => ?_))
    any_goals (exfalso; omega)
    · refine ret_intE (.inr rfl) ⟨_, retV_mv rfl, ?_⟩
      exact (ixN_at hi2 (by assumption) hok).symm
    · refine ⟨i + 1, ⟨by omega, fun j hj => ?_⟩, by omega, by simp [LeP, leT, leH, lk, AV.ltr, ltrL, Ab.hg, upd, -List.getD_eq_getElem?_getD, -Int.default_eq_zero]⟩
      rcases Nat.lt_or_ge j i with hji | hji
      · exact hok j hji
      · obtain rfl : j = i := by omega
        assumption
  · have hi3 : i = r.cs.length := by omega
    subst hi3
    repeat' (first | (first
    | refine wC_a rfl ?_
    | refine q_s rfl ?_
    | refine q_b rfl ?_
    | refine wG_nil ?_
    | refine wG_g rfl ?_
    | refine wG_pure (o_len_vwm rfl) ?_
    | refine wG_pure (o_not_d rfl) ?_
    | refine wG_p rfl (by first | exact rfl | omega) ?_
    | refine wG_pure (o_str2 rfl rfl rfl) ?_
    | refine wG_pure (e_istr rfl rfl (by omega)) ?_
    | refine wG_pure (e_istr0 rfl rfl (by omega)) ?_
    | refine wG_pure (o_not rfl) ?_
    | refine wG_pure (e_ia_vw0 rfl rfl (by omega) rfl) ?_
    | refine wG_pure (e_ia_vwp rfl rfl (by omega) rfl) ?_
    | refine wG_pure (e_ia_vwm rfl rfl (by omega) (by omega) rfl) ?_
    | refine wG_pure (e_ia_vwi rfl rfl (by omega) rfl) ?_
    | refine wG_pure (e_ia_vwn rfl rfl (by omega) (by omega) rfl) ?_
    | refine wG_n rfl rfl ?_
    | refine wG_u rfl rfl ?_
    | refine wG_new (o_mks rfl rfl (by omega) (by decide)) ?_) | (refine wG_gd rfl (fun hgt => ?_) (fun hgf => ?_) <;> (first | simp only [eq_true hgt, decide_true] | simp only [eq_false hgf, decide_false])) | refine wC_cond_d rfl (fun hg => ?_) (fun hg => ?_))
    any_goals (exfalso; omega)
    exact ret_intE (.inr rfl) ⟨_, retV_mv rfl, (ixN_no hok).symm⟩
theorem con63 (a b : Bool) (r : Rc) (m : Int) (h1 : r.cs.length ≤ 1048576) : Con Try.prog 63 true [.agg (rRow a b r), .int .i64 m] (.int .i64 (idx r m)) [] := by
  refine con_of_wp mixed fun63 (by simp) [] plain_nil ?_
  unfold ac63 ro63
  simp only [zipT]
  repeat (first | refine wG_call (con75 a r h1 m) rfl rfl ?_ | (first
    | refine wC_a rfl ?_
    | refine q_s rfl ?_
    | refine q_b rfl ?_
    | refine wG_nil ?_
    | refine wG_g rfl ?_
    | refine wG_pure (o_len_vwm rfl) ?_
    | refine wG_pure (o_not_d rfl) ?_
    | refine wG_p rfl (by first | exact rfl | omega) ?_
    | refine wG_pure (o_str2 rfl rfl rfl) ?_
    | refine wG_pure (e_istr rfl rfl (by omega)) ?_
    | refine wG_pure (e_istr0 rfl rfl (by omega)) ?_
    | refine wG_pure (o_not rfl) ?_
    | refine wG_pure (e_ia_vw0 rfl rfl (by omega) rfl) ?_
    | refine wG_pure (e_ia_vwp rfl rfl (by omega) rfl) ?_
    | refine wG_pure (e_ia_vwm rfl rfl (by omega) (by omega) rfl) ?_
    | refine wG_pure (e_ia_vwi rfl rfl (by omega) rfl) ?_
    | refine wG_pure (e_ia_vwn rfl rfl (by omega) (by omega) rfl) ?_
    | refine wG_n rfl rfl ?_
    | refine wG_u rfl rfl ?_
    | refine wG_new (o_mks rfl rfl (by omega) (by decide)) ?_))
  exact ret_intE (.inr rfl) ⟨_, retV_mv rfl, rfl⟩
def befX (a b : Rl) : Prop := a.u < b.u ∨ (a.u = b.u ∧ a.l < b.l)
instance (a b : Rl) : Decidable (befX a b) := by unfold befX; infer_instance
def cmX (a b : Rl) : Int := orI [cmI a.u b.u, cmI a.l b.l]
theorem cmX_neg (a b : Rl) : cmX a b ≥ 0 ↔ ¬ befX a b := by
  unfold cmX befX orI orI orI cmI
  rcases Int.lt_trichotomy a.u b.u with h | h | h
  · simp [h]
  · rcases Int.lt_trichotomy a.l b.l with k | k | k
    · simp [h, k]
    · simp [h, k]
    · have h1 : ¬ a.l < b.l := by omega
      simp [h, k, h1]
  · have h1 : ¬ a.u < b.u := by omega
    have h2 : a.u ≠ b.u := by omega
    simp [h, h1, h2]
theorem con80 (a b : Rl) : Con Try.prog 80 true [.agg (xRow a), .agg (xRow b)] (.bool (decide (befX a b))) [] := by
  refine con_of_wp mixed fun80 (by simp) [] plain_nil ?_
  unfold ac80 ro80
  simp only [zipT]
  repeat' (first | (first
    | refine wC_a rfl ?_
    | refine q_s rfl ?_
    | refine q_b rfl ?_
    | refine wG_nil ?_
    | refine wG_g rfl ?_
    | refine wG_pure (o_len_vwm rfl) ?_
    | refine wG_pure (o_not_d rfl) ?_
    | refine wG_p rfl (by first | exact rfl | omega) ?_
    | refine wG_pure (o_str2 rfl rfl rfl) ?_
    | refine wG_pure (e_istr rfl rfl (by omega)) ?_
    | refine wG_pure (e_istr0 rfl rfl (by omega)) ?_
    | refine wG_pure (o_not rfl) ?_
    | refine wG_pure (e_ia_vw0 rfl rfl (by omega) rfl) ?_
    | refine wG_pure (e_ia_vwp rfl rfl (by omega) rfl) ?_
    | refine wG_pure (e_ia_vwm rfl rfl (by omega) (by omega) rfl) ?_
    | refine wG_pure (e_ia_vwi rfl rfl (by omega) rfl) ?_
    | refine wG_pure (e_ia_vwn rfl rfl (by omega) (by omega) rfl) ?_
    | refine wG_n rfl rfl ?_
    | refine wG_u rfl rfl ?_
    | refine wG_new (o_mks rfl rfl (by omega) (by decide)) ?_) | (refine wG_gd rfl (fun hgt => ?_) (fun hgf => ?_) <;> (first | simp only [eq_true hgt, decide_true] | simp only [eq_false hgf, decide_false])) | refine wC_cond_d rfl (fun hg => ?_) (fun hg => ?_))
  all_goals (refine ret_boolE (.inr rfl) ⟨_, retV_mv rfl, ?_⟩; unfold befX; simp [*])
theorem con83 (a b : Rl) : Con Try.prog 83 true [.agg (xRow a), .agg (xRow b)] (.int .i64 (cmX a b)) [] := by
  refine con_of_wp mixed fun83 (by simp) [] plain_nil ?_
  unfold ac83 ro83
  simp only [zipT]
  repeat (first | refine wE_c (con89 _ _) rfl rfl rfl ?_ | refine wE_c (con88 true [cmI a.u b.u, cmI a.l b.l] (Nat.le_of_ble_eq_true rfl)) (ag_sl (f := iRow) (zs := [cmI a.u b.u, cmI a.l b.l]) rfl rfl rfl iRow_plain ag_nil) rfl rfl ?_ | (first
    | refine wC_a rfl ?_
    | refine q_s rfl ?_
    | refine q_b rfl ?_
    | refine wG_nil ?_
    | refine wG_g rfl ?_
    | refine wG_pure (o_len_vwm rfl) ?_
    | refine wG_pure (o_not_d rfl) ?_
    | refine wG_p rfl (by first | exact rfl | omega) ?_
    | refine wG_pure (o_str2 rfl rfl rfl) ?_
    | refine wG_pure (e_istr rfl rfl (by omega)) ?_
    | refine wG_pure (e_istr0 rfl rfl (by omega)) ?_
    | refine wG_pure (o_not rfl) ?_
    | refine wG_pure (e_ia_vw0 rfl rfl (by omega) rfl) ?_
    | refine wG_pure (e_ia_vwp rfl rfl (by omega) rfl) ?_
    | refine wG_pure (e_ia_vwm rfl rfl (by omega) (by omega) rfl) ?_
    | refine wG_pure (e_ia_vwi rfl rfl (by omega) rfl) ?_
    | refine wG_pure (e_ia_vwn rfl rfl (by omega) (by omega) rfl) ?_
    | refine wG_n rfl rfl ?_
    | refine wG_u rfl rfl ?_
    | refine wG_new (o_mks rfl rfl (by omega) (by decide)) ?_) | (first
    | refine wE_nil (by kernel_rfl) ?_
    | refine wE_gy rfl ?_
    | refine wE_gn rfl rfl rfl ?_
    | refine wE_gu rfl rfl ?_
    | refine wE_gnn rfl rfl rfl ?_
    | refine wE_v (o_len_vwm rfl) rfl ?_
    | refine wE_v (o_not_d rfl) rfl ?_
    | refine wE_p rfl (by first | exact rfl | omega) rfl ?_
    | refine wE_v (o_str2 rfl rfl rfl) rfl ?_
    | refine wE_v (e_istr rfl rfl (by omega)) rfl ?_
    | refine wE_v (e_istr0 rfl rfl (by omega)) rfl ?_
    | refine wE_v (o_not rfl) rfl ?_
    | refine wE_v (e_ia_vw0 rfl rfl (by omega) rfl) rfl ?_
    | refine wE_v (e_ia_vwp rfl rfl (by omega) rfl) rfl ?_
    | refine wE_v (e_ia_vwm rfl rfl (by omega) (by omega) rfl) rfl ?_
    | refine wE_v (e_ia_vwi rfl rfl (by omega) rfl) rfl ?_
    | refine wE_v (e_ia_vwn rfl rfl (by omega) (by omega) rfl) rfl ?_
    | refine wE_n rfl rfl rfl ?_
    | refine wE_u rfl rfl rfl ?_
    | refine wE_new (o_mks rfl rfl (by omega) (by decide)) rfl ?_))
  refine ret_intE (.inr rfl) ⟨_, retV_mv rfl, ?_⟩
  rfl
theorem con82 (x : Int) : Con Try.prog 82 true [.int .i64 x] (.bool (decide (1 ≤ x ∧ x ≤ 4))) [] := by
  refine con_of_wp mixed fun82 (by simp) [] plain_nil ?_
  unfold ac82 ro82
  simp only [zipT]
  repeat (first | refine wG_call (con87 _ _ _) rfl rfl ?_ | (first
    | refine wC_a rfl ?_
    | refine q_s rfl ?_
    | refine q_b rfl ?_
    | refine wG_nil ?_
    | refine wG_g rfl ?_
    | refine wG_pure (o_len_vwm rfl) ?_
    | refine wG_pure (o_not_d rfl) ?_
    | refine wG_p rfl (by first | exact rfl | omega) ?_
    | refine wG_pure (o_str2 rfl rfl rfl) ?_
    | refine wG_pure (e_istr rfl rfl (by omega)) ?_
    | refine wG_pure (e_istr0 rfl rfl (by omega)) ?_
    | refine wG_pure (o_not rfl) ?_
    | refine wG_pure (e_ia_vw0 rfl rfl (by omega) rfl) ?_
    | refine wG_pure (e_ia_vwp rfl rfl (by omega) rfl) ?_
    | refine wG_pure (e_ia_vwm rfl rfl (by omega) (by omega) rfl) ?_
    | refine wG_pure (e_ia_vwi rfl rfl (by omega) rfl) ?_
    | refine wG_pure (e_ia_vwn rfl rfl (by omega) (by omega) rfl) ?_
    | refine wG_n rfl rfl ?_
    | refine wG_u rfl rfl ?_
    | refine wG_new (o_mks rfl rfl (by omega) (by decide)) ?_))
  refine ret_boolE (.inr rfl) ⟨_, retV_mv rfl, ?_⟩; (simp [*])
end Go.Proofs.Ytencmeleapmjnaa.Rec
