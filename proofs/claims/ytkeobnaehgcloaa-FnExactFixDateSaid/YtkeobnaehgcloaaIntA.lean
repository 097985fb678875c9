/- The small functions on whole numbers and on lists of whole numbers: what each gives, for every input. -/
import Derived.Test.YtkeobnaehgcloaaProg
import Derived.KernelRfl
import Derived.Test.YtkeobnaehgcloaaAb1
namespace Go.Proofs.Ytkeobnaehgcloaa.Il
open Go Go.Proofs.Ytkeobnaehgcloaa.Ab
attribute [local irreducible] wpO wpC wpDr wpQ wpG wpE stepA seqQ blkQ Ret ev
theorem mixed : Try.prog.follows .mixedOrders = true := by kernel_rfl
set_option maxRecDepth 10000
set_option maxHeartbeats 4000000
set_option linter.unusedSimpArgs false
set_option linter.unusedVariables false

def ac26 : AC := (.seq (.reg [⟨(some 2), none, (.mv (.c .nilS))⟩]) (.seq (.reg [⟨(some 5), none, (.mv (.t 0))⟩, ⟨(some 6), none, (.len (.t 5))⟩, ⟨(some 7), none, (.mks 1 8 [(.int .i64 0)] (.t 6) (.t 6))⟩, ⟨(some 3), none, (.mv (.t 7))⟩]) (.seq (.seq (.reg [⟨(some 4), none, (.mv (.c (.int .i64 0)))⟩]) (.blk 0 (.loop (.seq (.seq (.reg [⟨(some 8), none, (.mv (.t 4))⟩, ⟨(some 9), none, (.mv (.t 0))⟩, ⟨(some 10), none, (.len (.t 9))⟩, ⟨(some 11), none, (.bin .lss (.t 8) (.t 10))⟩]) (.cond (.t 11) .skip (.exit 0))) (.seq (.blk 1 (.reg [⟨(some 14), none, (.mv (.t 3))⟩, ⟨(some 15), none, (.mv (.t 4))⟩, ⟨(some 16), none, (.mv (.t 0))⟩, ⟨(some 17), none, (.mv (.t 4))⟩, ⟨(some 18), none, (.ia 1 (.t 16) (.t 17))⟩, ⟨(some 19), none, (.ld false 1 (.t 18))⟩, ⟨(some 20), none, (.ia 1 (.t 14) (.t 15))⟩, ⟨none, none, (.st 1 (.t 20) (.t 19))⟩])) (.reg [⟨(some 12), none, (.mv (.t 4))⟩, ⟨(some 13), none, (.bin .add (.t 12) (.c (.int .i64 1)))⟩, ⟨(some 4), none, (.mv (.t 13))⟩])))))) (.seq (.reg [⟨(some 21), none, (.mv (.t 3))⟩, ⟨(some 2), none, (.mv (.t 21))⟩]) .ret))))
def ro26 : List AOp := [(.mv (.t 2))]
theorem fun26 : Fun Try.prog 26 22 ac26 ro26 := ⟨Try.f26, _, Try.func26, by kernel_rfl, rfl, rfl, by kernel_rfl, by kernel_rfl, by decide⟩
def ac28 : AC := (.seq (.reg [⟨(some 4), none, (.mv (.c (.bool false)))⟩]) (.seq (.seq (.reg [⟨(some 6), none, (.mv (.t 0))⟩, ⟨(some 7), none, (.len (.t 6))⟩, ⟨(some 8), none, (.mv (.t 1))⟩, ⟨(some 9), none, (.len (.t 8))⟩, ⟨(some 10), none, (.bin .neq (.t 7) (.t 9))⟩]) (.cond (.t 10) (.seq (.reg [⟨(some 4), none, (.mv (.c (.bool false)))⟩]) .ret) .skip)) (.seq (.seq (.reg [⟨(some 5), none, (.mv (.c (.int .i64 0)))⟩]) (.blk 0 (.loop (.seq (.seq (.reg [⟨(some 11), none, (.mv (.t 5))⟩, ⟨(some 12), none, (.mv (.t 0))⟩, ⟨(some 13), none, (.len (.t 12))⟩, ⟨(some 14), none, (.bin .lss (.t 11) (.t 13))⟩]) (.cond (.t 14) .skip (.exit 0))) (.seq (.blk 1 (.seq (.dreg [⟨(some 17), none, (.mv (.t 0))⟩, ⟨(some 18), none, (.mv (.t 5))⟩, ⟨(some 19), none, (.ia 1 (.t 17) (.t 18))⟩, ⟨(some 20), none, (.ld false 1 (.t 19))⟩, ⟨(some 21), none, (.mv (.t 1))⟩, ⟨(some 22), none, (.mv (.t 5))⟩, ⟨(some 23), none, (.ia 1 (.t 21) (.t 22))⟩, ⟨(some 24), none, (.ld false 1 (.t 23))⟩, ⟨(some 25), none, (.bin .neq (.t 20) (.t 24))⟩] [[], [], [0, 1], [0, 1, 2], [], [], [4, 5], [4, 5, 6], [0, 1, 2, 3, 4, 5, 6, 7]]) (.cond (.t 25) (.seq (.reg [⟨(some 4), none, (.mv (.c (.bool false)))⟩]) .ret) .skip))) (.reg [⟨(some 15), none, (.mv (.t 5))⟩, ⟨(some 16), none, (.bin .add (.t 15) (.c (.int .i64 1)))⟩, ⟨(some 5), none, (.mv (.t 16))⟩])))))) (.seq (.reg [⟨(some 4), none, (.mv (.c (.bool true)))⟩]) .ret))))
def ro28 : List AOp := [(.mv (.t 4))]
theorem fun28 : Fun Try.prog 28 26 ac28 ro28 := ⟨Try.f28, _, Try.func28, by kernel_rfl, rfl, rfl, by kernel_rfl, by kernel_rfl, by decide⟩
def ac35 : AC := (.seq (.reg [⟨(some 4), none, (.mv (.c (.int .i64 0)))⟩]) (.seq (.seq (.reg [⟨(some 5), none, (.mv (.c (.int .i64 0)))⟩]) (.blk 0 (.loop (.seq (.seq (.reg [⟨(some 6), none, (.mv (.t 5))⟩, ⟨(some 7), none, (.mv (.t 0))⟩, ⟨(some 8), none, (.len (.t 7))⟩, ⟨(some 9), none, (.bin .lss (.t 6) (.t 8))⟩]) (.cond (.t 9) .skip (.exit 0))) (.seq (.blk 1 (.seq (.reg [⟨(some 12), none, (.mv (.t 0))⟩, ⟨(some 13), none, (.mv (.t 5))⟩, ⟨(some 14), none, (.mv (.t 1))⟩, ⟨(some 15), none, (.ia 1 (.t 12) (.t 13))⟩, ⟨none, none, (.st 1 (.t 15) (.t 14))⟩]) (.reg [⟨(some 16), none, (.mv (.t 1))⟩, ⟨(some 17), none, (.bin .add (.t 16) (.c (.int .i64 1)))⟩, ⟨(some 1), none, (.mv (.t 17))⟩]))) (.reg [⟨(some 10), none, (.mv (.t 5))⟩, ⟨(some 11), none, (.bin .add (.t 10) (.c (.int .i64 1)))⟩, ⟨(some 5), none, (.mv (.t 11))⟩])))))) (.seq (.reg [⟨(some 18), none, (.mv (.t 1))⟩, ⟨(some 4), none, (.mv (.t 18))⟩]) .ret)))
def ro35 : List AOp := [(.mv (.t 4))]
theorem fun35 : Fun Try.prog 35 19 ac35 ro35 := ⟨Try.f35, _, Try.func35, by kernel_rfl, rfl, rfl, by kernel_rfl, by kernel_rfl, by decide⟩
def ac36 : AC := (.seq (.reg [⟨(some 4), none, (.mv (.c (.int .i64 0)))⟩]) (.seq (.seq (.reg [⟨(some 5), none, (.mv (.c (.int .i64 0)))⟩]) (.blk 0 (.loop (.seq (.seq (.reg [⟨(some 6), none, (.mv (.t 5))⟩, ⟨(some 7), none, (.mv (.t 0))⟩, ⟨(some 8), none, (.len (.t 7))⟩, ⟨(some 9), none, (.bin .lss (.t 6) (.t 8))⟩]) (.cond (.t 9) .skip (.exit 0))) (.seq (.blk 1 (.seq (.seq (.reg [⟨(some 12), none, (.mv (.t 0))⟩, ⟨(some 13), none, (.mv (.t 5))⟩, ⟨(some 14), none, (.ia 1 (.t 12) (.t 13))⟩, ⟨(some 15), none, (.ld false 1 (.t 14))⟩, ⟨(some 16), none, (.mv (.t 1))⟩, ⟨(some 17), none, (.bin .neq (.t 15) (.t 16))⟩]) (.cond (.t 17) (.seq (.reg [⟨(some 4), none, (.mv (.c (.int .i64 (-1))))⟩]) .ret) .skip)) (.reg [⟨(some 18), none, (.mv (.t 1))⟩, ⟨(some 19), none, (.bin .add (.t 18) (.c (.int .i64 1)))⟩, ⟨(some 1), none, (.mv (.t 19))⟩]))) (.reg [⟨(some 10), none, (.mv (.t 5))⟩, ⟨(some 11), none, (.bin .add (.t 10) (.c (.int .i64 1)))⟩, ⟨(some 5), none, (.mv (.t 11))⟩])))))) (.seq (.reg [⟨(some 20), none, (.mv (.t 1))⟩, ⟨(some 4), none, (.mv (.t 20))⟩]) .ret)))
def ro36 : List AOp := [(.mv (.t 4))]
theorem fun36 : Fun Try.prog 36 21 ac36 ro36 := ⟨Try.f36, _, Try.func36, by kernel_rfl, rfl, rfl, by kernel_rfl, by kernel_rfl, by decide⟩
def ac46 : AC := (.seq (.reg [⟨(some 4), none, (.mv (.c (.int .i64 0)))⟩]) (.seq (.reg [⟨(some 5), none, (.mv (.t 1))⟩, ⟨(some 6), none, (.mv (.t 0))⟩, ⟨(some 7), none, (.len (.t 6))⟩, ⟨(some 8), none, (.bin .sub (.t 5) (.t 7))⟩, ⟨(some 1), none, (.mv (.t 8))⟩]) (.seq (.seq (.reg [⟨(some 9), none, (.mv (.t 1))⟩, ⟨(some 10), none, (.bin .lss (.t 9) (.c (.int .i64 0)))⟩]) (.cond (.t 10) (.seq (.reg [⟨(some 4), none, (.mv (.c (.int .i64 (-1))))⟩]) .ret) .skip)) (.seq (.reg [⟨(some 11), none, (.mv (.t 1))⟩, ⟨(some 4), none, (.mv (.t 11))⟩]) .ret))))
def ro46 : List AOp := [(.mv (.t 4))]
theorem fun46 : Fun Try.prog 46 12 ac46 ro46 := ⟨Try.f46, _, Try.func46, by kernel_rfl, rfl, rfl, by kernel_rfl, by kernel_rfl, by decide⟩
def ac73 : AC := (.seq (.reg [⟨(some 2), none, (.mv (.c .nilS))⟩]) (.seq (.seq (.reg [⟨(some 3), none, (.mv (.t 0))⟩, ⟨(some 4), none, (.nil2 false false (.t 3) (.c .nilS))⟩]) (.cond (.t 4) (.seq (.reg [⟨(some 2), none, (.mv (.c .nilS))⟩]) .ret) .skip)) (.seq (.reg [⟨(some 5), none, (.bsl 1 [(.int .i64 0)] 0 [])⟩, ⟨(some 6), none, (.mv (.t 0))⟩, ⟨(some 7), none, (.app 1 8 [(.int .i64 0)] (.t 5) (.t 6))⟩, ⟨(some 2), none, (.mv (.t 7))⟩]) .ret)))
def ro73 : List AOp := [(.mv (.t 2))]
theorem fun73 : Fun Try.prog 73 8 ac73 ro73 := ⟨Try.f73, _, Try.func73, by kernel_rfl, rfl, rfl, by kernel_rfl, by kernel_rfl, by decide⟩
def ac74 : AC := (.seq (.reg [⟨(some 6), none, (.mv (.c (.bool false)))⟩]) (.seq (.reg [⟨(some 7), none, (.mv (.t 0))⟩, ⟨(some 8), none, (.mv (.t 1))⟩, ⟨(some 9), none, (.bin .geq (.t 7) (.t 8))⟩, ⟨(some 10), none, (.mv (.t 9))⟩, ⟨(some 11), (some (10, true)), (.mv (.t 0))⟩, ⟨(some 12), (some (10, true)), (.mv (.t 2))⟩, ⟨(some 13), (some (10, true)), (.bin .leq (.t 11) (.t 12))⟩, ⟨(some 14), none, (.pick (.t 10) (.t 13) (.c (.bool false)))⟩, ⟨(some 6), none, (.mv (.t 14))⟩]) .ret))
def ro74 : List AOp := [(.mv (.t 6))]
theorem fun74 : Fun Try.prog 74 15 ac74 ro74 := ⟨Try.f74, _, Try.func74, by kernel_rfl, rfl, rfl, by kernel_rfl, by kernel_rfl, by decide⟩
def ac75 : AC := (.seq (.reg [⟨(some 2), none, (.mv (.c (.bool false)))⟩]) (.seq (.reg [⟨(some 3), none, (.mv (.t 0))⟩, ⟨(some 4), none, (.call 111 [(.t 3), (.c (.int .i64 (-20000))), (.c (.int .i64 2100))])⟩, ⟨(some 2), none, (.mv (.t 4))⟩]) .ret))
def ro75 : List AOp := [(.mv (.t 2))]
theorem fun75 : Fun Try.prog 75 5 ac75 ro75 := ⟨Try.f75, _, Try.func75, by kernel_rfl, rfl, rfl, by kernel_rfl, by kernel_rfl, by decide⟩
def ac76 : AC := (.seq (.reg [⟨(some 2), none, (.mv (.c .nilS))⟩]) (.seq (.reg [⟨(some 3), none, (.bsl 1 [(.int .i64 0)] 0 [])⟩, ⟨(some 4), none, (.mv (.t 0))⟩, ⟨(some 5), none, (.app 1 8 [(.int .i64 0)] (.t 3) (.t 4))⟩, ⟨(some 2), none, (.mv (.t 5))⟩]) .ret))
def ro76 : List AOp := [(.mv (.t 2))]
theorem fun76 : Fun Try.prog 76 6 ac76 ro76 := ⟨Try.f76, _, Try.func76, by kernel_rfl, rfl, rfl, by kernel_rfl, by kernel_rfl, by decide⟩
def ac77 : AC := (.seq (.reg [⟨(some 4), none, (.mv (.c (.int .i64 0)))⟩]) (.seq (.seq (.reg [⟨(some 5), none, (.mv (.t 0))⟩, ⟨(some 6), none, (.mv (.t 1))⟩, ⟨(some 7), none, (.bin .lss (.t 5) (.t 6))⟩]) (.cond (.t 7) (.seq (.reg [⟨(some 8), none, (.mv (.t 0))⟩, ⟨(some 4), none, (.mv (.t 8))⟩]) .ret) .skip)) (.seq (.reg [⟨(some 9), none, (.mv (.t 1))⟩, ⟨(some 4), none, (.mv (.t 9))⟩]) .ret)))
def ro77 : List AOp := [(.mv (.t 4))]
theorem fun77 : Fun Try.prog 77 10 ac77 ro77 := ⟨Try.f77, _, Try.func77, by kernel_rfl, rfl, rfl, by kernel_rfl, by kernel_rfl, by decide⟩
def ac78 : AC := (.seq (.reg [⟨(some 4), none, (.mv (.c (.int .i64 0)))⟩]) (.seq (.seq (.reg [⟨(some 5), none, (.mv (.t 0))⟩, ⟨(some 6), none, (.mv (.t 1))⟩, ⟨(some 7), none, (.bin .gtr (.t 5) (.t 6))⟩]) (.cond (.t 7) (.seq (.reg [⟨(some 8), none, (.mv (.t 0))⟩, ⟨(some 4), none, (.mv (.t 8))⟩]) .ret) .skip)) (.seq (.reg [⟨(some 9), none, (.mv (.t 1))⟩, ⟨(some 4), none, (.mv (.t 9))⟩]) .ret)))
def ro78 : List AOp := [(.mv (.t 4))]
theorem fun78 : Fun Try.prog 78 10 ac78 ro78 := ⟨Try.f78, _, Try.func78, by kernel_rfl, rfl, rfl, by kernel_rfl, by kernel_rfl, by decide⟩
def ac87 : AC := (.seq (.reg [⟨(some 2), none, (.mv (.c (.int .i64 0)))⟩]) (.seq (.reg [⟨(some 3), none, (.mv (.c (.int .i64 0)))⟩]) (.seq (.seq (.reg [⟨(some 4), none, (.mv (.c (.int .i64 0)))⟩]) (.blk 0 (.loop (.seq (.seq (.reg [⟨(some 5), none, (.mv (.t 4))⟩, ⟨(some 6), none, (.mv (.t 0))⟩, ⟨(some 7), none, (.len (.t 6))⟩, ⟨(some 8), none, (.bin .lss (.t 5) (.t 7))⟩]) (.cond (.t 8) .skip (.exit 0))) (.seq (.blk 1 (.reg [⟨(some 11), none, (.mv (.t 3))⟩, ⟨(some 12), none, (.mv (.t 0))⟩, ⟨(some 13), none, (.mv (.t 4))⟩, ⟨(some 14), none, (.ia 1 (.t 12) (.t 13))⟩, ⟨(some 15), none, (.ld false 1 (.t 14))⟩, ⟨(some 16), none, (.bin .add (.t 11) (.t 15))⟩, ⟨(some 3), none, (.mv (.t 16))⟩])) (.reg [⟨(some 9), none, (.mv (.t 4))⟩, ⟨(some 10), none, (.bin .add (.t 9) (.c (.int .i64 1)))⟩, ⟨(some 4), none, (.mv (.t 10))⟩])))))) (.seq (.reg [⟨(some 17), none, (.mv (.t 3))⟩, ⟨(some 2), none, (.mv (.t 17))⟩]) .ret))))
def ro87 : List AOp := [(.mv (.t 2))]
theorem fun87 : Fun Try.prog 87 18 ac87 ro87 := ⟨Try.f87, _, Try.func87, by kernel_rfl, rfl, rfl, by kernel_rfl, by kernel_rfl, by decide⟩
def ac109 : AC := (.seq (.reg [⟨(some 4), none, (.mv (.c (.bool false)))⟩]) (.seq (.reg [⟨(some 5), none, (.mv (.t 0))⟩, ⟨(some 6), none, (.mv (.t 1))⟩, ⟨(some 7), none, (.call 127 [(.t 5), (.t 6)])⟩, ⟨(some 8), none, (.bin .geq (.t 7) (.c (.int .i64 0)))⟩, ⟨(some 4), none, (.mv (.t 8))⟩]) .ret))
def ro109 : List AOp := [(.mv (.t 4))]
theorem fun109 : Fun Try.prog 109 9 ac109 ro109 := ⟨Try.f109, _, Try.func109, by kernel_rfl, rfl, rfl, by kernel_rfl, by kernel_rfl, by decide⟩
def ac111 : AC := (.seq (.reg [⟨(some 6), none, (.mv (.c (.bool false)))⟩]) (.seq (.reg [⟨(some 7), none, (.mv (.t 0))⟩, ⟨(some 8), none, (.mv (.t 1))⟩, ⟨(some 9), none, (.bin .geq (.t 7) (.t 8))⟩, ⟨(some 10), none, (.mv (.t 9))⟩, ⟨(some 11), (some (10, true)), (.mv (.t 0))⟩, ⟨(some 12), (some (10, true)), (.mv (.t 2))⟩, ⟨(some 13), (some (10, true)), (.bin .leq (.t 11) (.t 12))⟩, ⟨(some 14), none, (.pick (.t 10) (.t 13) (.c (.bool false)))⟩, ⟨(some 6), none, (.mv (.t 14))⟩]) .ret))
def ro111 : List AOp := [(.mv (.t 6))]
theorem fun111 : Fun Try.prog 111 15 ac111 ro111 := ⟨Try.f111, _, Try.func111, by kernel_rfl, rfl, rfl, by kernel_rfl, by kernel_rfl, by decide⟩
def ac112 : AC := (.seq (.reg [⟨(some 2), none, (.mv (.c (.int .i64 0)))⟩]) (.seq (.reg [⟨(some 3), none, (.mv (.c (.int .i64 0)))⟩]) (.seq (.seq (.reg [⟨(some 6), none, (.mv (.t 0))⟩, ⟨(some 7), none, (.len (.t 6))⟩, ⟨(some 8), none, (.mv (.c (.int .i64 0)))⟩]) (.blk 0 (.loop (.seq (.reg [⟨(some 9), none, (.bin .lss (.t 8) (.t 7))⟩]) (.seq (.cond (.t 9) .skip (.exit 0)) (.seq (.blk 1 (.seq (.reg [⟨(some 10), none, (.ia 1 (.t 6) (.t 8))⟩, ⟨(some 11), none, (.ld false 1 (.t 10))⟩, ⟨(some 5), none, (.mv (.t 11))⟩]) (.reg [⟨(some 12), none, (.mv (.t 3))⟩, ⟨(some 13), none, (.mv (.t 5))⟩, ⟨(some 14), none, (.call 128 [(.t 12), (.t 13)])⟩, ⟨(some 3), none, (.mv (.t 14))⟩]))) (.reg [⟨(some 15), none, (.bin .add (.t 8) (.c (.int .i64 1)))⟩, ⟨(some 8), none, (.mv (.t 15))⟩]))))))) (.seq (.reg [⟨(some 16), none, (.mv (.t 3))⟩, ⟨(some 2), none, (.mv (.t 16))⟩]) .ret))))
def ro112 : List AOp := [(.mv (.t 2))]
theorem fun112 : Fun Try.prog 112 17 ac112 ro112 := ⟨Try.f112, _, Try.func112, by kernel_rfl, rfl, rfl, by kernel_rfl, by kernel_rfl, by decide⟩
def ac113 : AC := (.seq (.reg [⟨(some 2), none, (.mv (.c (.int .i64 0)))⟩]) (.seq (.reg [⟨(some 3), none, (.mv (.c (.int .i64 0)))⟩]) (.seq (.seq (.reg [⟨(some 6), none, (.mv (.t 0))⟩, ⟨(some 7), none, (.len (.t 6))⟩, ⟨(some 8), none, (.mv (.c (.int .i64 0)))⟩]) (.blk 0 (.loop (.seq (.reg [⟨(some 9), none, (.bin .lss (.t 8) (.t 7))⟩]) (.seq (.cond (.t 9) .skip (.exit 0)) (.seq (.blk 1 (.seq (.reg [⟨(some 10), none, (.ia 1 (.t 6) (.t 8))⟩, ⟨(some 11), none, (.ld false 1 (.t 10))⟩, ⟨(some 5), none, (.mv (.t 11))⟩]) (.reg [⟨(some 12), none, (.mv (.t 3))⟩, ⟨(some 13), none, (.mv (.t 5))⟩, ⟨(some 14), none, (.bin .add (.t 12) (.t 13))⟩, ⟨(some 3), none, (.mv (.t 14))⟩]))) (.reg [⟨(some 15), none, (.bin .add (.t 8) (.c (.int .i64 1)))⟩, ⟨(some 8), none, (.mv (.t 15))⟩]))))))) (.seq (.reg [⟨(some 16), none, (.mv (.t 3))⟩, ⟨(some 2), none, (.mv (.t 16))⟩]) .ret))))
def ro113 : List AOp := [(.mv (.t 2))]
theorem fun113 : Fun Try.prog 113 17 ac113 ro113 := ⟨Try.f113, _, Try.func113, by kernel_rfl, rfl, rfl, by kernel_rfl, by kernel_rfl, by decide⟩
def ac116 : AC := (.seq (.reg [⟨(some 4), none, (.mv (.c (.int .i64 0)))⟩]) (.seq (.blk 0 (.loop (.seq (.seq (.reg [⟨(some 6), none, (.mv (.t 1))⟩, ⟨(some 7), none, (.bin .neq (.t 6) (.c (.int .i64 0)))⟩]) (.cond (.t 7) .skip (.exit 0))) (.blk 1 (.seq (.reg [⟨(some 8), none, (.mv (.t 0))⟩, ⟨(some 9), none, (.mv (.t 1))⟩, ⟨(some 10), none, (.bin .rem (.t 8) (.t 9))⟩, ⟨(some 5), none, (.mv (.t 10))⟩]) (.seq (.reg [⟨(some 11), none, (.mv (.t 1))⟩, ⟨(some 0), none, (.mv (.t 11))⟩]) (.reg [⟨(some 12), none, (.mv (.t 5))⟩, ⟨(some 1), none, (.mv (.t 12))⟩]))))))) (.seq (.reg [⟨(some 13), none, (.mv (.t 0))⟩, ⟨(some 4), none, (.mv (.t 13))⟩]) .ret)))
def ro116 : List AOp := [(.mv (.t 4))]
theorem fun116 : Fun Try.prog 116 14 ac116 ro116 := ⟨Try.f116, _, Try.func116, by kernel_rfl, rfl, rfl, by kernel_rfl, by kernel_rfl, by decide⟩
def ac127 : AC := (.seq (.reg [⟨(some 4), none, (.mv (.c (.int .i64 0)))⟩]) (.seq (.seq (.reg [⟨(some 6), none, (.mv (.t 0))⟩, ⟨(some 7), none, (.len (.t 6))⟩, ⟨(some 8), none, (.mv (.c (.int .i64 0)))⟩]) (.blk 0 (.loop (.seq (.reg [⟨(some 9), none, (.bin .lss (.t 8) (.t 7))⟩]) (.seq (.cond (.t 9) .skip (.exit 0)) (.seq (.blk 1 (.seq (.reg [⟨(some 10), none, (.mv (.t 8))⟩, ⟨(some 5), none, (.mv (.t 10))⟩]) (.seq (.reg [⟨(some 11), none, (.mv (.t 1))⟩, ⟨(some 12), none, (.mv (.t 0))⟩, ⟨(some 13), none, (.mv (.t 5))⟩, ⟨(some 14), none, (.ia 1 (.t 12) (.t 13))⟩, ⟨(some 15), none, (.ld false 1 (.t 14))⟩, ⟨(some 16), none, (.callv (.t 11) [(.t 15)])⟩]) (.cond (.t 16) (.seq (.reg [⟨(some 17), none, (.mv (.t 5))⟩, ⟨(some 4), none, (.mv (.t 17))⟩]) .ret) .skip)))) (.reg [⟨(some 18), none, (.bin .add (.t 8) (.c (.int .i64 1)))⟩, ⟨(some 8), none, (.mv (.t 18))⟩]))))))) (.seq (.reg [⟨(some 4), none, (.mv (.c (.int .i64 (-1))))⟩]) .ret)))
def ro127 : List AOp := [(.mv (.t 4))]
theorem fun127 : Fun Try.prog 127 19 ac127 ro127 := ⟨Try.f127, _, Try.func127, by kernel_rfl, rfl, rfl, by kernel_rfl, by kernel_rfl, by decide⟩
def ac128 : AC := (.seq (.reg [⟨(some 4), none, (.mv (.c (.int .i64 0)))⟩]) (.seq (.blk 0 (.loop (.seq (.seq (.reg [⟨(some 5), none, (.mv (.t 1))⟩, ⟨(some 6), none, (.bin .neq (.t 5) (.c (.int .i64 0)))⟩]) (.cond (.t 6) .skip (.exit 0))) (.blk 1 (.dreg [⟨(some 7), none, (.mv (.t 1))⟩, ⟨(some 8), none, (.mv (.t 0))⟩, ⟨(some 9), none, (.mv (.t 1))⟩, ⟨(some 10), none, (.bin .rem (.t 8) (.t 9))⟩, ⟨(some 0), none, (.mv (.t 7))⟩, ⟨(some 1), none, (.mv (.t 10))⟩] [[], [], [], [1, 2], [0, 1], [0, 1, 2, 3, 4]]))))) (.seq (.reg [⟨(some 11), none, (.mv (.t 0))⟩, ⟨(some 4), none, (.mv (.t 11))⟩]) .ret)))
def ro128 : List AOp := [(.mv (.t 4))]
theorem fun128 : Fun Try.prog 128 12 ac128 ro128 := ⟨Try.f128, _, Try.func128, by kernel_rfl, rfl, rfl, by kernel_rfl, by kernel_rfl, by decide⟩

def iRow (z : Int) : List AV := [.int .i64 z]
theorem iRow_plain : ∀ x : Int, ∀ v ∈ iRow x, AV.plain v = true := by intro x v hv; simp [iRow] at hv; subst hv; rfl
theorem iRow_len (x : Int) : (iRow x).length = 1 := rfl
theorem okI (ws : List Int) : okRows 1 (ws.map iRow) = true := okRows_map iRow_len ws
theorem ltrI (ws : List Int) (m : Nat) : ∀ row ∈ ws.map iRow, ∀ x ∈ row, AV.ltr m x = true := by
  refine rows_ltr _ m fun row hr x hx => ?_
  obtain ⟨p, _, rfl⟩ := List.mem_map.1 hr
  exact iRow_plain p x hx
theorem rowsP (ws : List Int) : ∀ row ∈ ws.map iRow, ∀ v ∈ row, AV.plain v = true := by
  intro row hr x hx
  obtain ⟨p, _, rfl⟩ := List.mem_map.1 hr
  exact iRow_plain p x hx
theorem getD_mem' (ws : List Int) {i : Nat} (h : i < ws.length) : ws.getD i default ∈ ws := by
  simp [List.getD_eq_getElem?_getD, List.getElem?_eq_getElem h]

theorem con74 (x a b : Int) : Con Try.prog 74 true [.int .i64 x, .int .i64 a, .int .i64 b] (.bool (decide (a ≤ x ∧ x ≤ b))) [] := by
  refine con_of_wp mixed fun74 (by simp) [] plain_nil ?_
  unfold ac74 ro74
  simp only [zipT]
  repeat' (first | (first
    | refine wC_a rfl ?_
    | refine q_s rfl ?_
    | refine q_b rfl ?_
    | refine wG_nil ?_
    | refine wG_g rfl ?_
    | refine wG_pure (o_len_vwm rfl) ?_
    | refine wG_pure (o_not_d rfl) ?_
    | refine wG_p rfl (by first | exact rfl | omega) ?_
    | refine wG_pure (o_not rfl) ?_
    | refine wG_pure (e_ia_vw0 rfl rfl (by omega) rfl) ?_
    | refine wG_pure (e_ia_vwp rfl rfl (by omega) rfl) ?_
    | refine wG_pure (e_ia_vwm rfl rfl (by omega) (by omega) rfl) ?_
    | refine wG_pure (e_ia_vwi rfl rfl (by omega) rfl) ?_
    | refine wG_pure (e_ia_vwn rfl rfl (by omega) (by omega) rfl) ?_
    | refine wG_n rfl rfl ?_
    | refine wG_u rfl rfl ?_
    | refine wG_new (o_mks rfl rfl (by omega) (by decide)) ?_) | (refine wG_gd rfl (fun hgt => ?_) (fun hgf => ?_) <;> (first | simp only [eq_true hgt, decide_true] | simp only [eq_false hgf, decide_false])) | refine wC_cond_d rfl (fun hg => ?_) (fun hg => ?_))
  all_goals (refine ret_boolE (.inr rfl) ⟨_, retV_mv rfl, ?_⟩; (simp [*]))
theorem con111 (x a b : Int) : Con Try.prog 111 true [.int .i64 x, .int .i64 a, .int .i64 b] (.bool (decide (a ≤ x ∧ x ≤ b))) [] := by
  refine con_of_wp mixed fun111 (by simp) [] plain_nil ?_
  unfold ac111 ro111
  simp only [zipT]
  repeat' (first | (first
    | refine wC_a rfl ?_
    | refine q_s rfl ?_
    | refine q_b rfl ?_
    | refine wG_nil ?_
    | refine wG_g rfl ?_
    | refine wG_pure (o_len_vwm rfl) ?_
    | refine wG_pure (o_not_d rfl) ?_
    | refine wG_p rfl (by first | exact rfl | omega) ?_
    | refine wG_pure (o_not rfl) ?_
    | refine wG_pure (e_ia_vw0 rfl rfl (by omega) rfl) ?_
    | refine wG_pure (e_ia_vwp rfl rfl (by omega) rfl) ?_
    | refine wG_pure (e_ia_vwm rfl rfl (by omega) (by omega) rfl) ?_
    | refine wG_pure (e_ia_vwi rfl rfl (by omega) rfl) ?_
    | refine wG_pure (e_ia_vwn rfl rfl (by omega) (by omega) rfl) ?_
    | refine wG_n rfl rfl ?_
    | refine wG_u rfl rfl ?_
    | refine wG_new (o_mks rfl rfl (by omega) (by decide)) ?_) | (refine wG_gd rfl (fun hgt => ?_) (fun hgf => ?_) <;> (first | simp only [eq_true hgt, decide_true] | simp only [eq_false hgf, decide_false])) | refine wC_cond_d rfl (fun hg => ?_) (fun hg => ?_))
  all_goals (refine ret_boolE (.inr rfl) ⟨_, retV_mv rfl, ?_⟩; (simp [*]))
theorem con75 (x : Int) : Con Try.prog 75 true [.int .i64 x] (.bool (decide (-20000 ≤ x ∧ x ≤ 2100))) [] := by
  refine con_of_wp mixed fun75 (by simp) [] plain_nil ?_
  unfold ac75 ro75
  simp only [zipT]
  repeat (first | refine wG_call (con111 _ _ _) rfl rfl ?_ | (first
    | refine wC_a rfl ?_
    | refine q_s rfl ?_
    | refine q_b rfl ?_
    | refine wG_nil ?_
    | refine wG_g rfl ?_
    | refine wG_pure (o_len_vwm rfl) ?_
    | refine wG_pure (o_not_d rfl) ?_
    | refine wG_p rfl (by first | exact rfl | omega) ?_
    | refine wG_pure (o_not rfl) ?_
    | refine wG_pure (e_ia_vw0 rfl rfl (by omega) rfl) ?_
    | refine wG_pure (e_ia_vwp rfl rfl (by omega) rfl) ?_
    | refine wG_pure (e_ia_vwm rfl rfl (by omega) (by omega) rfl) ?_
    | refine wG_pure (e_ia_vwi rfl rfl (by omega) rfl) ?_
    | refine wG_pure (e_ia_vwn rfl rfl (by omega) (by omega) rfl) ?_
    | refine wG_n rfl rfl ?_
    | refine wG_u rfl rfl ?_
    | refine wG_new (o_mks rfl rfl (by omega) (by decide)) ?_))
  refine ret_boolE (.inr rfl) ⟨_, retV_mv rfl, ?_⟩; (simp [*])
theorem con78 (x a : Int) : Con Try.prog 78 true [.int .i64 x, .int .i64 a] (.int .i64 (max x a)) [] := by
  refine con_of_wp mixed fun78 (by simp) [] plain_nil ?_
  unfold ac78 ro78
  simp only [zipT]
  repeat' (first | (first
    | refine wC_a rfl ?_
    | refine q_s rfl ?_
    | refine q_b rfl ?_
    | refine wG_nil ?_
    | refine wG_g rfl ?_
    | refine wG_pure (o_len_vwm rfl) ?_
    | refine wG_pure (o_not_d rfl) ?_
    | refine wG_p rfl (by first | exact rfl | omega) ?_
    | refine wG_pure (o_not rfl) ?_
    | refine wG_pure (e_ia_vw0 rfl rfl (by omega) rfl) ?_
    | refine wG_pure (e_ia_vwp rfl rfl (by omega) rfl) ?_
    | refine wG_pure (e_ia_vwm rfl rfl (by omega) (by omega) rfl) ?_
    | refine wG_pure (e_ia_vwi rfl rfl (by omega) rfl) ?_
    | refine wG_pure (e_ia_vwn rfl rfl (by omega) (by omega) rfl) ?_
    | refine wG_n rfl rfl ?_
    | refine wG_u rfl rfl ?_
    | refine wG_new (o_mks rfl rfl (by omega) (by decide)) ?_) | (refine wG_gd rfl (fun hgt => ?_) (fun hgf => ?_) <;> (first | simp only [eq_true hgt, decide_true] | simp only [eq_false hgf, decide_false])) | refine wC_cond_d rfl (fun hg => ?_) (fun hg => ?_))
  all_goals (refine ret_intE (.inr rfl) ⟨_, retV_mv rfl, by omega⟩)
theorem con77 (x a : Int) : Con Try.prog 77 true [.int .i64 x, .int .i64 a] (.int .i64 (min x a)) [] := by
  refine con_of_wp mixed fun77 (by simp) [] plain_nil ?_
  unfold ac77 ro77
  simp only [zipT]
  repeat' (first | (first
    | refine wC_a rfl ?_
    | refine q_s rfl ?_
    | refine q_b rfl ?_
    | refine wG_nil ?_
    | refine wG_g rfl ?_
    | refine wG_pure (o_len_vwm rfl) ?_
    | refine wG_pure (o_not_d rfl) ?_
    | refine wG_p rfl (by first | exact rfl | omega) ?_
    | refine wG_pure (o_not rfl) ?_
    | refine wG_pure (e_ia_vw0 rfl rfl (by omega) rfl) ?_
    | refine wG_pure (e_ia_vwp rfl rfl (by omega) rfl) ?_
    | refine wG_pure (e_ia_vwm rfl rfl (by omega) (by omega) rfl) ?_
    | refine wG_pure (e_ia_vwi rfl rfl (by omega) rfl) ?_
    | refine wG_pure (e_ia_vwn rfl rfl (by omega) (by omega) rfl) ?_
    | refine wG_n rfl rfl ?_
    | refine wG_u rfl rfl ?_
    | refine wG_new (o_mks rfl rfl (by omega) (by decide)) ?_) | (refine wG_gd rfl (fun hgt => ?_) (fun hgf => ?_) <;> (first | simp only [eq_true hgt, decide_true] | simp only [eq_false hgf, decide_false])) | refine wC_cond_d rfl (fun hg => ?_) (fun hg => ?_))
  all_goals (refine ret_intE (.inr rfl) ⟨_, retV_mv rfl, by omega⟩)

/-! ### Size, copy, comparison -/
theorem con46 (nn : Bool) (ws : List Int) (hlen : ws.length ≤ 9223372036854775807) (left : Int) (h0 : 0 ≤ left) (h1 : left ≤ 1048576) : Con Try.prog 46 true [.vw nn (ws.map iRow), .int .i64 left] (.int .i64 (if (ws.length : Int) ≤ left then left - (ws.length : Int) else -1)) [] := by
  refine con_of_wp mixed fun46 (by simp) [] plain_nil ?_
  unfold ac46 ro46
  simp only [zipT]
  have hl : ((ws.map iRow).length : Int) = ws.length := by simp
  repeat' (first | (first
    | refine wC_a rfl ?_
    | refine q_s rfl ?_
    | refine q_b rfl ?_
    | refine wG_nil ?_
    | refine wG_g rfl ?_
    | refine wG_pure (o_len_vwm rfl) ?_
    | refine wG_pure (o_not_d rfl) ?_
    | refine wG_p rfl (by first | exact rfl | omega) ?_
    | refine wG_pure (o_not rfl) ?_
    | refine wG_pure (e_ia_vw0 rfl rfl (by omega) rfl) ?_
    | refine wG_pure (e_ia_vwp rfl rfl (by omega) rfl) ?_
    | refine wG_pure (e_ia_vwm rfl rfl (by omega) (by omega) rfl) ?_
    | refine wG_pure (e_ia_vwi rfl rfl (by omega) rfl) ?_
    | refine wG_pure (e_ia_vwn rfl rfl (by omega) (by omega) rfl) ?_
    | refine wG_n rfl rfl ?_
    | refine wG_u rfl rfl ?_
    | refine wG_new (o_mks rfl rfl (by omega) (by decide)) ?_) | (refine wG_gd rfl (fun hgt => ?_) (fun hgf => ?_) <;> (first | simp only [eq_true hgt, decide_true] | simp only [eq_false hgf, decide_false])) | refine wC_cond_d rfl (fun hg => ?_) (fun hg => ?_))
  · refine ret_intE (.inr rfl) ⟨_, retV_mv rfl, ?_⟩
    rw [if_neg (by omega)]
  · refine ret_intE (.inr rfl) ⟨_, retV_mv rfl, ?_⟩
    rw [if_pos (by omega)]
theorem con26 (nn : Bool) (ws : List Int) (hlen : ws.length ≤ 1048576) : Con Try.prog 26 true [.vw nn (ws.map iRow)] (.sl 0 1 0 ws.length) [ws.map iRow] := by
  refine con_of_wp mixed fun26 (by simp) [0] (plain_map iRow_plain ws) ?_
  unfold ac26 ro26
  simp only [zipT]
  repeat (first
    | refine wC_a rfl ?_
    | refine q_s rfl ?_
    | refine q_b rfl ?_
    | refine wG_nil ?_
    | refine wG_g rfl ?_
    | refine wG_pure (o_len_vwm rfl) ?_
    | refine wG_pure (o_not_d rfl) ?_
    | refine wG_p rfl (by first | exact rfl | omega) ?_
    | refine wG_pure (o_not rfl) ?_
    | refine wG_pure (e_ia_vw0 rfl rfl (by omega) rfl) ?_
    | refine wG_pure (e_ia_vwp rfl rfl (by omega) rfl) ?_
    | refine wG_pure (e_ia_vwm rfl rfl (by omega) (by omega) rfl) ?_
    | refine wG_pure (e_ia_vwi rfl rfl (by omega) rfl) ?_
    | refine wG_pure (e_ia_vwn rfl rfl (by omega) (by omega) rfl) ?_
    | refine wG_n rfl rfl ?_
    | refine wG_u rfl rfl ?_
    | refine wG_new (o_mks rfl rfl (by omega) (by decide)) ?_)
  refine wC_loop Nat (fun i => ⟨[(0, .vw nn (ws.map iRow)), (3, .sl 0 1 0 ws.length), (4, .int .i64 (i : Int))], [(0, some ((ws.take i).map iRow ++ List.replicate (ws.length - i) [.int .i64 0]))], 1⟩) (fun i => i ≤ ws.length) (fun i => ws.length - i) 0 (Nat.zero_le _) ?_ (fun _ _ => Nat.zero_le _) ?_
  · simp [LeP, leT, leH, lk, AV.ltr, hg, upd]
  intro i hi
  repeat (first
    | refine wC_a rfl ?_
    | refine q_s rfl ?_
    | refine q_b rfl ?_
    | refine wG_nil ?_
    | refine wG_g rfl ?_
    | refine wG_pure (o_len_vwm rfl) ?_
    | refine wG_pure (o_not_d rfl) ?_
    | refine wG_p rfl (by first | exact rfl | omega) ?_
    | refine wG_pure (o_not rfl) ?_
    | refine wG_pure (e_ia_vw0 rfl rfl (by omega) rfl) ?_
    | refine wG_pure (e_ia_vwp rfl rfl (by omega) rfl) ?_
    | refine wG_pure (e_ia_vwm rfl rfl (by omega) (by omega) rfl) ?_
    | refine wG_pure (e_ia_vwi rfl rfl (by omega) rfl) ?_
    | refine wG_pure (e_ia_vwn rfl rfl (by omega) (by omega) rfl) ?_
    | refine wG_n rfl rfl ?_
    | refine wG_u rfl rfl ?_
    | refine wG_new (o_mks rfl rfl (by omega) (by decide)) ?_)
  refine wC_cond_d rfl (fun h2 => ?_) (fun h2 => ?_)
  · have hi2 : i < ws.length := by omega
    repeat (first
    | refine wC_a rfl ?_
    | refine q_s rfl ?_
    | refine q_b rfl ?_
    | refine wG_nil ?_
    | refine wG_g rfl ?_
    | refine wG_pure (o_len_vwm rfl) ?_
    | refine wG_pure (o_not_d rfl) ?_
    | refine wG_p rfl (by first | exact rfl | omega) ?_
    | refine wG_pure (o_not rfl) ?_
    | refine wG_pure (e_ia_vw0 rfl rfl (by omega) rfl) ?_
    | refine wG_pure (e_ia_vwp rfl rfl (by omega) rfl) ?_
    | refine wG_pure (e_ia_vwm rfl rfl (by omega) (by omega) rfl) ?_
    | refine wG_pure (e_ia_vwi rfl rfl (by omega) rfl) ?_
    | refine wG_pure (e_ia_vwn rfl rfl (by omega) (by omega) rfl) ?_
    | refine wG_n rfl rfl ?_
    | refine wG_u rfl rfl ?_
    | refine wG_new (o_mks rfl rfl (by omega) (by decide)) ?_)
    refine wG_pure (e_ia_sl rfl rfl (by omega) (by omega)) ?_
    have e0 : 0 + ((i : Int)).toNat = i := by simp
    simp only [e0]
    refine wG_upd (o_st_int rfl rfl (fill_get _ _ _ _ hi2) rfl rfl rfl) ?_
    repeat (first
    | refine wC_a rfl ?_
    | refine q_s rfl ?_
    | refine q_b rfl ?_
    | refine wG_nil ?_
    | refine wG_g rfl ?_
    | refine wG_pure (o_len_vwm rfl) ?_
    | refine wG_pure (o_not_d rfl) ?_
    | refine wG_p rfl (by first | exact rfl | omega) ?_
    | refine wG_pure (o_not rfl) ?_
    | refine wG_pure (e_ia_vw0 rfl rfl (by omega) rfl) ?_
    | refine wG_pure (e_ia_vwp rfl rfl (by omega) rfl) ?_
    | refine wG_pure (e_ia_vwm rfl rfl (by omega) (by omega) rfl) ?_
    | refine wG_pure (e_ia_vwi rfl rfl (by omega) rfl) ?_
    | refine wG_pure (e_ia_vwn rfl rfl (by omega) (by omega) rfl) ?_
    | refine wG_n rfl rfl ?_
    | refine wG_u rfl rfl ?_
    | refine wG_new (o_mks rfl rfl (by omega) (by decide)) ?_)
    refine ⟨i + 1, by omega, by omega, ⟨⟨rfl, rfl⟩, ⟨rfl, rfl⟩, ⟨by simp [lk], rfl⟩, trivial⟩, ⟨?_, Nat.zero_lt_one, ?_⟩, trivial⟩
    · rw [← fill_set iRow _ ws i hi2]
      rfl
    · exact rows_ltr _ _ (fill_plain iRow_plain (by simp [AV.plain]) ws (i + 1))
  · have hi3 : i = ws.length := by omega
    subst hi3
    repeat (first
    | refine wC_a rfl ?_
    | refine q_s rfl ?_
    | refine q_b rfl ?_
    | refine wG_nil ?_
    | refine wG_g rfl ?_
    | refine wG_pure (o_len_vwm rfl) ?_
    | refine wG_pure (o_not_d rfl) ?_
    | refine wG_p rfl (by first | exact rfl | omega) ?_
    | refine wG_pure (o_not rfl) ?_
    | refine wG_pure (e_ia_vw0 rfl rfl (by omega) rfl) ?_
    | refine wG_pure (e_ia_vwp rfl rfl (by omega) rfl) ?_
    | refine wG_pure (e_ia_vwm rfl rfl (by omega) (by omega) rfl) ?_
    | refine wG_pure (e_ia_vwi rfl rfl (by omega) rfl) ?_
    | refine wG_pure (e_ia_vwn rfl rfl (by omega) (by omega) rfl) ?_
    | refine wG_n rfl rfl ?_
    | refine wG_u rfl rfl ?_
    | refine wG_new (o_mks rfl rfl (by omega) (by decide)) ?_)
    refine ret_sl (.inr rfl) (retV_mv rfl) ?_
    rw [← fill_end iRow [.int .i64 0] ws]
    rfl
theorem con28 (nn mm : Bool) (xs ys : List Int) (h1 : xs.length ≤ 1048576) (h2 : ys.length ≤ 1048576) : Con Try.prog 28 true [.vw nn (xs.map iRow), .vw mm (ys.map iRow)] (.bool (decide (xs = ys))) [] := by
  refine con_of_wp mixed fun28 (by simp) [] plain_nil ?_
  unfold ac28 ro28
  simp only [zipT]
  repeat (first
    | refine wC_a rfl ?_
    | refine q_s rfl ?_
    | refine q_b rfl ?_
    | refine wG_nil ?_
    | refine wG_g rfl ?_
    | refine wG_pure (o_len_vwm rfl) ?_
    | refine wG_pure (o_not_d rfl) ?_
    | refine wG_p rfl (by first | exact rfl | omega) ?_
    | refine wG_pure (o_not rfl) ?_
    | refine wG_pure (e_ia_vw0 rfl rfl (by omega) rfl) ?_
    | refine wG_pure (e_ia_vwp rfl rfl (by omega) rfl) ?_
    | refine wG_pure (e_ia_vwm rfl rfl (by omega) (by omega) rfl) ?_
    | refine wG_pure (e_ia_vwi rfl rfl (by omega) rfl) ?_
    | refine wG_pure (e_ia_vwn rfl rfl (by omega) (by omega) rfl) ?_
    | refine wG_n rfl rfl ?_
    | refine wG_u rfl rfl ?_
    | refine wG_new (o_mks rfl rfl (by omega) (by decide)) ?_)
  refine wC_cond_d rfl (fun h3 => ?_) (fun h3 => ?_)
  · repeat (first
    | refine wC_a rfl ?_
    | refine q_s rfl ?_
    | refine q_b rfl ?_
    | refine wG_nil ?_
    | refine wG_g rfl ?_
    | refine wG_pure (o_len_vwm rfl) ?_
    | refine wG_pure (o_not_d rfl) ?_
    | refine wG_p rfl (by first | exact rfl | omega) ?_
    | refine wG_pure (o_not rfl) ?_
    | refine wG_pure (e_ia_vw0 rfl rfl (by omega) rfl) ?_
    | refine wG_pure (e_ia_vwp rfl rfl (by omega) rfl) ?_
    | refine wG_pure (e_ia_vwm rfl rfl (by omega) (by omega) rfl) ?_
    | refine wG_pure (e_ia_vwi rfl rfl (by omega) rfl) ?_
    | refine wG_pure (e_ia_vwn rfl rfl (by omega) (by omega) rfl) ?_
    | refine wG_n rfl rfl ?_
    | refine wG_u rfl rfl ?_
    | refine wG_new (o_mks rfl rfl (by omega) (by decide)) ?_)
    refine ret_boolE (.inr rfl) ⟨_, retV_mv rfl, Eq.symm (decide_eq_false fun hh => ?_)⟩
    subst hh; omega
  have hl : xs.length = ys.length := by omega
  repeat (first
    | refine wC_a rfl ?_
    | refine q_s rfl ?_
    | refine q_b rfl ?_
    | refine wG_nil ?_
    | refine wG_g rfl ?_
    | refine wG_pure (o_len_vwm rfl) ?_
    | refine wG_pure (o_not_d rfl) ?_
    | refine wG_p rfl (by first | exact rfl | omega) ?_
    | refine wG_pure (o_not rfl) ?_
    | refine wG_pure (e_ia_vw0 rfl rfl (by omega) rfl) ?_
    | refine wG_pure (e_ia_vwp rfl rfl (by omega) rfl) ?_
    | refine wG_pure (e_ia_vwm rfl rfl (by omega) (by omega) rfl) ?_
    | refine wG_pure (e_ia_vwi rfl rfl (by omega) rfl) ?_
    | refine wG_pure (e_ia_vwn rfl rfl (by omega) (by omega) rfl) ?_
    | refine wG_n rfl rfl ?_
    | refine wG_u rfl rfl ?_
    | refine wG_new (o_mks rfl rfl (by omega) (by decide)) ?_)
  refine wC_loop Nat (fun i => ⟨[(0, .vw nn (xs.map iRow)), (1, .vw mm (ys.map iRow)), (5, .int .i64 (i : Int))], [], 0⟩) (fun i => i ≤ xs.length ∧ ∀ j, j < i → xs.getD j default = ys.getD j default) (fun i => xs.length - i) 0 ⟨Nat.zero_le _, fun j hj => absurd hj (Nat.not_lt_zero _)⟩ ?_ (fun _ _ => Nat.le_refl _) ?_
  · simp [LeP, leT, leH, lk, AV.ltr]
  rintro i ⟨hi, hok⟩
  repeat (first
    | refine wC_a rfl ?_
    | refine q_s rfl ?_
    | refine q_b rfl ?_
    | refine wG_nil ?_
    | refine wG_g rfl ?_
    | refine wG_pure (o_len_vwm rfl) ?_
    | refine wG_pure (o_not_d rfl) ?_
    | refine wG_p rfl (by first | exact rfl | omega) ?_
    | refine wG_pure (o_not rfl) ?_
    | refine wG_pure (e_ia_vw0 rfl rfl (by omega) rfl) ?_
    | refine wG_pure (e_ia_vwp rfl rfl (by omega) rfl) ?_
    | refine wG_pure (e_ia_vwm rfl rfl (by omega) (by omega) rfl) ?_
    | refine wG_pure (e_ia_vwi rfl rfl (by omega) rfl) ?_
    | refine wG_pure (e_ia_vwn rfl rfl (by omega) (by omega) rfl) ?_
    | refine wG_n rfl rfl ?_
    | refine wG_u rfl rfl ?_
    | refine wG_new (o_mks rfl rfl (by omega) (by decide)) ?_)
  refine wC_cond_d rfl (fun h4 => ?_) (fun h4 => ?_)
  · have hi2 : i < xs.length := by omega
    repeat' (first | (first
    | refine wC_a rfl ?_
    | refine q_s rfl ?_
    | refine q_b rfl ?_
    | refine wG_nil ?_
    | refine wG_g rfl ?_
    | refine wG_pure (o_len_vwm rfl) ?_
    | refine wG_pure (o_not_d rfl) ?_
    | refine wG_p rfl (by first | exact rfl | omega) ?_
    | refine wG_pure (o_not rfl) ?_
    | refine wG_pure (e_ia_vw0 rfl rfl (by omega) rfl) ?_
    | refine wG_pure (e_ia_vwp rfl rfl (by omega) rfl) ?_
    | refine wG_pure (e_ia_vwm rfl rfl (by omega) (by omega) rfl) ?_
    | refine wG_pure (e_ia_vwi rfl rfl (by omega) rfl) ?_
    | refine wG_pure (e_ia_vwn rfl rfl (by omega) (by omega) rfl) ?_
    | refine wG_n rfl rfl ?_
    | refine wG_u rfl rfl ?_
    | refine wG_new (o_mks rfl rfl (by omega) (by decide)) ?_) | (refine wG_gd rfl (fun hgt => ?_) (fun hgf => ?_) <;> (first | simp only [eq_true hgt, decide_true] | simp only [eq_false hgf, decide_false])) | refine wC_cond_d rfl (fun hg => ?_) (fun hg => ?_))
    · refine ret_boolE (.inr rfl) ⟨_, retV_mv rfl, Eq.symm (decide_eq_false fun hh => ?_)⟩
      subst hh; contradiction
    · refine ⟨i + 1, ⟨by omega, fun j hj => ?_⟩, by omega, by simp [LeP, leT, leH, lk, AV.ltr]⟩
      rcases Nat.lt_or_ge j i with hji | hji
      · exact hok j hji
      · obtain rfl : j = i := by omega
        exact Decidable.not_not.1 ‹_›
  · have hi3 : i = xs.length := by omega
    subst hi3
    repeat (first
    | refine wC_a rfl ?_
    | refine q_s rfl ?_
    | refine q_b rfl ?_
    | refine wG_nil ?_
    | refine wG_g rfl ?_
    | refine wG_pure (o_len_vwm rfl) ?_
    | refine wG_pure (o_not_d rfl) ?_
    | refine wG_p rfl (by first | exact rfl | omega) ?_
    | refine wG_pure (o_not rfl) ?_
    | refine wG_pure (e_ia_vw0 rfl rfl (by omega) rfl) ?_
    | refine wG_pure (e_ia_vwp rfl rfl (by omega) rfl) ?_
    | refine wG_pure (e_ia_vwm rfl rfl (by omega) (by omega) rfl) ?_
    | refine wG_pure (e_ia_vwi rfl rfl (by omega) rfl) ?_
    | refine wG_pure (e_ia_vwn rfl rfl (by omega) (by omega) rfl) ?_
    | refine wG_n rfl rfl ?_
    | refine wG_u rfl rfl ?_
    | refine wG_new (o_mks rfl rfl (by omega) (by decide)) ?_)
    refine ret_boolE (.inr rfl) ⟨_, retV_mv rfl, Eq.symm (decide_eq_true (List.ext_getElem hl fun j g1 g2 => ?_))⟩
    have := hok j g1
    simpa [List.getD_eq_getElem?_getD, List.getElem?_eq_getElem g1, List.getElem?_eq_getElem g2] using this
theorem con28_same (nn mm : Bool) (xs : List Int) (h1 : xs.length ≤ 1048576) : Con Try.prog 28 true [.vw nn (xs.map iRow), .vw mm (xs.map iRow)] (.bool true) [] := by
  have := con28 nn mm xs xs h1 h1
  rwa [decide_eq_true rfl] at this

/-! ### Marks -/
def mks (k : Int) (n : Nat) : List Int := (List.range n).map fun i : Nat => k + (i : Int)
theorem mks_len (k : Int) (n : Nat) : (mks k n).length = n := by simp [mks]
theorem mks_get (k : Int) (n i : Nat) (h : i < n) : (mks k n).getD i default = k + i := by
  simp [mks, List.getD_eq_getElem?_getD, List.getElem?_eq_getElem, h]
theorem con36 (nn : Bool) (n : Nat) (k : Int) (hn : n ≤ 4294967296) (h0 : 0 ≤ k) (h1 : k ≤ 4294967296) : Con Try.prog 36 true [.vw nn ((mks k n).map iRow), .int .i64 k] (.int .i64 (k + n)) [] := by
  refine con_of_wp mixed fun36 (by simp) [] plain_nil ?_
  unfold ac36 ro36
  simp only [zipT]
  have hlen : (mks k n).length = n := mks_len k n
  repeat (first
    | refine wC_a rfl ?_
    | refine q_s rfl ?_
    | refine q_b rfl ?_
    | refine wG_nil ?_
    | refine wG_g rfl ?_
    | refine wG_pure (o_len_vwm rfl) ?_
    | refine wG_pure (o_not_d rfl) ?_
    | refine wG_p rfl (by first | exact rfl | omega) ?_
    | refine wG_pure (o_not rfl) ?_
    | refine wG_pure (e_ia_vw0 rfl rfl (by omega) rfl) ?_
    | refine wG_pure (e_ia_vwp rfl rfl (by omega) rfl) ?_
    | refine wG_pure (e_ia_vwm rfl rfl (by omega) (by omega) rfl) ?_
    | refine wG_pure (e_ia_vwi rfl rfl (by omega) rfl) ?_
    | refine wG_pure (e_ia_vwn rfl rfl (by omega) (by omega) rfl) ?_
    | refine wG_n rfl rfl ?_
    | refine wG_u rfl rfl ?_
    | refine wG_new (o_mks rfl rfl (by omega) (by decide)) ?_)
  refine wC_loop Nat (fun i => ⟨[(0, .vw nn ((mks k n).map iRow)), (1, .int .i64 (k + i)), (5, .int .i64 (i : Int))], [], 0⟩) (fun i => i ≤ n) (fun i => n - i) 0 (Nat.zero_le _) ?_ (fun _ _ => Nat.le_refl _) ?_
  · simp [LeP, leT, leH, lk, AV.ltr]
  intro i hi
  repeat (first
    | refine wC_a rfl ?_
    | refine q_s rfl ?_
    | refine q_b rfl ?_
    | refine wG_nil ?_
    | refine wG_g rfl ?_
    | refine wG_pure (o_len_vwm rfl) ?_
    | refine wG_pure (o_not_d rfl) ?_
    | refine wG_p rfl (by first | exact rfl | omega) ?_
    | refine wG_pure (o_not rfl) ?_
    | refine wG_pure (e_ia_vw0 rfl rfl (by omega) rfl) ?_
    | refine wG_pure (e_ia_vwp rfl rfl (by omega) rfl) ?_
    | refine wG_pure (e_ia_vwm rfl rfl (by omega) (by omega) rfl) ?_
    | refine wG_pure (e_ia_vwi rfl rfl (by omega) rfl) ?_
    | refine wG_pure (e_ia_vwn rfl rfl (by omega) (by omega) rfl) ?_
    | refine wG_n rfl rfl ?_
    | refine wG_u rfl rfl ?_
    | refine wG_new (o_mks rfl rfl (by omega) (by decide)) ?_)
  refine wC_cond_d rfl (fun h2 => ?_) (fun h2 => ?_)
  · have hi2 : i < n := by omega
    have hv := mks_get k n i hi2
    repeat (first
    | refine wC_a rfl ?_
    | refine q_s rfl ?_
    | refine q_b rfl ?_
    | refine wG_nil ?_
    | refine wG_g rfl ?_
    | refine wG_pure (o_len_vwm rfl) ?_
    | refine wG_pure (o_not_d rfl) ?_
    | refine wG_p rfl (by first | exact rfl | omega) ?_
    | refine wG_pure (o_not rfl) ?_
    | refine wG_pure (e_ia_vw0 rfl rfl (by omega) rfl) ?_
    | refine wG_pure (e_ia_vwp rfl rfl (by omega) rfl) ?_
    | refine wG_pure (e_ia_vwm rfl rfl (by omega) (by omega) rfl) ?_
    | refine wG_pure (e_ia_vwi rfl rfl (by omega) rfl) ?_
    | refine wG_pure (e_ia_vwn rfl rfl (by omega) (by omega) rfl) ?_
    | refine wG_n rfl rfl ?_
    | refine wG_u rfl rfl ?_
    | refine wG_new (o_mks rfl rfl (by omega) (by decide)) ?_)
    refine wC_cond_d rfl (fun h3 => ?_) (fun h3 => ?_)
    · exact absurd hv h3
    repeat (first
    | refine wC_a rfl ?_
    | refine q_s rfl ?_
    | refine q_b rfl ?_
    | refine wG_nil ?_
    | refine wG_g rfl ?_
    | refine wG_pure (o_len_vwm rfl) ?_
    | refine wG_pure (o_not_d rfl) ?_
    | refine wG_p rfl (by first | exact rfl | omega) ?_
    | refine wG_pure (o_not rfl) ?_
    | refine wG_pure (e_ia_vw0 rfl rfl (by omega) rfl) ?_
    | refine wG_pure (e_ia_vwp rfl rfl (by omega) rfl) ?_
    | refine wG_pure (e_ia_vwm rfl rfl (by omega) (by omega) rfl) ?_
    | refine wG_pure (e_ia_vwi rfl rfl (by omega) rfl) ?_
    | refine wG_pure (e_ia_vwn rfl rfl (by omega) (by omega) rfl) ?_
    | refine wG_n rfl rfl ?_
    | refine wG_u rfl rfl ?_
    | refine wG_new (o_mks rfl rfl (by omega) (by decide)) ?_)
    exact ⟨i + 1, by omega, by omega, by simp [LeP, leT, leH, lk, AV.ltr]; omega⟩
  · have hi3 : i = n := by omega
    subst hi3
    repeat (first
    | refine wC_a rfl ?_
    | refine q_s rfl ?_
    | refine q_b rfl ?_
    | refine wG_nil ?_
    | refine wG_g rfl ?_
    | refine wG_pure (o_len_vwm rfl) ?_
    | refine wG_pure (o_not_d rfl) ?_
    | refine wG_p rfl (by first | exact rfl | omega) ?_
    | refine wG_pure (o_not rfl) ?_
    | refine wG_pure (e_ia_vw0 rfl rfl (by omega) rfl) ?_
    | refine wG_pure (e_ia_vwp rfl rfl (by omega) rfl) ?_
    | refine wG_pure (e_ia_vwm rfl rfl (by omega) (by omega) rfl) ?_
    | refine wG_pure (e_ia_vwi rfl rfl (by omega) rfl) ?_
    | refine wG_pure (e_ia_vwn rfl rfl (by omega) (by omega) rfl) ?_
    | refine wG_n rfl rfl ?_
    | refine wG_u rfl rfl ?_
    | refine wG_new (o_mks rfl rfl (by omega) (by decide)) ?_)
    exact ret_intE (.inr rfl) ⟨_, retV_mv rfl, rfl⟩
theorem con35_nil (k : Int) : Con Try.prog 35 true [.nilS, .int .i64 k] (.int .i64 k) [] := by
  refine con_of_wp mixed fun35 (by simp) [] plain_nil ?_
  unfold ac35 ro35
  simp only [zipT]
  repeat (first
    | refine wC_a rfl ?_
    | refine q_s rfl ?_
    | refine q_b rfl ?_
    | refine wG_nil ?_
    | refine wG_g rfl ?_
    | refine wG_pure (o_len_vwm rfl) ?_
    | refine wG_pure (o_not_d rfl) ?_
    | refine wG_p rfl (by first | exact rfl | omega) ?_
    | refine wG_pure (o_not rfl) ?_
    | refine wG_pure (e_ia_vw0 rfl rfl (by omega) rfl) ?_
    | refine wG_pure (e_ia_vwp rfl rfl (by omega) rfl) ?_
    | refine wG_pure (e_ia_vwm rfl rfl (by omega) (by omega) rfl) ?_
    | refine wG_pure (e_ia_vwi rfl rfl (by omega) rfl) ?_
    | refine wG_pure (e_ia_vwn rfl rfl (by omega) (by omega) rfl) ?_
    | refine wG_n rfl rfl ?_
    | refine wG_u rfl rfl ?_
    | refine wG_new (o_mks rfl rfl (by omega) (by decide)) ?_)
  refine wC_loop Nat (fun i => ⟨[(0, .nilS), (1, .int .i64 k), (5, .int .i64 0)], [], 0⟩) (fun _ => True) (fun i => 0) 0 trivial ?_ (fun _ _ => Nat.le_refl _) ?_
  · simp [LeP, leT, leH, lk, AV.ltr]
  intro i hi
  repeat (first
    | refine wC_a rfl ?_
    | refine q_s rfl ?_
    | refine q_b rfl ?_
    | refine wG_nil ?_
    | refine wG_g rfl ?_
    | refine wG_pure (o_len_vwm rfl) ?_
    | refine wG_pure (o_not_d rfl) ?_
    | refine wG_p rfl (by first | exact rfl | omega) ?_
    | refine wG_pure (o_not rfl) ?_
    | refine wG_pure (e_ia_vw0 rfl rfl (by omega) rfl) ?_
    | refine wG_pure (e_ia_vwp rfl rfl (by omega) rfl) ?_
    | refine wG_pure (e_ia_vwm rfl rfl (by omega) (by omega) rfl) ?_
    | refine wG_pure (e_ia_vwi rfl rfl (by omega) rfl) ?_
    | refine wG_pure (e_ia_vwn rfl rfl (by omega) (by omega) rfl) ?_
    | refine wG_n rfl rfl ?_
    | refine wG_u rfl rfl ?_
    | refine wG_new (o_mks rfl rfl (by omega) (by decide)) ?_)
  exact ret_intE (.inr rfl) ⟨_, retV_mv rfl, rfl⟩
/-- The marks of the first elements, the others as they were. -/
def mkd (ws : List Int) (k : Int) (i : Nat) : List Int := mks k i ++ ws.drop i
theorem mkd_len (ws : List Int) (k : Int) (i : Nat) (h : i ≤ ws.length) : (mkd ws k i).length = ws.length := by simp [mkd, mks_len]; omega
theorem mkd_end (ws : List Int) (k : Int) : mkd ws k ws.length = mks k ws.length := by simp [mkd]
theorem mkd_set (ws : List Int) (k : Int) (i : Nat) (h : i < ws.length) : (mkd ws k i).set i (k + i) = mkd ws k (i + 1) := by
  unfold mkd
  rw [List.set_append_right _ _ (by rw [mks_len]; omega), mks_len, Nat.sub_self, List.drop_eq_getElem_cons h, List.set_cons_zero]
  have : mks k (i + 1) = mks k i ++ [k + i] := by simp [mks, List.range_succ]
  rw [this, List.append_assoc]
  rfl
theorem sh35 (ws : List Int) (k : Int) (hn : ws.length ≤ 4294967296) (h0 : 0 ≤ k) (h1 : k ≤ 4294967296) {h : List (Nat × Option Ab.Rows)} {nr r : Nat} (hr : hg h r = some (ws.map iRow)) (hw : wfH h nr) :
    Sh Try.prog 35 [.sl r 1 0 ws.length, .int .i64 k] h nr (.int .i64 (k + ws.length)) ((r, some ((mks k ws.length).map iRow)) :: h) nr := by
  refine sh_of_wp mixed fun35 (by simp) ?_
  unfold ac35 ro35
  simp only [zipT]
  have hrn := (hw r _ hr).1
  repeat (first
    | refine wC_a rfl ?_
    | refine q_s rfl ?_
    | refine q_b rfl ?_
    | refine wG_nil ?_
    | refine wG_g rfl ?_
    | refine wG_pure (o_len_vwm rfl) ?_
    | refine wG_pure (o_not_d rfl) ?_
    | refine wG_p rfl (by first | exact rfl | omega) ?_
    | refine wG_pure (o_not rfl) ?_
    | refine wG_pure (e_ia_vw0 rfl rfl (by omega) rfl) ?_
    | refine wG_pure (e_ia_vwp rfl rfl (by omega) rfl) ?_
    | refine wG_pure (e_ia_vwm rfl rfl (by omega) (by omega) rfl) ?_
    | refine wG_pure (e_ia_vwi rfl rfl (by omega) rfl) ?_
    | refine wG_pure (e_ia_vwn rfl rfl (by omega) (by omega) rfl) ?_
    | refine wG_n rfl rfl ?_
    | refine wG_u rfl rfl ?_
    | refine wG_new (o_mks rfl rfl (by omega) (by decide)) ?_)
  refine wC_loopS Nat (fun i => ⟨[(0, .sl r 1 0 ws.length), (1, .int .i64 (k + i)), (5, .int .i64 (i : Int))], (r, some ((mkd ws k i).map iRow)) :: h, nr⟩) (fun i => i ≤ ws.length) (fun i => ws.length - i) 0 (Nat.zero_le _) ?_ (fun _ _ => Nat.le_refl _) ?_
  · refine Le_of (by simp [leT, lk, AV.ltr, hrn]) (fun q rows hq => ?_) (wfH_cons hrn (ltrI _ _) hw)
    simp only [hg, upd] at hq ⊢
    split at hq
    · rename_i e; subst e; cases hq; simpa [mkd, mks, hg] using hr
    · exact hq
  intro i hi
  have hml := mkd_len ws k i hi
  repeat (first
    | refine wC_a rfl ?_
    | refine q_s rfl ?_
    | refine q_b rfl ?_
    | refine wG_nil ?_
    | refine wG_g rfl ?_
    | refine wG_pure (o_len_vwm rfl) ?_
    | refine wG_pure (o_not_d rfl) ?_
    | refine wG_p rfl (by first | exact rfl | omega) ?_
    | refine wG_pure (o_not rfl) ?_
    | refine wG_pure (e_ia_vw0 rfl rfl (by omega) rfl) ?_
    | refine wG_pure (e_ia_vwp rfl rfl (by omega) rfl) ?_
    | refine wG_pure (e_ia_vwm rfl rfl (by omega) (by omega) rfl) ?_
    | refine wG_pure (e_ia_vwi rfl rfl (by omega) rfl) ?_
    | refine wG_pure (e_ia_vwn rfl rfl (by omega) (by omega) rfl) ?_
    | refine wG_n rfl rfl ?_
    | refine wG_u rfl rfl ?_
    | refine wG_new (o_mks rfl rfl (by omega) (by decide)) ?_)
  refine wC_cond_d rfl (fun h2 => ?_) (fun h2 => ?_)
  · have hi2 : i < ws.length := by omega
    repeat (first
    | refine wC_a rfl ?_
    | refine q_s rfl ?_
    | refine q_b rfl ?_
    | refine wG_nil ?_
    | refine wG_g rfl ?_
    | refine wG_pure (o_len_vwm rfl) ?_
    | refine wG_pure (o_not_d rfl) ?_
    | refine wG_p rfl (by first | exact rfl | omega) ?_
    | refine wG_pure (o_not rfl) ?_
    | refine wG_pure (e_ia_vw0 rfl rfl (by omega) rfl) ?_
    | refine wG_pure (e_ia_vwp rfl rfl (by omega) rfl) ?_
    | refine wG_pure (e_ia_vwm rfl rfl (by omega) (by omega) rfl) ?_
    | refine wG_pure (e_ia_vwi rfl rfl (by omega) rfl) ?_
    | refine wG_pure (e_ia_vwn rfl rfl (by omega) (by omega) rfl) ?_
    | refine wG_n rfl rfl ?_
    | refine wG_u rfl rfl ?_
    | refine wG_new (o_mks rfl rfl (by omega) (by decide)) ?_)
    refine wG_pure (e_ia_sl rfl rfl (by omega) (by omega)) ?_
    have e0 : 0 + ((i : Int)).toNat = i := by simp
    simp only [e0]
    have hgr : hg ((r, some ((mkd ws k i).map iRow)) :: h) r = some ((mkd ws k i).map iRow) := by simp [hg, upd]
    have hge : ((mkd ws k i).map iRow)[i]? = some (iRow ((mkd ws k i).getD i default)) := by
      simp [List.getElem?_map, List.getElem?_eq_getElem (show i < (mkd ws k i).length by omega), List.getD_eq_getElem?_getD]
    refine wG_upd (o_st_int rfl hgr hge rfl rfl rfl) ?_
    repeat (first
    | refine wC_a rfl ?_
    | refine q_s rfl ?_
    | refine q_b rfl ?_
    | refine wG_nil ?_
    | refine wG_g rfl ?_
    | refine wG_pure (o_len_vwm rfl) ?_
    | refine wG_pure (o_not_d rfl) ?_
    | refine wG_p rfl (by first | exact rfl | omega) ?_
    | refine wG_pure (o_not rfl) ?_
    | refine wG_pure (e_ia_vw0 rfl rfl (by omega) rfl) ?_
    | refine wG_pure (e_ia_vwp rfl rfl (by omega) rfl) ?_
    | refine wG_pure (e_ia_vwm rfl rfl (by omega) (by omega) rfl) ?_
    | refine wG_pure (e_ia_vwi rfl rfl (by omega) rfl) ?_
    | refine wG_pure (e_ia_vwn rfl rfl (by omega) (by omega) rfl) ?_
    | refine wG_n rfl rfl ?_
    | refine wG_u rfl rfl ?_
    | refine wG_new (o_mks rfl rfl (by omega) (by decide)) ?_)
    refine ⟨i + 1, by omega, by omega, Le_of (by simp [leT, lk, AV.ltr, hrn]; omega) (fun q rows hq => ?_) (wfH_cons hrn (ltrI _ _) hw)⟩
    have e1 : ((mkd ws k i).map iRow).set i (put (iRow ((mkd ws k i).getD i default)) 0 [.int .i64 (k + i)]) = (mkd ws k (i + 1)).map iRow := by
      rw [← mkd_set ws k i hi2, List.map_set]; rfl
    rw [e1]
    simp only [hg, upd] at hq ⊢
    split at hq
    · rename_i e; subst e; cases hq; simp
    · rename_i e; simp only [if_neg e]; exact hq
  · have hi3 : i = ws.length := by omega
    subst hi3
    repeat (first
    | refine wC_a rfl ?_
    | refine q_s rfl ?_
    | refine q_b rfl ?_
    | refine wG_nil ?_
    | refine wG_g rfl ?_
    | refine wG_pure (o_len_vwm rfl) ?_
    | refine wG_pure (o_not_d rfl) ?_
    | refine wG_p rfl (by first | exact rfl | omega) ?_
    | refine wG_pure (o_not rfl) ?_
    | refine wG_pure (e_ia_vw0 rfl rfl (by omega) rfl) ?_
    | refine wG_pure (e_ia_vwp rfl rfl (by omega) rfl) ?_
    | refine wG_pure (e_ia_vwm rfl rfl (by omega) (by omega) rfl) ?_
    | refine wG_pure (e_ia_vwi rfl rfl (by omega) rfl) ?_
    | refine wG_pure (e_ia_vwn rfl rfl (by omega) (by omega) rfl) ?_
    | refine wG_n rfl rfl ?_
    | refine wG_u rfl rfl ?_
    | refine wG_new (o_mks rfl rfl (by omega) (by decide)) ?_)
    refine ⟨trivial, _, retVs_1 (retV_mv rfl), ?_, Nat.le_refl _⟩
    rw [mkd_end]
    exact Le_of ⟨⟨rfl, rfl⟩, trivial⟩ (fun _ _ h => h) (wfH_cons hrn (ltrI _ _) hw)

/-! ### Searching -/
/-- Where the first element stands that a test takes; -1 if there is none. -/
def idxP (p : Int → Bool) (ws : List Int) : Int := if ∀ j, j < ws.length → p (ws.getD j default) = false then -1 else (ws.findIdx p : Int)
def anyP (p : Int → Bool) (ws : List Int) : Bool := ws.any p
theorem idxP_ge (p : Int → Bool) (ws : List Int) : idxP p ws ≥ 0 ↔ ws.any p = true := by
  unfold idxP
  rw [List.any_eq_true]
  split
  · rename_i h
    constructor
    · intro h2; omega
    · rintro ⟨x, hx, hp⟩
      obtain ⟨j, hj, rfl⟩ := List.getElem_of_mem hx
      have := h j hj
      simp [List.getD_eq_getElem?_getD, List.getElem?_eq_getElem hj, hp] at this
  · rename_i h
    constructor
    · intro _
      refine Classical.byContradiction fun hn => h fun j hj => ?_
      cases hp : p (ws.getD j default) with
      | false => rfl
      | true => exact absurd ⟨_, getD_mem' ws hj, hp⟩ hn
    · intro _; exact Int.natCast_nonneg _
theorem con127 (nn : Bool) (ws : List Int) (hlen : ws.length ≤ 1048576) {f : Nat} {caps : List AV} (p : Int → Bool) (hf : ∀ w, Con Try.prog f true (.int .i64 w :: caps) (.bool (p w)) []) (hc : ∀ H n, caps.map (dr H (n + 4)) = caps) (hcl : ltrL 0 caps = true) :
    Con Try.prog 127 true [.vw nn (ws.map iRow), .fn f caps] (.int .i64 (idxP p ws)) [] := by
  refine con_of_wp mixed fun127 (by simp) [] plain_nil ?_
  unfold ac127 ro127
  simp only [zipT]
  repeat (first
    | refine wC_a rfl ?_
    | refine q_s rfl ?_
    | refine q_b rfl ?_
    | refine wG_nil ?_
    | refine wG_g rfl ?_
    | refine wG_pure (o_len_vwm rfl) ?_
    | refine wG_pure (o_not_d rfl) ?_
    | refine wG_p rfl (by first | exact rfl | omega) ?_
    | refine wG_pure (o_not rfl) ?_
    | refine wG_pure (e_ia_vw0 rfl rfl (by omega) rfl) ?_
    | refine wG_pure (e_ia_vwp rfl rfl (by omega) rfl) ?_
    | refine wG_pure (e_ia_vwm rfl rfl (by omega) (by omega) rfl) ?_
    | refine wG_pure (e_ia_vwi rfl rfl (by omega) rfl) ?_
    | refine wG_pure (e_ia_vwn rfl rfl (by omega) (by omega) rfl) ?_
    | refine wG_n rfl rfl ?_
    | refine wG_u rfl rfl ?_
    | refine wG_new (o_mks rfl rfl (by omega) (by decide)) ?_)
  refine wC_loop Nat (fun i => ⟨[(0, .vw nn (ws.map iRow)), (1, .fn f caps), (7, .int .i64 (ws.length : Int)), (8, .int .i64 (i : Int))], [], 0⟩) (fun i => i ≤ ws.length ∧ ∀ j, j < i → p (ws.getD j default) = false) (fun i => ws.length - i) 0 ⟨Nat.zero_le _, fun j hj => absurd hj (Nat.not_lt_zero _)⟩ ?_ (fun _ _ => Nat.le_refl _) ?_
  · simp [LeP, leT, leH, lk, AV.ltr, hcl]
  rintro i ⟨hi, hok⟩
  repeat (first
    | refine wC_a rfl ?_
    | refine q_s rfl ?_
    | refine q_b rfl ?_
    | refine wG_nil ?_
    | refine wG_g rfl ?_
    | refine wG_pure (o_len_vwm rfl) ?_
    | refine wG_pure (o_not_d rfl) ?_
    | refine wG_p rfl (by first | exact rfl | omega) ?_
    | refine wG_pure (o_not rfl) ?_
    | refine wG_pure (e_ia_vw0 rfl rfl (by omega) rfl) ?_
    | refine wG_pure (e_ia_vwp rfl rfl (by omega) rfl) ?_
    | refine wG_pure (e_ia_vwm rfl rfl (by omega) (by omega) rfl) ?_
    | refine wG_pure (e_ia_vwi rfl rfl (by omega) rfl) ?_
    | refine wG_pure (e_ia_vwn rfl rfl (by omega) (by omega) rfl) ?_
    | refine wG_n rfl rfl ?_
    | refine wG_u rfl rfl ?_
    | refine wG_new (o_mks rfl rfl (by omega) (by decide)) ?_)
  refine wC_cond_d rfl (fun h2 => ?_) (fun h2 => ?_)
  · have hi2 : i < ws.length := by omega
    cases hp : p (ws.getD i default) with
    | true =>
      have c := hf (ws.getD i default)
      rw [hp] at c
      repeat' (first | refine wG_callv rfl c (ag_cap (n := 2) rfl hc rfl) rfl ?_ | (first
    | refine wC_a rfl ?_
    | refine q_s rfl ?_
    | refine q_b rfl ?_
    | refine wG_nil ?_
    | refine wG_g rfl ?_
    | refine wG_pure (o_len_vwm rfl) ?_
    | refine wG_pure (o_not_d rfl) ?_
    | refine wG_p rfl (by first | exact rfl | omega) ?_
    | refine wG_pure (o_not rfl) ?_
    | refine wG_pure (e_ia_vw0 rfl rfl (by omega) rfl) ?_
    | refine wG_pure (e_ia_vwp rfl rfl (by omega) rfl) ?_
    | refine wG_pure (e_ia_vwm rfl rfl (by omega) (by omega) rfl) ?_
    | refine wG_pure (e_ia_vwi rfl rfl (by omega) rfl) ?_
    | refine wG_pure (e_ia_vwn rfl rfl (by omega) (by omega) rfl) ?_
    | refine wG_n rfl rfl ?_
    | refine wG_u rfl rfl ?_
    | refine wG_new (o_mks rfl rfl (by omega) (by decide)) ?_))
      refine ret_intE (.inr rfl) ⟨_, retV_mv rfl, ?_⟩
      unfold idxP
      rw [if_neg (fun hh => by have := hh i hi2; rw [hp] at this; cases this)]
      congr 1
      refine ((List.findIdx_eq hi2).2 ⟨?_, fun j hj => ?_⟩).symm
      · simpa [List.getD_eq_getElem?_getD, List.getElem?_eq_getElem hi2] using hp
      · have := hok j hj
        simpa [List.getD_eq_getElem?_getD, List.getElem?_eq_getElem (show j < ws.length by omega)] using this
    | false =>
      have c := hf (ws.getD i default)
      rw [hp] at c
      repeat' (first | refine wG_callv rfl c (ag_cap (n := 2) rfl hc rfl) rfl ?_ | (first
    | refine wC_a rfl ?_
    | refine q_s rfl ?_
    | refine q_b rfl ?_
    | refine wG_nil ?_
    | refine wG_g rfl ?_
    | refine wG_pure (o_len_vwm rfl) ?_
    | refine wG_pure (o_not_d rfl) ?_
    | refine wG_p rfl (by first | exact rfl | omega) ?_
    | refine wG_pure (o_not rfl) ?_
    | refine wG_pure (e_ia_vw0 rfl rfl (by omega) rfl) ?_
    | refine wG_pure (e_ia_vwp rfl rfl (by omega) rfl) ?_
    | refine wG_pure (e_ia_vwm rfl rfl (by omega) (by omega) rfl) ?_
    | refine wG_pure (e_ia_vwi rfl rfl (by omega) rfl) ?_
    | refine wG_pure (e_ia_vwn rfl rfl (by omega) (by omega) rfl) ?_
    | refine wG_n rfl rfl ?_
    | refine wG_u rfl rfl ?_
    | refine wG_new (o_mks rfl rfl (by omega) (by decide)) ?_))
      refine ⟨i + 1, ⟨by omega, fun j hj => ?_⟩, by omega, by simp [LeP, leT, leH, lk, AV.ltr, hcl]⟩
      rcases Nat.lt_or_ge j i with hji | hji
      · exact hok j hji
      · obtain rfl : j = i := by omega
        exact hp
  · have hi3 : i = ws.length := by omega
    subst hi3
    repeat (first
    | refine wC_a rfl ?_
    | refine q_s rfl ?_
    | refine q_b rfl ?_
    | refine wG_nil ?_
    | refine wG_g rfl ?_
    | refine wG_pure (o_len_vwm rfl) ?_
    | refine wG_pure (o_not_d rfl) ?_
    | refine wG_p rfl (by first | exact rfl | omega) ?_
    | refine wG_pure (o_not rfl) ?_
    | refine wG_pure (e_ia_vw0 rfl rfl (by omega) rfl) ?_
    | refine wG_pure (e_ia_vwp rfl rfl (by omega) rfl) ?_
    | refine wG_pure (e_ia_vwm rfl rfl (by omega) (by omega) rfl) ?_
    | refine wG_pure (e_ia_vwi rfl rfl (by omega) rfl) ?_
    | refine wG_pure (e_ia_vwn rfl rfl (by omega) (by omega) rfl) ?_
    | refine wG_n rfl rfl ?_
    | refine wG_u rfl rfl ?_
    | refine wG_new (o_mks rfl rfl (by omega) (by decide)) ?_)
    refine ret_intE (.inr rfl) ⟨_, retV_mv rfl, ?_⟩
    unfold idxP
    rw [if_pos hok]
theorem con109 (nn : Bool) (ws : List Int) (hlen : ws.length ≤ 1048576) {f : Nat} {caps : List AV} (p : Int → Bool) (hf : ∀ w, Con Try.prog f true (.int .i64 w :: caps) (.bool (p w)) []) (hc : ∀ H n, caps.map (dr H (n + 4)) = caps) (hcl : ltrL 0 caps = true) :
    Con Try.prog 109 true [.vw nn (ws.map iRow), .fn f caps] (.bool (ws.any p)) [] := by
  refine con_of_wp mixed fun109 (by simp) [] plain_nil ?_
  unfold ac109 ro109
  simp only [zipT]
  have c := con127 nn ws hlen p hf hc hcl
  repeat' (first | refine wG_call c (ag_vw rfl (ag_fn rfl hc ag_nil)) rfl ?_ | (first
    | refine wC_a rfl ?_
    | refine q_s rfl ?_
    | refine q_b rfl ?_
    | refine wG_nil ?_
    | refine wG_g rfl ?_
    | refine wG_pure (o_len_vwm rfl) ?_
    | refine wG_pure (o_not_d rfl) ?_
    | refine wG_p rfl (by first | exact rfl | omega) ?_
    | refine wG_pure (o_not rfl) ?_
    | refine wG_pure (e_ia_vw0 rfl rfl (by omega) rfl) ?_
    | refine wG_pure (e_ia_vwp rfl rfl (by omega) rfl) ?_
    | refine wG_pure (e_ia_vwm rfl rfl (by omega) (by omega) rfl) ?_
    | refine wG_pure (e_ia_vwi rfl rfl (by omega) rfl) ?_
    | refine wG_pure (e_ia_vwn rfl rfl (by omega) (by omega) rfl) ?_
    | refine wG_n rfl rfl ?_
    | refine wG_u rfl rfl ?_
    | refine wG_new (o_mks rfl rfl (by omega) (by decide)) ?_))
  refine ret_boolE (.inr rfl) ⟨_, retV_mv rfl, ?_⟩
  rw [Bool.eq_iff_iff, decide_eq_true_iff]
  exact idxP_ge p ws

/-! ### Copies -/
theorem con73 (ws : List Int) (hlen : ws.length ≤ 1048576) : Con Try.prog 73 true [.vw true (ws.map iRow)] (.sl 0 1 0 ws.length) [ws.map iRow] := by
  cases ws with
  | nil =>
    refine con_of_wp mixed fun73 (by simp) [0] (plain_map iRow_plain []) ?_
    unfold ac73 ro73
    simp only [zipT]
    repeat (first | refine wG_pure (o_isnil_vw rfl rfl) ?_ | refine wG_new (o_bsl rfl) ?_ | refine wG_app0 rfl rfl rfl (rows_vw rfl (okI [])) ?_ | (first
    | refine wC_a rfl ?_
    | refine q_s rfl ?_
    | refine q_b rfl ?_
    | refine wG_nil ?_
    | refine wG_g rfl ?_
    | refine wG_pure (o_len_vwm rfl) ?_
    | refine wG_pure (o_not_d rfl) ?_
    | refine wG_p rfl (by first | exact rfl | omega) ?_
    | refine wG_pure (o_not rfl) ?_
    | refine wG_pure (e_ia_vw0 rfl rfl (by omega) rfl) ?_
    | refine wG_pure (e_ia_vwp rfl rfl (by omega) rfl) ?_
    | refine wG_pure (e_ia_vwm rfl rfl (by omega) (by omega) rfl) ?_
    | refine wG_pure (e_ia_vwi rfl rfl (by omega) rfl) ?_
    | refine wG_pure (e_ia_vwn rfl rfl (by omega) (by omega) rfl) ?_
    | refine wG_n rfl rfl ?_
    | refine wG_u rfl rfl ?_
    | refine wG_new (o_mks rfl rfl (by omega) (by decide)) ?_))
    exact ret_sl (.inr rfl) (retV_mv rfl) rfl
  | cons w ws =>
    refine con_of_wp mixed fun73 (by simp) [1] (plain_map iRow_plain (w :: ws)) ?_
    unfold ac73 ro73
    simp only [zipT]
    have hle : 0 + ((w :: ws).map iRow).length ≤ 4294967296 := by simp at hlen ⊢; omega
    repeat (first | refine wG_pure (o_isnil_vw rfl rfl) ?_ | refine wG_new (o_bsl rfl) ?_ | refine wG_app rfl rfl rfl (rows_vw rfl (okI (w :: ws))) (by simp) hle (by decide) ?_ | (first
    | refine wC_a rfl ?_
    | refine q_s rfl ?_
    | refine q_b rfl ?_
    | refine wG_nil ?_
    | refine wG_g rfl ?_
    | refine wG_pure (o_len_vwm rfl) ?_
    | refine wG_pure (o_not_d rfl) ?_
    | refine wG_p rfl (by first | exact rfl | omega) ?_
    | refine wG_pure (o_not rfl) ?_
    | refine wG_pure (e_ia_vw0 rfl rfl (by omega) rfl) ?_
    | refine wG_pure (e_ia_vwp rfl rfl (by omega) rfl) ?_
    | refine wG_pure (e_ia_vwm rfl rfl (by omega) (by omega) rfl) ?_
    | refine wG_pure (e_ia_vwi rfl rfl (by omega) rfl) ?_
    | refine wG_pure (e_ia_vwn rfl rfl (by omega) (by omega) rfl) ?_
    | refine wG_n rfl rfl ?_
    | refine wG_u rfl rfl ?_
    | refine wG_new (o_mks rfl rfl (by omega) (by decide)) ?_))
    have e : 0 + ((w :: ws).map iRow).length = (w :: ws).length := by simp
    rw [e]
    exact ret_sl (.inr rfl) (retV_mv rfl) rfl
theorem con76 (nn : Bool) (ws : List Int) (hlen : ws.length ≤ 1048576) : Con Try.prog 76 true [.vw nn (ws.map iRow)] (.sl 0 1 0 ws.length) [ws.map iRow] := by
  cases ws with
  | nil =>
    refine con_of_wp mixed fun76 (by simp) [0] (plain_map iRow_plain []) ?_
    unfold ac76 ro76
    simp only [zipT]
    repeat (first | refine wG_new (o_bsl rfl) ?_ | refine wG_app0 rfl rfl rfl (rows_vw rfl (okI [])) ?_ | (first
    | refine wC_a rfl ?_
    | refine q_s rfl ?_
    | refine q_b rfl ?_
    | refine wG_nil ?_
    | refine wG_g rfl ?_
    | refine wG_pure (o_len_vwm rfl) ?_
    | refine wG_pure (o_not_d rfl) ?_
    | refine wG_p rfl (by first | exact rfl | omega) ?_
    | refine wG_pure (o_not rfl) ?_
    | refine wG_pure (e_ia_vw0 rfl rfl (by omega) rfl) ?_
    | refine wG_pure (e_ia_vwp rfl rfl (by omega) rfl) ?_
    | refine wG_pure (e_ia_vwm rfl rfl (by omega) (by omega) rfl) ?_
    | refine wG_pure (e_ia_vwi rfl rfl (by omega) rfl) ?_
    | refine wG_pure (e_ia_vwn rfl rfl (by omega) (by omega) rfl) ?_
    | refine wG_n rfl rfl ?_
    | refine wG_u rfl rfl ?_
    | refine wG_new (o_mks rfl rfl (by omega) (by decide)) ?_))
    exact ret_sl (.inr rfl) (retV_mv rfl) rfl
  | cons w ws =>
    refine con_of_wp mixed fun76 (by simp) [1] (plain_map iRow_plain (w :: ws)) ?_
    unfold ac76 ro76
    simp only [zipT]
    have hle : 0 + ((w :: ws).map iRow).length ≤ 4294967296 := by simp at hlen ⊢; omega
    repeat (first | refine wG_new (o_bsl rfl) ?_ | refine wG_app rfl rfl rfl (rows_vw rfl (okI (w :: ws))) (by simp) hle (by decide) ?_ | (first
    | refine wC_a rfl ?_
    | refine q_s rfl ?_
    | refine q_b rfl ?_
    | refine wG_nil ?_
    | refine wG_g rfl ?_
    | refine wG_pure (o_len_vwm rfl) ?_
    | refine wG_pure (o_not_d rfl) ?_
    | refine wG_p rfl (by first | exact rfl | omega) ?_
    | refine wG_pure (o_not rfl) ?_
    | refine wG_pure (e_ia_vw0 rfl rfl (by omega) rfl) ?_
    | refine wG_pure (e_ia_vwp rfl rfl (by omega) rfl) ?_
    | refine wG_pure (e_ia_vwm rfl rfl (by omega) (by omega) rfl) ?_
    | refine wG_pure (e_ia_vwi rfl rfl (by omega) rfl) ?_
    | refine wG_pure (e_ia_vwn rfl rfl (by omega) (by omega) rfl) ?_
    | refine wG_n rfl rfl ?_
    | refine wG_u rfl rfl ?_
    | refine wG_new (o_mks rfl rfl (by omega) (by decide)) ?_))
    have e : 0 + ((w :: ws).map iRow).length = (w :: ws).length := by simp
    rw [e]
    exact ret_sl (.inr rfl) (retV_mv rfl) rfl
end Go.Proofs.Ytkeobnaehgcloaa.Il
