/- The age and the error of a curve in a year: what the small functions give. -/
import Derived.Test.YtkkcplcgafndgaaIvcC
import Derived.Test.YtkkcplcgafndgaaAb1
namespace Go.Proofs.Ytkkcplcgafndgaa
open Go Go.Proofs.Ytkkcplcgafndgaa.Ab
attribute [local irreducible] wpO wpC wpDr wpQ wpG wpE stepA seqQ blkQ Ret ev
set_option maxRecDepth 10000
set_option maxHeartbeats 4000000
set_option linter.unusedSimpArgs false
set_option linter.unusedVariables false

def ac41 : AC := (.seq (.reg [⟨(some 2), none, (.mv (.c (.int .i64 0)))⟩, ⟨(some 3), none, (.mv (.c (.int .i64 0)))⟩]) (.seq (.dreg [⟨(some 4), none, (.mv (.t 0))⟩, ⟨(some 5), none, (.ia 3 (.t 4) (.c (.int .i64 0)))⟩, ⟨(some 6), none, (.fa 0 (.t 5))⟩, ⟨(some 7), none, (.ld false 1 (.t 6))⟩, ⟨(some 8), none, (.mv (.t 0))⟩, ⟨(some 9), none, (.mv (.t 0))⟩, ⟨(some 10), none, (.len (.t 9))⟩, ⟨(some 11), none, (.bin .sub (.t 10) (.c (.int .i64 1)))⟩, ⟨(some 12), none, (.ia 3 (.t 8) (.t 11))⟩, ⟨(some 13), none, (.fa 0 (.t 12))⟩, ⟨(some 14), none, (.ld false 1 (.t 13))⟩, ⟨(some 2), none, (.mv (.t 7))⟩, ⟨(some 3), none, (.mv (.t 14))⟩] [[], [0], [0, 1], [0, 1, 2], [], [], [5], [5, 6], [4, 5, 6, 7], [4, 5, 6, 7, 8], [4, 5, 6, 7, 8, 9], [0, 1, 2, 3], [0, 1, 2, 3, 4, 5, 6, 7, 8, 9, 10, 11]]) .ret))
def ro41 : List AOp := [(.mv (.t 2)), (.mv (.t 3))]
theorem fun41 : Fun Try.prog 41 15 ac41 ro41 := ⟨Try.f41, _, Try.func41, by kernel_rfl, rfl, rfl, by kernel_rfl, by kernel_rfl, by decide⟩
def ac57 : AC := (.seq (.reg [⟨(some 4), none, (.mv (.c (.bool false)))⟩]) (.seq (.dreg [⟨(some 5), none, (.mv (.t 1))⟩, ⟨(some 6), none, (.mv (.t 0))⟩, ⟨(some 7), none, (.ia 3 (.t 6) (.c (.int .i64 0)))⟩, ⟨(some 8), none, (.fa 0 (.t 7))⟩, ⟨(some 9), none, (.ld false 1 (.t 8))⟩, ⟨(some 10), none, (.mv (.t 0))⟩, ⟨(some 11), none, (.mv (.t 0))⟩, ⟨(some 12), none, (.len (.t 11))⟩, ⟨(some 13), none, (.bin .sub (.t 12) (.c (.int .i64 1)))⟩, ⟨(some 14), none, (.ia 3 (.t 10) (.t 13))⟩, ⟨(some 15), none, (.fa 0 (.t 14))⟩, ⟨(some 16), none, (.ld false 1 (.t 15))⟩, ⟨(some 17), none, (.call 27 [(.t 5), (.t 9), (.t 16)])⟩, ⟨(some 4), none, (.mv (.t 17))⟩] [[], [], [1], [1, 2], [1, 2, 3], [], [], [6], [6, 7], [5, 6, 7, 8], [5, 6, 7, 8, 9], [5, 6, 7, 8, 9, 10], [0, 1, 2, 3, 4, 5, 6, 7, 8, 9, 10, 11], [0, 1, 2, 3, 4, 5, 6, 7, 8, 9, 10, 11, 12]]) .ret))
def ro57 : List AOp := [(.mv (.t 4))]
theorem fun57 : Fun Try.prog 57 18 ac57 ro57 := ⟨Try.f57, _, Try.func57, by kernel_rfl, rfl, rfl, by kernel_rfl, by kernel_rfl, by decide⟩
def ac58 : AC := (.seq (.reg [⟨(some 4), none, (.mv (.c (.int .i64 0)))⟩, ⟨(some 5), none, (.mv (.c (.int .i64 0)))⟩]) (.seq (.reg [⟨(some 6), none, (.mv (.c (.int .i64 1)))⟩]) (.seq (.blk 0 (.loop (.seq (.seq (.reg [⟨(some 11), none, (.mv (.t 0))⟩, ⟨(some 12), none, (.mv (.t 6))⟩, ⟨(some 13), none, (.ia 3 (.t 11) (.t 12))⟩, ⟨(some 14), none, (.fa 0 (.t 13))⟩, ⟨(some 15), none, (.ld false 1 (.t 14))⟩, ⟨(some 16), none, (.mv (.t 1))⟩, ⟨(some 17), none, (.bin .lss (.t 15) (.t 16))⟩]) (.cond (.t 17) .skip (.exit 0))) (.blk 1 (.reg [⟨(some 18), none, (.mv (.t 6))⟩, ⟨(some 19), none, (.bin .add (.t 18) (.c (.int .i64 1)))⟩, ⟨(some 6), none, (.mv (.t 19))⟩]))))) (.seq (.dreg [⟨(some 20), none, (.mv (.t 0))⟩, ⟨(some 21), none, (.mv (.t 6))⟩, ⟨(some 22), none, (.bin .sub (.t 21) (.c (.int .i64 1)))⟩, ⟨(some 23), none, (.ia 3 (.t 20) (.t 22))⟩, ⟨(some 24), none, (.ld true 3 (.t 23))⟩, ⟨(some 25), none, (.mv (.t 0))⟩, ⟨(some 26), none, (.mv (.t 6))⟩, ⟨(some 27), none, (.ia 3 (.t 25) (.t 26))⟩, ⟨(some 28), none, (.ld true 3 (.t 27))⟩, ⟨(some 7), none, (.alloc [(.int .i64 0), (.int .i64 0), (.int .i64 0)])⟩, ⟨(some 8), none, (.alloc [(.int .i64 0), (.int .i64 0), (.int .i64 0)])⟩, ⟨none, none, (.st 3 (.t 7) (.t 24))⟩, ⟨none, none, (.st 3 (.t 8) (.t 28))⟩] [[], [], [1], [0, 1, 2], [0, 1, 2, 3], [], [], [5, 6], [5, 6, 7], [], [], [0, 1, 2, 3, 4, 9, 10], [0, 1, 2, 3, 4, 5, 6, 7, 8, 9, 10, 11]]) (.seq (.dreg [⟨(some 29), none, (.mv (.t 1))⟩, ⟨(some 30), none, (.fa 0 (.t 7))⟩, ⟨(some 31), none, (.ld false 1 (.t 30))⟩, ⟨(some 32), none, (.bin .sub (.t 29) (.t 31))⟩, ⟨(some 33), none, (.fa 0 (.t 8))⟩, ⟨(some 34), none, (.ld false 1 (.t 33))⟩, ⟨(some 35), none, (.fa 0 (.t 7))⟩, ⟨(some 36), none, (.ld false 1 (.t 35))⟩, ⟨(some 37), none, (.bin .sub (.t 34) (.t 36))⟩, ⟨(some 9), none, (.mv (.t 32))⟩, ⟨(some 10), none, (.mv (.t 37))⟩] [[], [], [1], [0, 1, 2], [], [4], [], [6], [4, 5, 6, 7], [0, 1, 2, 3], [0, 1, 2, 3, 4, 5, 6, 7, 8, 9]]) (.seq (.dreg [⟨(some 38), none, (.fa 1 (.t 7))⟩, ⟨(some 39), none, (.ld false 1 (.t 38))⟩, ⟨(some 40), none, (.fa 1 (.t 8))⟩, ⟨(some 41), none, (.ld false 1 (.t 40))⟩, ⟨(some 42), none, (.fa 1 (.t 7))⟩, ⟨(some 43), none, (.ld false 1 (.t 42))⟩, ⟨(some 44), none, (.bin .sub (.t 41) (.t 43))⟩, ⟨(some 45), none, (.mv (.t 9))⟩, ⟨(some 46), none, (.bin .mul (.t 44) (.t 45))⟩, ⟨(some 47), none, (.mv (.t 10))⟩, ⟨(some 48), none, (.call 66 [(.t 46), (.t 47)])⟩, ⟨(some 49), none, (.bin .add (.t 39) (.t 48))⟩, ⟨(some 50), none, (.fa 2 (.t 7))⟩, ⟨(some 51), none, (.ld false 1 (.t 50))⟩, ⟨(some 52), none, (.fa 2 (.t 8))⟩, ⟨(some 53), none, (.ld false 1 (.t 52))⟩, ⟨(some 54), none, (.fa 2 (.t 7))⟩, ⟨(some 55), none, (.ld false 1 (.t 54))⟩, ⟨(some 56), none, (.bin .sub (.t 53) (.t 55))⟩, ⟨(some 57), none, (.mv (.t 9))⟩, ⟨(some 58), none, (.bin .mul (.t 56) (.t 57))⟩, ⟨(some 59), none, (.mv (.t 10))⟩, ⟨(some 60), none, (.call 66 [(.t 58), (.t 59)])⟩, ⟨(some 61), none, (.bin .add (.t 51) (.t 60))⟩, ⟨(some 4), none, (.mv (.t 49))⟩, ⟨(some 5), none, (.mv (.t 61))⟩] [[], [0], [], [2], [], [4], [2, 3, 4, 5], [], [2, 3, 4, 5, 6, 7], [], [2, 3, 4, 5, 6, 7, 8, 9], [0, 1, 2, 3, 4, 5, 6, 7, 8, 9, 10], [], [12], [], [14], [], [16], [14, 15, 16, 17], [], [14, 15, 16, 17, 18, 19], [], [2, 3, 4, 5, 6, 7, 8, 9, 10, 14, 15, 16, 17, 18, 19, 20, 21], [2, 3, 4, 5, 6, 7, 8, 9, 10, 12, 13, 14, 15, 16, 17, 18, 19, 20, 21, 22], [0, 1, 2, 3, 4, 5, 6, 7, 8, 9, 10, 11, 14, 15, 16, 17, 18, 19, 20, 21, 22], [0, 1, 2, 3, 4, 5, 6, 7, 8, 9, 10, 11, 12, 13, 14, 15, 16, 17, 18, 19, 20, 21, 22, 23, 24]]) .ret))))))
def ro58 : List AOp := [(.mv (.t 4)), (.mv (.t 5))]
theorem fun58 : Fun Try.prog 58 62 ac58 ro58 := ⟨Try.f58, _, Try.func58, by kernel_rfl, rfl, rfl, by kernel_rfl, by kernel_rfl, by decide⟩
def ac60 : AC := (.seq (.reg [⟨(some 4), none, (.mv (.c (.int .i64 0)))⟩, ⟨(some 5), none, (.mv (.c (.int .i64 0)))⟩]) (.seq (.reg [⟨(some 6), none, (.mv (.c (.int .i64 1)))⟩]) (.seq (.blk 0 (.loop (.seq (.seq (.reg [⟨(some 11), none, (.mv (.t 0))⟩, ⟨(some 12), none, (.mv (.t 6))⟩, ⟨(some 13), none, (.ia 3 (.t 11) (.t 12))⟩, ⟨(some 14), none, (.fa 0 (.t 13))⟩, ⟨(some 15), none, (.ld false 1 (.t 14))⟩, ⟨(some 16), none, (.mv (.t 1))⟩, ⟨(some 17), none, (.bin .lss (.t 15) (.t 16))⟩]) (.cond (.t 17) .skip (.exit 0))) (.blk 1 (.reg [⟨(some 18), none, (.mv (.t 6))⟩, ⟨(some 19), none, (.bin .add (.t 18) (.c (.int .i64 1)))⟩, ⟨(some 6), none, (.mv (.t 19))⟩]))))) (.seq (.dreg [⟨(some 20), none, (.mv (.t 0))⟩, ⟨(some 21), none, (.mv (.t 6))⟩, ⟨(some 22), none, (.bin .sub (.t 21) (.c (.int .i64 1)))⟩, ⟨(some 23), none, (.ia 3 (.t 20) (.t 22))⟩, ⟨(some 24), none, (.ld true 3 (.t 23))⟩, ⟨(some 25), none, (.mv (.t 0))⟩, ⟨(some 26), none, (.mv (.t 6))⟩, ⟨(some 27), none, (.ia 3 (.t 25) (.t 26))⟩, ⟨(some 28), none, (.ld true 3 (.t 27))⟩, ⟨(some 7), none, (.alloc [(.int .i64 0), (.int .i64 0), (.int .i64 0)])⟩, ⟨(some 8), none, (.alloc [(.int .i64 0), (.int .i64 0), (.int .i64 0)])⟩, ⟨none, none, (.st 3 (.t 7) (.t 24))⟩, ⟨none, none, (.st 3 (.t 8) (.t 28))⟩] [[], [], [1], [0, 1, 2], [0, 1, 2, 3], [], [], [5, 6], [5, 6, 7], [], [], [0, 1, 2, 3, 4, 9, 10], [0, 1, 2, 3, 4, 5, 6, 7, 8, 9, 10, 11]]) (.seq (.dreg [⟨(some 29), none, (.mv (.t 1))⟩, ⟨(some 30), none, (.fa 0 (.t 7))⟩, ⟨(some 31), none, (.ld false 1 (.t 30))⟩, ⟨(some 32), none, (.bin .sub (.t 29) (.t 31))⟩, ⟨(some 33), none, (.fa 0 (.t 8))⟩, ⟨(some 34), none, (.ld false 1 (.t 33))⟩, ⟨(some 35), none, (.fa 0 (.t 7))⟩, ⟨(some 36), none, (.ld false 1 (.t 35))⟩, ⟨(some 37), none, (.bin .sub (.t 34) (.t 36))⟩, ⟨(some 9), none, (.mv (.t 32))⟩, ⟨(some 10), none, (.mv (.t 37))⟩] [[], [], [1], [0, 1, 2], [], [4], [], [6], [4, 5, 6, 7], [0, 1, 2, 3], [0, 1, 2, 3, 4, 5, 6, 7, 8, 9]]) (.seq (.dreg [⟨(some 38), none, (.fa 1 (.t 7))⟩, ⟨(some 39), none, (.ld false 1 (.t 38))⟩, ⟨(some 40), none, (.fa 1 (.t 8))⟩, ⟨(some 41), none, (.ld false 1 (.t 40))⟩, ⟨(some 42), none, (.fa 1 (.t 7))⟩, ⟨(some 43), none, (.ld false 1 (.t 42))⟩, ⟨(some 44), none, (.bin .sub (.t 41) (.t 43))⟩, ⟨(some 45), none, (.mv (.t 9))⟩, ⟨(some 46), none, (.bin .mul (.t 44) (.t 45))⟩, ⟨(some 47), none, (.mv (.t 10))⟩, ⟨(some 48), none, (.call 67 [(.t 46), (.t 47)])⟩, ⟨(some 49), none, (.bin .add (.t 39) (.t 48))⟩, ⟨(some 50), none, (.fa 2 (.t 7))⟩, ⟨(some 51), none, (.ld false 1 (.t 50))⟩, ⟨(some 52), none, (.fa 2 (.t 8))⟩, ⟨(some 53), none, (.ld false 1 (.t 52))⟩, ⟨(some 54), none, (.fa 2 (.t 7))⟩, ⟨(some 55), none, (.ld false 1 (.t 54))⟩, ⟨(some 56), none, (.bin .sub (.t 53) (.t 55))⟩, ⟨(some 57), none, (.mv (.t 9))⟩, ⟨(some 58), none, (.bin .mul (.t 56) (.t 57))⟩, ⟨(some 59), none, (.mv (.t 10))⟩, ⟨(some 60), none, (.call 67 [(.t 58), (.t 59)])⟩, ⟨(some 61), none, (.bin .add (.t 51) (.t 60))⟩, ⟨(some 4), none, (.mv (.t 49))⟩, ⟨(some 5), none, (.mv (.t 61))⟩] [[], [0], [], [2], [], [4], [2, 3, 4, 5], [], [2, 3, 4, 5, 6, 7], [], [2, 3, 4, 5, 6, 7, 8, 9], [0, 1, 2, 3, 4, 5, 6, 7, 8, 9, 10], [], [12], [], [14], [], [16], [14, 15, 16, 17], [], [14, 15, 16, 17, 18, 19], [], [2, 3, 4, 5, 6, 7, 8, 9, 10, 14, 15, 16, 17, 18, 19, 20, 21], [2, 3, 4, 5, 6, 7, 8, 9, 10, 12, 13, 14, 15, 16, 17, 18, 19, 20, 21, 22], [0, 1, 2, 3, 4, 5, 6, 7, 8, 9, 10, 11, 14, 15, 16, 17, 18, 19, 20, 21, 22], [0, 1, 2, 3, 4, 5, 6, 7, 8, 9, 10, 11, 12, 13, 14, 15, 16, 17, 18, 19, 20, 21, 22, 23, 24]]) .ret))))))
def ro60 : List AOp := [(.mv (.t 4)), (.mv (.t 5))]
theorem fun60 : Fun Try.prog 60 62 ac60 ro60 := ⟨Try.f60, _, Try.func60, by kernel_rfl, rfl, rfl, by kernel_rfl, by kernel_rfl, by decide⟩
def ac66 : AC := (.seq (.reg [⟨(some 4), none, (.mv (.c (.int .i64 0)))⟩]) (.seq (.seq (.reg [⟨(some 5), none, (.mv (.t 0))⟩, ⟨(some 6), none, (.bin .lss (.t 5) (.c (.int .i64 0)))⟩]) (.cond (.t 6) (.seq (.reg [⟨(some 7), none, (.mv (.t 0))⟩, ⟨(some 8), none, (.bin .mul (.c (.int .i64 (-2))) (.t 7))⟩, ⟨(some 9), none, (.mv (.t 1))⟩, ⟨(some 10), none, (.bin .add (.t 8) (.t 9))⟩, ⟨(some 11), none, (.mv (.t 1))⟩, ⟨(some 12), none, (.bin .mul (.c (.int .i64 2)) (.t 11))⟩, ⟨(some 13), none, (.bin .quo (.t 10) (.t 12))⟩, ⟨(some 14), none, (.un .neg (.t 13))⟩, ⟨(some 4), none, (.mv (.t 14))⟩]) .ret) .skip)) (.seq (.reg [⟨(some 15), none, (.mv (.t 0))⟩, ⟨(some 16), none, (.bin .mul (.c (.int .i64 2)) (.t 15))⟩, ⟨(some 17), none, (.mv (.t 1))⟩, ⟨(some 18), none, (.bin .add (.t 16) (.t 17))⟩, ⟨(some 19), none, (.mv (.t 1))⟩, ⟨(some 20), none, (.bin .mul (.c (.int .i64 2)) (.t 19))⟩, ⟨(some 21), none, (.bin .quo (.t 18) (.t 20))⟩, ⟨(some 4), none, (.mv (.t 21))⟩]) .ret)))
def ro66 : List AOp := [(.mv (.t 4))]
theorem fun66 : Fun Try.prog 66 22 ac66 ro66 := ⟨Try.f66, _, Try.func66, by kernel_rfl, rfl, rfl, by kernel_rfl, by kernel_rfl, by decide⟩
def ac67 : AC := (.seq (.reg [⟨(some 4), none, (.mv (.c (.int .i64 0)))⟩]) (.seq (.seq (.reg [⟨(some 5), none, (.mv (.t 0))⟩, ⟨(some 6), none, (.bin .lss (.t 5) (.c (.int .i64 0)))⟩]) (.cond (.t 6) (.seq (.reg [⟨(some 7), none, (.mv (.t 0))⟩, ⟨(some 8), none, (.un .neg (.t 7))⟩, ⟨(some 9), none, (.mv (.t 1))⟩, ⟨(some 10), none, (.call 67 [(.t 8), (.t 9)])⟩, ⟨(some 11), none, (.un .neg (.t 10))⟩, ⟨(some 4), none, (.mv (.t 11))⟩]) .ret) .skip)) (.seq (.reg [⟨(some 12), none, (.mv (.t 0))⟩, ⟨(some 13), none, (.bin .mul (.c (.int .i64 2)) (.t 12))⟩, ⟨(some 14), none, (.mv (.t 1))⟩, ⟨(some 15), none, (.bin .add (.t 13) (.t 14))⟩, ⟨(some 16), none, (.mv (.t 1))⟩, ⟨(some 17), none, (.bin .mul (.c (.int .i64 2)) (.t 16))⟩, ⟨(some 18), none, (.bin .quo (.t 15) (.t 17))⟩, ⟨(some 4), none, (.mv (.t 18))⟩]) .ret)))
def ro67 : List AOp := [(.mv (.t 4))]
theorem fun67 : Fun Try.prog 67 19 ac67 ro67 := ⟨Try.f67, _, Try.func67, by kernel_rfl, rfl, rfl, by kernel_rfl, by kernel_rfl, by decide⟩

def yr (xs : List CP) (i : Nat) : Int := (xs.getD i default).y
/-- The quotient, rounded to the nearest whole number. -/
def rnd (n d : Int) : Int := if n < 0 then -((-2 * n + d).tdiv (2 * d)) else (2 * n + d).tdiv (2 * d)

theorem tdiv_b {a b m : Int} (h0 : 0 ≤ a) (h1 : a ≤ m) (hb : 1 ≤ b) : 0 ≤ a.tdiv b ∧ a.tdiv b ≤ m := by
  rw [Int.tdiv_eq_ediv_of_nonneg h0]
  exact ⟨Int.ediv_nonneg h0 (by omega), Int.le_trans (Int.ediv_le_self b h0) h1⟩
theorem rnd_b {n d : Int} (h1 : -4000000 ≤ n) (h2 : n ≤ 4000000) (h3 : 1 ≤ d) (h4 : d ≤ 1000) : -8001000 ≤ rnd n d ∧ rnd n d ≤ 8001000 := by
  unfold rnd
  split
  · have := tdiv_b (a := -2 * n + d) (b := 2 * d) (m := 8001000) (by omega) (by omega) (by omega)
    omega
  · have := tdiv_b (a := 2 * n + d) (b := 2 * d) (m := 8001000) (by omega) (by omega) (by omega)
    omega

theorem con66 {n d : Int} (h1 : -4000000 ≤ n) (h2 : n ≤ 4000000) (h3 : 1 ≤ d) (h4 : d ≤ 1000) : Con Try.prog 66 true [.int .i64 n, .int .i64 d] (.int .i64 (rnd n d)) [] := by
  refine con_of_wp mixed fun66 (by simp) [] plain_nil ?_
  unfold ac66 ro66
  simp only [zipT]
  by_cases hn : n < 0
  · have hb := tdiv_b (a := -2 * n + d) (b := 2 * d) (m := 8001000) (by omega) (by omega) (by omega)
    repeat' (first | refine wG_pure (o_quo rfl rfl (by omega) (by omega) (by omega)) ?_ | (first
    | refine wC_a rfl ?_
    | refine q_s rfl ?_
    | refine q_b rfl ?_
    | refine wG_nil ?_
    | refine wG_g rfl ?_
    | refine wG_pure (o_len_vwm rfl) ?_
    | refine wG_pure (o_not_d rfl) ?_
    | refine wG_p rfl (by first | exact rfl | omega) ?_
    | refine wG_pure (o_not rfl) ?_
    | refine wG_pure (e_ia_vwi rfl rfl (by omega) rfl) ?_
    | refine wG_pure (e_ia_vwn rfl rfl (by omega) (by omega) rfl) ?_
    | refine wG_n rfl rfl ?_
    | refine wG_u rfl rfl ?_
    | refine wG_new (o_mks rfl rfl (by omega) (by decide)) ?_) | (refine wG_gd rfl (fun hgt => ?_) (fun hgf => ?_) <;> (first | simp only [eq_true hgt, decide_true] | simp only [eq_false hgf, decide_false])) | refine wC_cond_d rfl (fun hg => ?_) (fun hg => ?_))
    · refine ret_intE (.inr rfl) ⟨_, retV_mv rfl, ?_⟩
      unfold rnd; rw [if_pos hn]
    · omega
  · have hb := tdiv_b (a := 2 * n + d) (b := 2 * d) (m := 8001000) (by omega) (by omega) (by omega)
    repeat' (first | refine wG_pure (o_quo rfl rfl (by omega) (by omega) (by omega)) ?_ | (first
    | refine wC_a rfl ?_
    | refine q_s rfl ?_
    | refine q_b rfl ?_
    | refine wG_nil ?_
    | refine wG_g rfl ?_
    | refine wG_pure (o_len_vwm rfl) ?_
    | refine wG_pure (o_not_d rfl) ?_
    | refine wG_p rfl (by first | exact rfl | omega) ?_
    | refine wG_pure (o_not rfl) ?_
    | refine wG_pure (e_ia_vwi rfl rfl (by omega) rfl) ?_
    | refine wG_pure (e_ia_vwn rfl rfl (by omega) (by omega) rfl) ?_
    | refine wG_n rfl rfl ?_
    | refine wG_u rfl rfl ?_
    | refine wG_new (o_mks rfl rfl (by omega) (by decide)) ?_) | (refine wG_gd rfl (fun hgt => ?_) (fun hgf => ?_) <;> (first | simp only [eq_true hgt, decide_true] | simp only [eq_false hgf, decide_false])) | refine wC_cond_d rfl (fun hg => ?_) (fun hg => ?_))
    · omega
    · refine ret_intE (.inr rfl) ⟨_, retV_mv rfl, ?_⟩
      unfold rnd; rw [if_neg hn]

theorem con67p {n d : Int} (h1 : 0 ≤ n) (h2 : n ≤ 4000000) (h3 : 1 ≤ d) (h4 : d ≤ 1000) : Con Try.prog 67 true [.int .i64 n, .int .i64 d] (.int .i64 (rnd n d)) [] := by
  refine con_of_wp mixed fun67 (by simp) [] plain_nil ?_
  unfold ac67 ro67
  simp only [zipT]
  have hb := tdiv_b (a := 2 * n + d) (b := 2 * d) (m := 8001000) (by omega) (by omega) (by omega)
  repeat (first
    | refine wC_a rfl ?_
    | refine q_s rfl ?_
    | refine q_b rfl ?_
    | refine wG_nil ?_
    | refine wG_g rfl ?_
    | refine wG_pure (o_len_vwm rfl) ?_
    | refine wG_pure (o_not_d rfl) ?_
    | refine wG_p rfl (by first | exact rfl | omega) ?_
    | refine wG_pure (o_not rfl) ?_
    | refine wG_pure (e_ia_vwi rfl rfl (by omega) rfl) ?_
    | refine wG_pure (e_ia_vwn rfl rfl (by omega) (by omega) rfl) ?_
    | refine wG_n rfl rfl ?_
    | refine wG_u rfl rfl ?_
    | refine wG_new (o_mks rfl rfl (by omega) (by decide)) ?_)
  refine wC_cond_d rfl (fun h5 => ?_) (fun h5 => ?_)
  · omega
  repeat' (first | refine wG_pure (o_quo rfl rfl (by omega) (by omega) (by omega)) ?_ | (first
    | refine wC_a rfl ?_
    | refine q_s rfl ?_
    | refine q_b rfl ?_
    | refine wG_nil ?_
    | refine wG_g rfl ?_
    | refine wG_pure (o_len_vwm rfl) ?_
    | refine wG_pure (o_not_d rfl) ?_
    | refine wG_p rfl (by first | exact rfl | omega) ?_
    | refine wG_pure (o_not rfl) ?_
    | refine wG_pure (e_ia_vwi rfl rfl (by omega) rfl) ?_
    | refine wG_pure (e_ia_vwn rfl rfl (by omega) (by omega) rfl) ?_
    | refine wG_n rfl rfl ?_
    | refine wG_u rfl rfl ?_
    | refine wG_new (o_mks rfl rfl (by omega) (by decide)) ?_))
  refine ret_intE (.inr rfl) ⟨_, retV_mv rfl, ?_⟩
  unfold rnd; rw [if_neg (by omega)]
theorem con67 {n d : Int} (h1 : -4000000 ≤ n) (h2 : n ≤ 4000000) (h3 : 1 ≤ d) (h4 : d ≤ 1000) : Con Try.prog 67 true [.int .i64 n, .int .i64 d] (.int .i64 (rnd n d)) [] := by
  by_cases hn : n < 0
  · refine con_of_wp mixed fun67 (by simp) [] plain_nil ?_
    unfold ac67 ro67
    simp only [zipT]
    have hb := rnd_b (n := -n) (d := d) (by omega) (by omega) h3 h4
    repeat (first
    | refine wC_a rfl ?_
    | refine q_s rfl ?_
    | refine q_b rfl ?_
    | refine wG_nil ?_
    | refine wG_g rfl ?_
    | refine wG_pure (o_len_vwm rfl) ?_
    | refine wG_pure (o_not_d rfl) ?_
    | refine wG_p rfl (by first | exact rfl | omega) ?_
    | refine wG_pure (o_not rfl) ?_
    | refine wG_pure (e_ia_vwi rfl rfl (by omega) rfl) ?_
    | refine wG_pure (e_ia_vwn rfl rfl (by omega) (by omega) rfl) ?_
    | refine wG_n rfl rfl ?_
    | refine wG_u rfl rfl ?_
    | refine wG_new (o_mks rfl rfl (by omega) (by decide)) ?_)
    refine wC_cond_d rfl (fun h5 => ?_) (fun h5 => ?_)
    · repeat' (first | refine wG_call (con67p (n := -n) (d := d) (by omega) (by omega) h3 h4) rfl rfl ?_ | (first
    | refine wC_a rfl ?_
    | refine q_s rfl ?_
    | refine q_b rfl ?_
    | refine wG_nil ?_
    | refine wG_g rfl ?_
    | refine wG_pure (o_len_vwm rfl) ?_
    | refine wG_pure (o_not_d rfl) ?_
    | refine wG_p rfl (by first | exact rfl | omega) ?_
    | refine wG_pure (o_not rfl) ?_
    | refine wG_pure (e_ia_vwi rfl rfl (by omega) rfl) ?_
    | refine wG_pure (e_ia_vwn rfl rfl (by omega) (by omega) rfl) ?_
    | refine wG_n rfl rfl ?_
    | refine wG_u rfl rfl ?_
    | refine wG_new (o_mks rfl rfl (by omega) (by decide)) ?_))
      refine ret_intE (.inr rfl) ⟨_, retV_mv rfl, ?_⟩
      unfold rnd; rw [if_pos hn, if_neg (by omega)]
      congr 2; omega
    · omega
  · exact con67p (by omega) h2 h3 h4

/-! ### The place of a year -/
def ixF (xs : List CP) (year : Int) : Nat → Nat → Nat
  | 0, i => i
  | f + 1, i => if yr xs i < year then ixF xs year f (i + 1) else i
def ix (xs : List CP) (year : Int) : Nat := ixF xs year (xs.length - 2) 1
theorem ixF_step {xs : List CP} {year : Int} {i : Nat} (h : i < xs.length - 1) (hy : yr xs i < year) : ixF xs year (xs.length - 1 - i) i = ixF xs year (xs.length - 1 - (i + 1)) (i + 1) := by
  rw [show xs.length - 1 - i = (xs.length - 1 - (i + 1)) + 1 by omega]
  simp only [ixF]
  rw [if_pos hy]
theorem ixF_stop {xs : List CP} {year : Int} (f i : Nat) (hy : ¬ yr xs i < year) : ixF xs year f i = i := by
  cases f with
  | zero => rfl
  | succ f => simp only [ixF]; rw [if_neg hy]

theorem Good.at {xs : List CP} (h : Good xs) {i : Nat} (hi : i < xs.length) : (-20000 ≤ yr xs i ∧ yr xs i ≤ 2100) ∧ (0 ≤ (xs.getD i default).a ∧ (xs.getD i default).a ≤ 60000) ∧ (0 ≤ (xs.getD i default).e ∧ (xs.getD i default).e ≤ 1000) := by
  have := h.2.1 i hi
  unfold okAt at this
  exact ⟨this.1, this.2.1, this.2.2.1⟩
theorem Good.gap {xs : List CP} (h : Good xs) {i : Nat} (hi : i < xs.length) (h0 : 0 < i) : 1 ≤ yr xs i - yr xs (i - 1) ∧ yr xs i - yr xs (i - 1) ≤ 50 := by
  have := h.2.1 i hi
  unfold okAt at this
  exact this.2.2.2 h0
theorem mul_b {a b A B : Int} (h1 : -A ≤ a) (h2 : a ≤ A) (h3 : 0 ≤ b) (h4 : b ≤ B) : -(A * B) ≤ a * b ∧ a * b ≤ A * B := by
  have hA : 0 ≤ A := by omega
  constructor
  · have e1 : A * b ≤ A * B := Int.mul_le_mul_of_nonneg_left h4 hA
    have e2 : -A * b ≤ a * b := Int.mul_le_mul_of_nonneg_right h1 h3
    have e3 : -A * b = -(A * b) := Int.neg_mul _ _
    omega
  · exact Int.le_trans (Int.mul_le_mul_of_nonneg_right h2 h3) (Int.mul_le_mul_of_nonneg_left h4 hA)
/-- What the curve says of a year. -/
def ageAt (xs : List CP) (year : Int) : Int := (xs.getD (ix xs year - 1) default).a + rnd (((xs.getD (ix xs year) default).a - (xs.getD (ix xs year - 1) default).a) * (year - yr xs (ix xs year - 1))) (yr xs (ix xs year) - yr xs (ix xs year - 1))
def errAt (xs : List CP) (year : Int) : Int := (xs.getD (ix xs year - 1) default).e + rnd (((xs.getD (ix xs year) default).e - (xs.getD (ix xs year - 1) default).e) * (year - yr xs (ix xs year - 1))) (yr xs (ix xs year) - yr xs (ix xs year - 1))
def inYears (xs : List CP) (year : Int) : Prop := yr xs 0 ≤ year ∧ year ≤ yr xs (xs.length - 1)
instance (xs : List CP) (year : Int) : Decidable (inYears xs year) := by unfold inYears; infer_instance

theorem con57 (nn : Bool) (xs : List CP) (hg : Good xs) (year : Int) : Con Try.prog 57 true [.vw nn (xs.map cpRow), .int .i64 year] (.bool (decide (inYears xs year))) [] := by
  refine con_of_wp mixed fun57 (by simp) [] plain_nil ?_
  unfold ac57 ro57
  simp only [zipT]
  have h2 := hg.1
  have hpe : ((xs.length : Int) - 1).toNat = xs.length - 1 := by omega
  repeat (first | refine wG_call (con27 _ _ _) rfl rfl ?_ | (first
    | refine wC_a rfl ?_
    | refine q_s rfl ?_
    | refine q_b rfl ?_
    | refine wG_nil ?_
    | refine wG_g rfl ?_
    | refine wG_pure (o_len_vwm rfl) ?_
    | refine wG_pure (o_not_d rfl) ?_
    | refine wG_p rfl (by first | exact rfl | omega) ?_
    | refine wG_pure (o_not rfl) ?_
    | refine wG_pure (e_ia_vwi rfl rfl (by omega) rfl) ?_
    | refine wG_pure (e_ia_vwn rfl rfl (by omega) (by omega) rfl) ?_
    | refine wG_n rfl rfl ?_
    | refine wG_u rfl rfl ?_
    | refine wG_new (o_mks rfl rfl (by omega) (by decide)) ?_))
  refine ret_boolE (.inr rfl) ⟨_, retV_mv rfl, ?_⟩
  simp only [hpe]
  rfl
theorem con41 (nn : Bool) (xs : List CP) (hg : Good xs) : Con Try.prog 41 true [.vw nn (xs.map cpRow)] (.tup [.int .i64 (yr xs 0), .int .i64 (yr xs (xs.length - 1))]) [] := by
  refine con_of_wp mixed fun41 (by simp) [] plain_nil ?_
  unfold ac41 ro41
  simp only [zipT]
  have h2 := hg.1
  have hpe : ((xs.length : Int) - 1).toNat = xs.length - 1 := by omega
  repeat (first
    | refine wC_a rfl ?_
    | refine q_s rfl ?_
    | refine q_b rfl ?_
    | refine wG_nil ?_
    | refine wG_g rfl ?_
    | refine wG_pure (o_len_vwm rfl) ?_
    | refine wG_pure (o_not_d rfl) ?_
    | refine wG_p rfl (by first | exact rfl | omega) ?_
    | refine wG_pure (o_not rfl) ?_
    | refine wG_pure (e_ia_vwi rfl rfl (by omega) rfl) ?_
    | refine wG_pure (e_ia_vwn rfl rfl (by omega) (by omega) rfl) ?_
    | refine wG_n rfl rfl ?_
    | refine wG_u rfl rfl ?_
    | refine wG_new (o_mks rfl rfl (by omega) (by decide)) ?_)
  refine ret_2 (.inr rfl) rfl rfl ⟨_, _, retV_mv rfl, retV_mv rfl, rfl, ?_⟩
  simp only [hpe]
  rfl

theorem con58 (nn : Bool) (xs : List CP) (hg : Good xs) (year : Int) (hy : inYears xs year) : Con Try.prog 58 true [.vw nn (xs.map cpRow), .int .i64 year] (.tup [.int .i64 (ageAt xs year), .int .i64 (errAt xs year)]) [] := by
  refine con_of_wp mixed fun58 (by simp) [] plain_nil ?_
  unfold ac58 ro58
  simp only [zipT]
  have h2 := hg.1
  repeat (first
    | refine wC_a rfl ?_
    | refine q_s rfl ?_
    | refine q_b rfl ?_
    | refine wG_nil ?_
    | refine wG_g rfl ?_
    | refine wG_pure (o_len_vwm rfl) ?_
    | refine wG_pure (o_not_d rfl) ?_
    | refine wG_p rfl (by first | exact rfl | omega) ?_
    | refine wG_pure (o_not rfl) ?_
    | refine wG_pure (e_ia_vwi rfl rfl (by omega) rfl) ?_
    | refine wG_pure (e_ia_vwn rfl rfl (by omega) (by omega) rfl) ?_
    | refine wG_n rfl rfl ?_
    | refine wG_u rfl rfl ?_
    | refine wG_new (o_mks rfl rfl (by omega) (by decide)) ?_)
  refine wC_loop Nat (fun i => ⟨[(0, .vw nn (xs.map cpRow)), (1, .int .i64 year), (6, .int .i64 (i : Int))], [], 0⟩) (fun i => (1 ≤ i ∧ i < xs.length) ∧ (1 < i → yr xs (i - 1) < year) ∧ ixF xs year (xs.length - 1 - i) i = ix xs year) (fun i => xs.length - i) 1 ⟨by omega, by omega, rfl⟩ ?_ (fun _ _ => Nat.le_refl _) ?_
  · simp [LeP, leT, leH, lk, AV.ltr]
  rintro i ⟨⟨hi1, hi2⟩, hi3, hi4⟩
  repeat (first
    | refine wC_a rfl ?_
    | refine q_s rfl ?_
    | refine q_b rfl ?_
    | refine wG_nil ?_
    | refine wG_g rfl ?_
    | refine wG_pure (o_len_vwm rfl) ?_
    | refine wG_pure (o_not_d rfl) ?_
    | refine wG_p rfl (by first | exact rfl | omega) ?_
    | refine wG_pure (o_not rfl) ?_
    | refine wG_pure (e_ia_vwi rfl rfl (by omega) rfl) ?_
    | refine wG_pure (e_ia_vwn rfl rfl (by omega) (by omega) rfl) ?_
    | refine wG_n rfl rfl ?_
    | refine wG_u rfl rfl ?_
    | refine wG_new (o_mks rfl rfl (by omega) (by decide)) ?_)
  refine wC_cond_d rfl (fun h3 => ?_) (fun h3 => ?_)
  · have hne : i < xs.length - 1 := by
      rcases Nat.lt_or_ge i (xs.length - 1) with h | h
      · exact h
      · have he : i = xs.length - 1 := by omega
        subst he
        have := hy.2
        unfold yr at this
        omega
    repeat (first
    | refine wC_a rfl ?_
    | refine q_s rfl ?_
    | refine q_b rfl ?_
    | refine wG_nil ?_
    | refine wG_g rfl ?_
    | refine wG_pure (o_len_vwm rfl) ?_
    | refine wG_pure (o_not_d rfl) ?_
    | refine wG_p rfl (by first | exact rfl | omega) ?_
    | refine wG_pure (o_not rfl) ?_
    | refine wG_pure (e_ia_vwi rfl rfl (by omega) rfl) ?_
    | refine wG_pure (e_ia_vwn rfl rfl (by omega) (by omega) rfl) ?_
    | refine wG_n rfl rfl ?_
    | refine wG_u rfl rfl ?_
    | refine wG_new (o_mks rfl rfl (by omega) (by decide)) ?_)
    exact ⟨i + 1, ⟨⟨by omega, by omega⟩, fun _ => h3, by rw [← ixF_step hne h3]; exact hi4⟩, by omega, by simp [LeP, leT, leH, lk, AV.ltr]⟩
  · have hix : ix xs year = i := by rw [← hi4]; exact ixF_stop _ _ h3
    have hpe : ((i : Int) - 1).toNat = i - 1 := by omega
    have g1 := hg.at hi2
    have g0 := hg.at (i := i - 1) (by omega)
    have gg := hg.gap hi2 (by omega)
    have hn0 : 0 ≤ year - yr xs (i - 1) ∧ year - yr xs (i - 1) ≤ 50 := by
      have hyi : year ≤ yr xs i := by unfold yr; omega
      rcases Nat.lt_or_ge 1 i with h | h
      · have := hi3 h; omega
      · have he : i = 1 := by omega
        subst he
        have := hy.1
        simp only [Nat.sub_self] at *
        omega
    have b1 := mul_b (a := (xs.getD i default).a - (xs.getD (i - 1) default).a) (b := year - yr xs (i - 1)) (A := 60000) (B := 50) (by omega) (by omega) hn0.1 hn0.2
    have b2 := mul_b (a := (xs.getD i default).e - (xs.getD (i - 1) default).e) (b := year - yr xs (i - 1)) (A := 1000) (B := 50) (by omega) (by omega) hn0.1 hn0.2
    have r1 := rnd_b (n := ((xs.getD i default).a - (xs.getD (i - 1) default).a) * (year - yr xs (i - 1))) (d := yr xs i - yr xs (i - 1)) (by omega) (by omega) (by omega) (by omega)
    have r2 := rnd_b (n := ((xs.getD i default).e - (xs.getD (i - 1) default).e) * (year - yr xs (i - 1))) (d := yr xs i - yr xs (i - 1)) (by omega) (by omega) (by omega) (by omega)
    have ce := con66 (n := ((xs.getD i default).a - (xs.getD (i - 1) default).a) * (year - yr xs (i - 1))) (d := yr xs i - yr xs (i - 1)) (by omega) (by omega) (by omega) (by omega)
    have cf := con66 (n := ((xs.getD i default).e - (xs.getD (i - 1) default).e) * (year - yr xs (i - 1))) (d := yr xs i - yr xs (i - 1)) (by omega) (by omega) (by omega) (by omega)
    have hq : ageAt xs year = (xs.getD (i - 1) default).a + rnd (((xs.getD i default).a - (xs.getD (i - 1) default).a) * (year - yr xs (i - 1))) (yr xs i - yr xs (i - 1)) := by unfold ageAt; rw [hix]
    have hq2 : errAt xs year = (xs.getD (i - 1) default).e + rnd (((xs.getD i default).e - (xs.getD (i - 1) default).e) * (year - yr xs (i - 1))) (yr xs i - yr xs (i - 1)) := by unfold errAt; rw [hix]
    rw [hq, hq2]
    unfold yr at *
    simp only [← hpe] at *
    repeat (first | refine wG_call ce rfl rfl ?_ | refine wG_call cf rfl rfl ?_ | (first
    | refine wC_a rfl ?_
    | refine q_s rfl ?_
    | refine q_b rfl ?_
    | refine wG_nil ?_
    | refine wG_g rfl ?_
    | refine wG_pure (o_len_vwm rfl) ?_
    | refine wG_pure (o_not_d rfl) ?_
    | refine wG_p rfl (by first | exact rfl | omega) ?_
    | refine wG_pure (o_not rfl) ?_
    | refine wG_pure (e_ia_vwi rfl rfl (by omega) rfl) ?_
    | refine wG_pure (e_ia_vwn rfl rfl (by omega) (by omega) rfl) ?_
    | refine wG_n rfl rfl ?_
    | refine wG_u rfl rfl ?_
    | refine wG_new (o_mks rfl rfl (by omega) (by decide)) ?_) | (first
    | refine wE_nil (by kernel_rfl) ?_
    | refine wE_gy rfl ?_
    | refine wE_gn rfl rfl rfl ?_
    | refine wE_gu rfl rfl ?_
    | refine wE_gnn rfl rfl rfl ?_
    | refine wE_v (o_len_vwm rfl) rfl ?_
    | refine wE_v (o_not_d rfl) rfl ?_
    | refine wE_p rfl (by first | exact rfl | omega) rfl ?_
    | refine wE_v (o_not rfl) rfl ?_
    | refine wE_v (e_ia_vwi rfl rfl (by omega) rfl) rfl ?_
    | refine wE_v (e_ia_vwn rfl rfl (by omega) (by omega) rfl) rfl ?_
    | refine wE_n rfl rfl rfl ?_
    | refine wE_u rfl rfl rfl ?_
    | refine wE_new (o_mks rfl rfl (by omega) (by decide)) rfl ?_))
    exact ret_2 (.inr rfl) rfl rfl ⟨_, _, retV_mv rfl, retV_mv rfl, rfl, rfl⟩
theorem con60 (nn : Bool) (xs : List CP) (hg : Good xs) (year : Int) (hy : inYears xs year) : Con Try.prog 60 true [.vw nn (xs.map cpRow), .int .i64 year] (.tup [.int .i64 (ageAt xs year), .int .i64 (errAt xs year)]) [] := by
  refine con_of_wp mixed fun60 (by simp) [] plain_nil ?_
  unfold ac60 ro60
  simp only [zipT]
  have h2 := hg.1
  repeat (first
    | refine wC_a rfl ?_
    | refine q_s rfl ?_
    | refine q_b rfl ?_
    | refine wG_nil ?_
    | refine wG_g rfl ?_
    | refine wG_pure (o_len_vwm rfl) ?_
    | refine wG_pure (o_not_d rfl) ?_
    | refine wG_p rfl (by first | exact rfl | omega) ?_
    | refine wG_pure (o_not rfl) ?_
    | refine wG_pure (e_ia_vwi rfl rfl (by omega) rfl) ?_
    | refine wG_pure (e_ia_vwn rfl rfl (by omega) (by omega) rfl) ?_
    | refine wG_n rfl rfl ?_
    | refine wG_u rfl rfl ?_
    | refine wG_new (o_mks rfl rfl (by omega) (by decide)) ?_)
  refine wC_loop Nat (fun i => ⟨[(0, .vw nn (xs.map cpRow)), (1, .int .i64 year), (6, .int .i64 (i : Int))], [], 0⟩) (fun i => (1 ≤ i ∧ i < xs.length) ∧ (1 < i → yr xs (i - 1) < year) ∧ ixF xs year (xs.length - 1 - i) i = ix xs year) (fun i => xs.length - i) 1 ⟨by omega, by omega, rfl⟩ ?_ (fun _ _ => Nat.le_refl _) ?_
  · simp [LeP, leT, leH, lk, AV.ltr]
  rintro i ⟨⟨hi1, hi2⟩, hi3, hi4⟩
  repeat (first
    | refine wC_a rfl ?_
    | refine q_s rfl ?_
    | refine q_b rfl ?_
    | refine wG_nil ?_
    | refine wG_g rfl ?_
    | refine wG_pure (o_len_vwm rfl) ?_
    | refine wG_pure (o_not_d rfl) ?_
    | refine wG_p rfl (by first | exact rfl | omega) ?_
    | refine wG_pure (o_not rfl) ?_
    | refine wG_pure (e_ia_vwi rfl rfl (by omega) rfl) ?_
    | refine wG_pure (e_ia_vwn rfl rfl (by omega) (by omega) rfl) ?_
    | refine wG_n rfl rfl ?_
    | refine wG_u rfl rfl ?_
    | refine wG_new (o_mks rfl rfl (by omega) (by decide)) ?_)
  refine wC_cond_d rfl (fun h3 => ?_) (fun h3 => ?_)
  · have hne : i < xs.length - 1 := by
      rcases Nat.lt_or_ge i (xs.length - 1) with h | h
      · exact h
      · have he : i = xs.length - 1 := by omega
        subst he
        have := hy.2
        unfold yr at this
        omega
    repeat (first
    | refine wC_a rfl ?_
    | refine q_s rfl ?_
    | refine q_b rfl ?_
    | refine wG_nil ?_
    | refine wG_g rfl ?_
    | refine wG_pure (o_len_vwm rfl) ?_
    | refine wG_pure (o_not_d rfl) ?_
    | refine wG_p rfl (by first | exact rfl | omega) ?_
    | refine wG_pure (o_not rfl) ?_
    | refine wG_pure (e_ia_vwi rfl rfl (by omega) rfl) ?_
    | refine wG_pure (e_ia_vwn rfl rfl (by omega) (by omega) rfl) ?_
    | refine wG_n rfl rfl ?_
    | refine wG_u rfl rfl ?_
    | refine wG_new (o_mks rfl rfl (by omega) (by decide)) ?_)
    exact ⟨i + 1, ⟨⟨by omega, by omega⟩, fun _ => h3, by rw [← ixF_step hne h3]; exact hi4⟩, by omega, by simp [LeP, leT, leH, lk, AV.ltr]⟩
  · have hix : ix xs year = i := by rw [← hi4]; exact ixF_stop _ _ h3
    have hpe : ((i : Int) - 1).toNat = i - 1 := by omega
    have g1 := hg.at hi2
    have g0 := hg.at (i := i - 1) (by omega)
    have gg := hg.gap hi2 (by omega)
    have hn0 : 0 ≤ year - yr xs (i - 1) ∧ year - yr xs (i - 1) ≤ 50 := by
      have hyi : year ≤ yr xs i := by unfold yr; omega
      rcases Nat.lt_or_ge 1 i with h | h
      · have := hi3 h; omega
      · have he : i = 1 := by omega
        subst he
        have := hy.1
        simp only [Nat.sub_self] at *
        omega
    have b1 := mul_b (a := (xs.getD i default).a - (xs.getD (i - 1) default).a) (b := year - yr xs (i - 1)) (A := 60000) (B := 50) (by omega) (by omega) hn0.1 hn0.2
    have b2 := mul_b (a := (xs.getD i default).e - (xs.getD (i - 1) default).e) (b := year - yr xs (i - 1)) (A := 1000) (B := 50) (by omega) (by omega) hn0.1 hn0.2
    have r1 := rnd_b (n := ((xs.getD i default).a - (xs.getD (i - 1) default).a) * (year - yr xs (i - 1))) (d := yr xs i - yr xs (i - 1)) (by omega) (by omega) (by omega) (by omega)
    have r2 := rnd_b (n := ((xs.getD i default).e - (xs.getD (i - 1) default).e) * (year - yr xs (i - 1))) (d := yr xs i - yr xs (i - 1)) (by omega) (by omega) (by omega) (by omega)
    have ce := con67 (n := ((xs.getD i default).a - (xs.getD (i - 1) default).a) * (year - yr xs (i - 1))) (d := yr xs i - yr xs (i - 1)) (by omega) (by omega) (by omega) (by omega)
    have cf := con67 (n := ((xs.getD i default).e - (xs.getD (i - 1) default).e) * (year - yr xs (i - 1))) (d := yr xs i - yr xs (i - 1)) (by omega) (by omega) (by omega) (by omega)
    have hq : ageAt xs year = (xs.getD (i - 1) default).a + rnd (((xs.getD i default).a - (xs.getD (i - 1) default).a) * (year - yr xs (i - 1))) (yr xs i - yr xs (i - 1)) := by unfold ageAt; rw [hix]
    have hq2 : errAt xs year = (xs.getD (i - 1) default).e + rnd (((xs.getD i default).e - (xs.getD (i - 1) default).e) * (year - yr xs (i - 1))) (yr xs i - yr xs (i - 1)) := by unfold errAt; rw [hix]
    rw [hq, hq2]
    unfold yr at *
    simp only [← hpe] at *
    repeat (first | refine wG_call ce rfl rfl ?_ | refine wG_call cf rfl rfl ?_ | (first
    | refine wC_a rfl ?_
    | refine q_s rfl ?_
    | refine q_b rfl ?_
    | refine wG_nil ?_
    | refine wG_g rfl ?_
    | refine wG_pure (o_len_vwm rfl) ?_
    | refine wG_pure (o_not_d rfl) ?_
    | refine wG_p rfl (by first | exact rfl | omega) ?_
    | refine wG_pure (o_not rfl) ?_
    | refine wG_pure (e_ia_vwi rfl rfl (by omega) rfl) ?_
    | refine wG_pure (e_ia_vwn rfl rfl (by omega) (by omega) rfl) ?_
    | refine wG_n rfl rfl ?_
    | refine wG_u rfl rfl ?_
    | refine wG_new (o_mks rfl rfl (by omega) (by decide)) ?_) | (first
    | refine wE_nil (by kernel_rfl) ?_
    | refine wE_gy rfl ?_
    | refine wE_gn rfl rfl rfl ?_
    | refine wE_gu rfl rfl ?_
    | refine wE_gnn rfl rfl rfl ?_
    | refine wE_v (o_len_vwm rfl) rfl ?_
    | refine wE_v (o_not_d rfl) rfl ?_
    | refine wE_p rfl (by first | exact rfl | omega) rfl ?_
    | refine wE_v (o_not rfl) rfl ?_
    | refine wE_v (e_ia_vwi rfl rfl (by omega) rfl) rfl ?_
    | refine wE_v (e_ia_vwn rfl rfl (by omega) (by omega) rfl) rfl ?_
    | refine wE_n rfl rfl rfl ?_
    | refine wE_u rfl rfl rfl ?_
    | refine wE_new (o_mks rfl rfl (by omega) (by decide)) rfl ?_))
    exact ret_2 (.inr rfl) rfl rfl ⟨_, _, retV_mv rfl, retV_mv rfl, rfl, rfl⟩
end Go.Proofs.Ytkkcplcgafndgaa
