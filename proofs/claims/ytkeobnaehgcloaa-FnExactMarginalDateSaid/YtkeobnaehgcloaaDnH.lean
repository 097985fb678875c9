/- How many datings there are, and the chance of an order: both sides. -/
import Derived.Test.YtkeobnaehgcloaaDnG
namespace Go.Proofs.Ytkeobnaehgcloaa.Dst
open Go Go.Proofs.Ytkeobnaehgcloaa.Ab Go.Proofs.Ytkeobnaehgcloaa.Il Go.Proofs.Ytkeobnaehgcloaa.Rec
attribute [local irreducible] wpO wpC wpDr wpQ wpG wpE stepA seqQ blkQ Ret RetG ev
set_option maxRecDepth 10000
set_option maxHeartbeats 8000000
set_option linter.unusedSimpArgs false
set_option linter.unusedVariables false

def ac29 : AC := (.seq (.reg [⟨(some 1), none, (.box 3 true (.t 0))⟩, ⟨(some 2), none, (.mv (.c (.int .i64 0)))⟩, ⟨(some 3), none, (.mv (.c (.int .i64 0)))⟩, ⟨(some 4), none, (.mv (.c (.bool false)))⟩]) (.seq (.seq (.reg [⟨(some 9), none, (.ld true 3 (.t 1))⟩, ⟨(some 10), none, (.call 47 [(.t 9)])⟩, ⟨(some 11), none, (.un .not (.t 10))⟩]) (.cond (.t 11) (.seq (.reg [⟨(some 2), none, (.mv (.c (.int .i64 0)))⟩, ⟨(some 3), none, (.mv (.c (.int .i64 0)))⟩, ⟨(some 4), none, (.mv (.c (.bool false)))⟩]) .ret) .skip)) (.seq (.reg [⟨(some 5), none, (.mv (.c (.int .i64 0)))⟩, ⟨(some 6), none, (.mv (.c (.int .i64 0)))⟩]) (.seq (.seq (.reg [⟨(some 7), none, (.mv (.c (.int .i64 0)))⟩]) (.blk 0 (.loop (.seq (.seq (.reg [⟨(some 12), none, (.mv (.t 7))⟩, ⟨(some 13), none, (.ld true 3 (.t 1))⟩, ⟨(some 14), none, (.call 67 [(.t 13)])⟩, ⟨(some 15), none, (.bin .lss (.t 12) (.t 14))⟩]) (.cond (.t 15) .skip (.exit 0))) (.seq (.blk 1 (.seq (.dreg [⟨(some 18), none, (.ld true 3 (.t 1))⟩, ⟨(some 19), none, (.ld true 3 (.t 1))⟩, ⟨(some 20), none, (.mv (.t 7))⟩, ⟨(some 21), none, (.call 68 [(.t 19), (.t 20)])⟩, ⟨(some 22), none, (.call 65 [(.t 18), (.t 21)])⟩, ⟨(some 8), none, (.mv (.t 22))⟩] [[], [], [], [1, 2], [0, 1, 2, 3], [0, 1, 2, 3, 4]]) (.seq (.reg [⟨(some 23), none, (.mv (.t 8))⟩, ⟨(some 24), none, (.bin .gtr (.t 23) (.c (.int .i64 0)))⟩]) (.cond (.t 24) (.seq (.reg [⟨(some 25), none, (.mv (.t 5))⟩, ⟨(some 26), none, (.bin .add (.t 25) (.c (.int .i64 1)))⟩, ⟨(some 5), none, (.mv (.t 26))⟩]) (.reg [⟨(some 27), none, (.mv (.t 6))⟩, ⟨(some 28), none, (.mv (.t 8))⟩, ⟨(some 29), none, (.bin .add (.t 27) (.t 28))⟩, ⟨(some 6), none, (.mv (.t 29))⟩])) .skip)))) (.reg [⟨(some 16), none, (.mv (.t 7))⟩, ⟨(some 17), none, (.bin .add (.t 16) (.c (.int .i64 1)))⟩, ⟨(some 7), none, (.mv (.t 17))⟩])))))) (.seq (.reg [⟨(some 30), none, (.mv (.t 5))⟩, ⟨(some 31), none, (.mv (.t 6))⟩, ⟨(some 2), none, (.mv (.t 30))⟩, ⟨(some 3), none, (.mv (.t 31))⟩, ⟨(some 4), none, (.mv (.c (.bool true)))⟩]) .ret)))))
def ro29 : List AOp := [(.mv (.t 2)), (.mv (.t 3)), (.mv (.t 4))]
theorem fun29 : Fun Try.prog 29 32 ac29 ro29 := ⟨Try.f29, _, Try.func29, by kernel_rfl, rfl, rfl, by kernel_rfl, by kernel_rfl, by decide⟩
def ac30 : AC := (.seq (.reg [⟨(some 1), none, (.box 3 true (.t 0))⟩, ⟨(some 2), none, (.mv (.c (.int .i64 0)))⟩, ⟨(some 3), none, (.mv (.c (.int .i64 0)))⟩, ⟨(some 4), none, (.mv (.c (.bool false)))⟩]) (.seq (.seq (.reg [⟨(some 7), none, (.ld true 3 (.t 1))⟩, ⟨(some 8), none, (.call 24 [(.t 7)])⟩, ⟨(some 9), none, (.un .not (.t 8))⟩]) (.cond (.t 9) (.seq (.reg [⟨(some 2), none, (.mv (.c (.int .i64 0)))⟩, ⟨(some 3), none, (.mv (.c (.int .i64 0)))⟩, ⟨(some 4), none, (.mv (.c (.bool false)))⟩]) .ret) .skip)) (.seq (.reg [⟨(some 5), none, (.alloc [(.int .i64 0)])⟩, ⟨(some 6), none, (.alloc [(.int .i64 0)])⟩, ⟨none, none, (.st 1 (.t 5) (.c (.int .i64 0)))⟩, ⟨none, none, (.st 1 (.t 6) (.c (.int .i64 0)))⟩]) (.seq (.reg [⟨(some 10), none, (.ld true 3 (.t 1))⟩, ⟨(some 11), none, (.mkf 70 [(.t 5), (.t 6)])⟩, ⟨(some 12), none, (.call 69 [(.t 10), (.t 11)])⟩]) (.seq (.dreg [⟨(some 13), none, (.ld false 1 (.t 5))⟩, ⟨(some 14), none, (.ld false 1 (.t 6))⟩, ⟨(some 2), none, (.mv (.t 13))⟩, ⟨(some 3), none, (.mv (.t 14))⟩, ⟨(some 4), none, (.mv (.c (.bool true)))⟩] [[], [], [0], [0, 1, 2], [0, 1, 2, 3]]) .ret)))))
def ro30 : List AOp := [(.mv (.t 2)), (.mv (.t 3)), (.mv (.t 4))]
theorem fun30 : Fun Try.prog 30 15 ac30 ro30 := ⟨Try.f30, _, Try.func30, by kernel_rfl, rfl, rfl, by kernel_rfl, by kernel_rfl, by decide⟩
def ac31 : AC := (.seq (.reg [⟨(some 3), none, (.box 3 true (.t 0))⟩, ⟨(some 6), none, (.mv (.c (.int .i64 0)))⟩, ⟨(some 7), none, (.mv (.c (.int .i64 0)))⟩, ⟨(some 8), none, (.mv (.c (.bool false)))⟩]) (.seq (.dreg [⟨(some 16), none, (.fa 0 (.t 3))⟩, ⟨(some 17), none, (.ld true 2 (.t 16))⟩, ⟨(some 18), none, (.mv (.t 1))⟩, ⟨(some 19), none, (.call 48 [(.t 17), (.t 18)])⟩, ⟨(some 20), none, (.fa 0 (.t 3))⟩, ⟨(some 21), none, (.ld true 2 (.t 20))⟩, ⟨(some 22), none, (.mv (.t 2))⟩, ⟨(some 23), none, (.call 48 [(.t 21), (.t 22)])⟩, ⟨(some 9), none, (.mv (.t 19))⟩, ⟨(some 10), none, (.mv (.t 23))⟩] [[], [0], [], [0, 1, 2], [], [4], [], [0, 1, 2, 3, 4, 5, 6], [0, 1, 2, 3, 4, 5, 6, 7], [0, 1, 2, 3, 4, 5, 6, 7, 8]]) (.seq (.seq (.reg [⟨(some 24), none, (.ld true 3 (.t 3))⟩, ⟨(some 25), none, (.call 47 [(.t 24)])⟩, ⟨(some 26), none, (.un .not (.t 25))⟩, ⟨(some 27), none, (.mv (.t 26))⟩, ⟨(some 28), (some (27, false)), (.mv (.t 9))⟩, ⟨(some 29), (some (27, false)), (.bin .lss (.t 28) (.c (.int .i64 0)))⟩, ⟨(some 30), none, (.pick (.t 27) (.c (.bool true)) (.t 29))⟩, ⟨(some 31), none, (.mv (.t 30))⟩, ⟨(some 32), (some (31, false)), (.mv (.t 10))⟩, ⟨(some 33), (some (31, false)), (.bin .lss (.t 32) (.c (.int .i64 0)))⟩, ⟨(some 34), none, (.pick (.t 31) (.c (.bool true)) (.t 33))⟩]) (.cond (.t 34) (.seq (.reg [⟨(some 6), none, (.mv (.c (.int .i64 0)))⟩, ⟨(some 7), none, (.mv (.c (.int .i64 0)))⟩, ⟨(some 8), none, (.mv (.c (.bool false)))⟩]) .ret) .skip)) (.seq (.reg [⟨(some 11), none, (.mv (.c (.int .i64 0)))⟩, ⟨(some 12), none, (.mv (.c (.int .i64 0)))⟩]) (.seq (.seq (.reg [⟨(some 13), none, (.mv (.c (.int .i64 0)))⟩]) (.blk 0 (.loop (.seq (.seq (.reg [⟨(some 35), none, (.mv (.t 13))⟩, ⟨(some 36), none, (.ld true 3 (.t 3))⟩, ⟨(some 37), none, (.call 67 [(.t 36)])⟩, ⟨(some 38), none, (.bin .lss (.t 35) (.t 37))⟩]) (.cond (.t 38) .skip (.exit 0))) (.seq (.blk 1 (.seq (.reg [⟨(some 41), none, (.ld true 3 (.t 3))⟩, ⟨(some 42), none, (.mv (.t 13))⟩, ⟨(some 43), none, (.call 68 [(.t 41), (.t 42)])⟩, ⟨(some 14), none, (.mv (.t 43))⟩]) (.seq (.reg [⟨(some 44), none, (.ld true 3 (.t 3))⟩, ⟨(some 45), none, (.mv (.t 14))⟩, ⟨(some 46), none, (.call 65 [(.t 44), (.t 45)])⟩, ⟨(some 15), none, (.mv (.t 46))⟩]) (.seq (.reg [⟨(some 47), none, (.mv (.t 12))⟩, ⟨(some 48), none, (.mv (.t 15))⟩, ⟨(some 49), none, (.bin .add (.t 47) (.t 48))⟩, ⟨(some 12), none, (.mv (.t 49))⟩]) (.seq (.dreg [⟨(some 50), none, (.mv (.t 14))⟩, ⟨(some 51), none, (.mv (.t 9))⟩, ⟨(some 52), none, (.ia 1 (.t 50) (.t 51))⟩, ⟨(some 53), none, (.ld false 1 (.t 52))⟩, ⟨(some 54), none, (.mv (.t 14))⟩, ⟨(some 55), none, (.mv (.t 10))⟩, ⟨(some 56), none, (.ia 1 (.t 54) (.t 55))⟩, ⟨(some 57), none, (.ld false 1 (.t 56))⟩, ⟨(some 58), none, (.bin .lss (.t 53) (.t 57))⟩] [[], [], [0, 1], [0, 1, 2], [], [], [4, 5], [4, 5, 6], [0, 1, 2, 3, 4, 5, 6, 7]]) (.cond (.t 58) (.reg [⟨(some 59), none, (.mv (.t 11))⟩, ⟨(some 60), none, (.mv (.t 15))⟩, ⟨(some 61), none, (.bin .add (.t 59) (.t 60))⟩, ⟨(some 11), none, (.mv (.t 61))⟩]) .skip)))))) (.reg [⟨(some 39), none, (.mv (.t 13))⟩, ⟨(some 40), none, (.bin .add (.t 39) (.c (.int .i64 1)))⟩, ⟨(some 13), none, (.mv (.t 40))⟩])))))) (.seq (.reg [⟨(some 62), none, (.mv (.t 11))⟩, ⟨(some 63), none, (.mv (.t 12))⟩, ⟨(some 6), none, (.mv (.t 62))⟩, ⟨(some 7), none, (.mv (.t 63))⟩, ⟨(some 8), none, (.mv (.c (.bool true)))⟩]) .ret))))))
def ro31 : List AOp := [(.mv (.t 6)), (.mv (.t 7)), (.mv (.t 8))]
theorem fun31 : Fun Try.prog 31 64 ac31 ro31 := ⟨Try.f31, _, Try.func31, by kernel_rfl, rfl, rfl, by kernel_rfl, by kernel_rfl, by decide⟩
def ac32 : AC := (.seq (.reg [⟨(some 3), none, (.box 3 true (.t 0))⟩, ⟨(some 6), none, (.mv (.c (.int .i64 0)))⟩, ⟨(some 7), none, (.mv (.c (.int .i64 0)))⟩, ⟨(some 8), none, (.mv (.c (.bool false)))⟩]) (.seq (.seq (.reg [⟨(some 13), none, (.ld true 3 (.t 3))⟩, ⟨(some 14), none, (.call 24 [(.t 13)])⟩, ⟨(some 15), none, (.un .not (.t 14))⟩, ⟨(some 16), none, (.mv (.t 15))⟩, ⟨(some 17), (some (16, false)), (.fa 0 (.t 3))⟩, ⟨(some 18), (some (16, false)), (.ld true 2 (.t 17))⟩, ⟨(some 19), (some (16, false)), (.mv (.t 1))⟩, ⟨(some 20), (some (16, false)), (.call 53 [(.t 18), (.t 19)])⟩, ⟨(some 21), (some (16, false)), (.bin .lss (.t 20) (.c (.int .i64 0)))⟩, ⟨(some 22), none, (.pick (.t 16) (.c (.bool true)) (.t 21))⟩, ⟨(some 23), none, (.mv (.t 22))⟩, ⟨(some 24), (some (23, false)), (.fa 0 (.t 3))⟩, ⟨(some 25), (some (23, false)), (.ld true 2 (.t 24))⟩, ⟨(some 26), (some (23, false)), (.mv (.t 2))⟩, ⟨(some 27), (some (23, false)), (.call 53 [(.t 25), (.t 26)])⟩, ⟨(some 28), (some (23, false)), (.bin .lss (.t 27) (.c (.int .i64 0)))⟩, ⟨(some 29), none, (.pick (.t 23) (.c (.bool true)) (.t 28))⟩]) (.cond (.t 29) (.seq (.reg [⟨(some 6), none, (.mv (.c (.int .i64 0)))⟩, ⟨(some 7), none, (.mv (.c (.int .i64 0)))⟩, ⟨(some 8), none, (.mv (.c (.bool false)))⟩]) .ret) .skip)) (.seq (.dreg [⟨(some 30), none, (.fa 0 (.t 3))⟩, ⟨(some 31), none, (.ld true 2 (.t 30))⟩, ⟨(some 32), none, (.mv (.t 1))⟩, ⟨(some 33), none, (.call 53 [(.t 31), (.t 32)])⟩, ⟨(some 34), none, (.fa 0 (.t 3))⟩, ⟨(some 35), none, (.ld true 2 (.t 34))⟩, ⟨(some 36), none, (.mv (.t 2))⟩, ⟨(some 37), none, (.call 53 [(.t 35), (.t 36)])⟩, ⟨(some 9), none, (.alloc [(.int .i64 0)])⟩, ⟨(some 10), none, (.alloc [(.int .i64 0)])⟩, ⟨none, none, (.st 1 (.t 9) (.t 33))⟩, ⟨none, none, (.st 1 (.t 10) (.t 37))⟩] [[], [0], [], [0, 1, 2], [], [4], [], [0, 1, 2, 3, 4, 5, 6], [], [], [0, 1, 2, 3, 4, 5, 6, 7, 8, 9], [0, 1, 2, 3, 4, 5, 6, 7, 8, 9, 10]]) (.seq (.reg [⟨(some 11), none, (.alloc [(.int .i64 0)])⟩, ⟨(some 12), none, (.alloc [(.int .i64 0)])⟩, ⟨none, none, (.st 1 (.t 11) (.c (.int .i64 0)))⟩, ⟨none, none, (.st 1 (.t 12) (.c (.int .i64 0)))⟩]) (.seq (.reg [⟨(some 38), none, (.ld true 3 (.t 3))⟩, ⟨(some 39), none, (.mkf 71 [(.t 12), (.t 9), (.t 10), (.t 11)])⟩, ⟨(some 40), none, (.call 69 [(.t 38), (.t 39)])⟩]) (.seq (.dreg [⟨(some 41), none, (.ld false 1 (.t 11))⟩, ⟨(some 42), none, (.ld false 1 (.t 12))⟩, ⟨(some 6), none, (.mv (.t 41))⟩, ⟨(some 7), none, (.mv (.t 42))⟩, ⟨(some 8), none, (.mv (.c (.bool true)))⟩] [[], [], [0], [0, 1, 2], [0, 1, 2, 3]]) .ret))))))
def ro32 : List AOp := [(.mv (.t 6)), (.mv (.t 7)), (.mv (.t 8))]
theorem fun32 : Fun Try.prog 32 43 ac32 ro32 := ⟨Try.f32, _, Try.func32, by kernel_rfl, rfl, rfl, by kernel_rfl, by kernel_rfl, by decide⟩
def ac70 : AC := (.seq (.reg [⟨(some 6), none, (.ld false 1 (.t 2))⟩, ⟨(some 7), none, (.bin .add (.t 6) (.c (.int .i64 1)))⟩, ⟨none, none, (.st 1 (.t 2) (.t 7))⟩]) (.reg [⟨(some 8), none, (.ld false 1 (.t 3))⟩, ⟨(some 9), none, (.mv (.t 1))⟩, ⟨(some 10), none, (.bin .add (.t 8) (.t 9))⟩, ⟨none, none, (.st 1 (.t 3) (.t 10))⟩]))
def ro70 : List AOp := []
theorem fun70 : Fun Try.prog 70 11 ac70 ro70 := ⟨Try.f70, _, Try.func70, by kernel_rfl, rfl, rfl, by kernel_rfl, by kernel_rfl, by decide⟩
def ac71 : AC := (.seq (.reg [⟨(some 8), none, (.ld false 1 (.t 2))⟩, ⟨(some 9), none, (.mv (.t 1))⟩, ⟨(some 10), none, (.bin .add (.t 8) (.t 9))⟩, ⟨none, none, (.st 1 (.t 2) (.t 10))⟩]) (.seq (.dreg [⟨(some 11), none, (.mv (.t 0))⟩, ⟨(some 12), none, (.ld false 1 (.t 3))⟩, ⟨(some 13), none, (.ia 1 (.t 11) (.t 12))⟩, ⟨(some 14), none, (.ld false 1 (.t 13))⟩, ⟨(some 15), none, (.mv (.t 0))⟩, ⟨(some 16), none, (.ld false 1 (.t 4))⟩, ⟨(some 17), none, (.ia 1 (.t 15) (.t 16))⟩, ⟨(some 18), none, (.ld false 1 (.t 17))⟩, ⟨(some 19), none, (.bin .lss (.t 14) (.t 18))⟩] [[], [], [0, 1], [0, 1, 2], [], [], [4, 5], [4, 5, 6], [0, 1, 2, 3, 4, 5, 6, 7]]) (.cond (.t 19) (.reg [⟨(some 20), none, (.ld false 1 (.t 5))⟩, ⟨(some 21), none, (.mv (.t 1))⟩, ⟨(some 22), none, (.bin .add (.t 20) (.t 21))⟩, ⟨none, none, (.st 1 (.t 5) (.t 22))⟩]) .skip)))
def ro71 : List AOp := []
theorem fun71 : Fun Try.prog 71 23 ac71 ro71 := ⟨Try.f71, _, Try.func71, by kernel_rfl, rfl, rfl, by kernel_rfl, by kernel_rfl, by decide⟩

theorem o_addw {T : Nat → AV} {H : Nat → Option Ab.Rows} {nr : Nat} {x y : AX} {a b : Int} (h1 : gT T x = .int .i64 a) (h2 : gT T y = .int .i64 b) : Ab.ev (gT T) H nr (.bin .add x y) = some (.int .i64 (IntKind.i64.wrap (a + b)), [], 0) := by
  simp only [Ab.ev, h1, h2, binI, if_true, Option.bind_some, pureR]
theorem wr_b (x : Int) : -9223372036854775808 ≤ IntKind.i64.wrap x ∧ IntKind.i64.wrap x ≤ 9223372036854775807 := by rw [IntKind.wrap_i64]; omega
theorem wr_0 {x : Int} (h : -9223372036854775808 ≤ x ∧ x ≤ 9223372036854775807) : IntKind.i64.wrap (x + 0) = x := by rw [IntKind.wrap_i64]; omega
theorem wt_nn {r : Rc} {xs : List Dn} (hG : GoodN r xs) {ys : List Int} (hl : ys.length = xs.length) : 0 ≤ wtI r xs ys := by
  classical
  unfold wtI
  split
  · exact (prd_b (xs := xs) (ys := ys) ys.length (fun j hj => hG.2.2 j (by omega))).1
  · exact Int.le_refl _
theorem dtR_ltr {a b c : Bool} {r : Rc} {xs : List Dn} (m : Nat) : ∀ x ∈ dtR a b c r xs, AV.ltr m x = true := fun x hx => by simp [dtR] at hx; rcases hx with rfl | rfl | rfl <;> rfl
theorem dtR_ltr1 {a b c : Bool} {r : Rc} {xs : List Dn} (m : Nat) : ∀ row ∈ [dtR a b c r xs], ∀ x ∈ row, AV.ltr m x = true := fun row hr x hx => by simp at hr; subst hr; exact dtR_ltr m x hx

/-! ### How many -/
def stC (s : Int × Int) (ys : List Int) (w : Int) : Int × Int := (IntKind.i64.wrap (s.1 + 1), IntKind.i64.wrap (s.2 + w))
noncomputable def cdS (r : Rc) (xs : List Dn) (n : Nat) : Int × Int := fd (fun m => Fs stC (wtI r xs) (yrs xs m)) n (0, 0)
theorem con29_yes (a b c : Bool) (r : Rc) (xs : List Dn) (h1 : r.cs.length ≤ 1048576) (h2 : r.xs.length ≤ 1048576) (h3 : xs.length ≤ 1048576) (hL : LenN xs 1048576) (hG : GoodN r xs) : Con Try.prog 29 true [.agg (dtR a b c r xs)] (.tup [.int .i64 (cdS r xs (cp xs xs.length)).1, .int .i64 (cdS r xs (cp xs xs.length)).2, .bool true]) [] := by
  classical
  refine con_of_wp mixed fun29 (by simp) [] plain_nil ?_
  unfold ac29 ro29
  simp only [zipT]
  have c1 := con47 a b c r xs h1 h2 h3 hL
  rw [decide_eq_true hG] at c1
  have c2 := con67 a b c r xs hG
  have hcp := cp_b hG
  repeat (first | refine wG_call c1 rfl rfl ?_ | (first
    | refine wC_a rfl ?_
    | refine q_s rfl ?_
    | refine q_b rfl ?_
    | refine wG_nil ?_
    | refine wG_g rfl ?_
    | refine wG_pure (o_len_vwm rfl) ?_
    | refine wG_pure (o_not_d rfl) ?_
    | refine wG_p rfl (by first | exact rfl | omega) ?_
    | refine wG_pure (o_str2 rfl rfl rfl) ?_
    | refine wG_pure (e_istr rfl rfl (by omega)) ?_
    | refine wG_pure (e_istr0 rfl rfl (by omega)) ?_
    | refine wG_pure (o_not rfl) ?_
    | refine wG_pure (e_ia_vw0 rfl rfl (by omega) rfl) ?_
    | refine wG_pure (e_ia_vwp rfl rfl (by omega) rfl) ?_
    | refine wG_pure (e_ia_vwm rfl rfl (by omega) (by omega) rfl) ?_
    | refine wG_pure (e_ia_vwi rfl rfl (by omega) rfl) ?_
    | refine wG_pure (e_ia_vwn rfl rfl (by omega) (by omega) rfl) ?_
    | refine wG_n rfl rfl ?_
    | refine wG_u rfl rfl ?_
    | refine wG_new (o_mks rfl rfl (by omega) (by decide)) ?_))
  refine wC_loop Nat (fun n => ⟨[(1, .pt 0 0 0), (5, .int .i64 (cdS r xs n).1), (6, .int .i64 (cdS r xs n).2), (7, .int .i64 (n : Int))], [(0, some [dtR a b c r xs])], 1⟩) (fun n => n ≤ cp xs xs.length) (fun n => cp xs xs.length - n) 0 (Nat.zero_le _) ?_ (fun _ _ => Nat.zero_le _) ?_
  · exact ⟨⟨⟨rfl, rfl⟩, ⟨rfl, rfl⟩, ⟨rfl, rfl⟩, ⟨rfl, rfl⟩, trivial⟩, ⟨rfl, by show 0 < 1; decide, dtR_ltr1 _⟩, trivial⟩
  intro n hn
  repeat (first | refine wG_call c2 rfl rfl ?_ | (first
    | refine wC_a rfl ?_
    | refine q_s rfl ?_
    | refine q_b rfl ?_
    | refine wG_nil ?_
    | refine wG_g rfl ?_
    | refine wG_pure (o_len_vwm rfl) ?_
    | refine wG_pure (o_not_d rfl) ?_
    | refine wG_p rfl (by first | exact rfl | omega) ?_
    | refine wG_pure (o_str2 rfl rfl rfl) ?_
    | refine wG_pure (e_istr rfl rfl (by omega)) ?_
    | refine wG_pure (e_istr0 rfl rfl (by omega)) ?_
    | refine wG_pure (o_not rfl) ?_
    | refine wG_pure (e_ia_vw0 rfl rfl (by omega) rfl) ?_
    | refine wG_pure (e_ia_vwp rfl rfl (by omega) rfl) ?_
    | refine wG_pure (e_ia_vwm rfl rfl (by omega) (by omega) rfl) ?_
    | refine wG_pure (e_ia_vwi rfl rfl (by omega) rfl) ?_
    | refine wG_pure (e_ia_vwn rfl rfl (by omega) (by omega) rfl) ?_
    | refine wG_n rfl rfl ?_
    | refine wG_u rfl rfl ?_
    | refine wG_new (o_mks rfl rfl (by omega) (by decide)) ?_))
  refine wC_cond_d rfl (fun h5 => ?_) (fun h5 => ?_)
  · have hn2 : n < cp xs xs.length := by omega
    have c3 := con68 a b c r xs hG n (by omega)
    have c4 := con65 a b c true r xs (yrs xs n) hG (yrs_len xs n)
    have hup : cdS r xs (n + 1) = Fs stC (wtI r xs) (yrs xs n) (cdS r xs n) := rfl
    repeat (first | refine wC_dregE ?_ | refine wE_call1 c3 rfl rfl rfl ?_ | refine wE_call c4 (ag_any rfl (ag_sl rfl rfl (yrs_len xs n).symm iRow_plain ag_nil)) rfl rfl ?_ | (first
    | refine wC_a rfl ?_
    | refine q_s rfl ?_
    | refine q_b rfl ?_
    | refine wG_nil ?_
    | refine wG_g rfl ?_
    | refine wG_pure (o_len_vwm rfl) ?_
    | refine wG_pure (o_not_d rfl) ?_
    | refine wG_p rfl (by first | exact rfl | omega) ?_
    | refine wG_pure (o_str2 rfl rfl rfl) ?_
    | refine wG_pure (e_istr rfl rfl (by omega)) ?_
    | refine wG_pure (e_istr0 rfl rfl (by omega)) ?_
    | refine wG_pure (o_not rfl) ?_
    | refine wG_pure (e_ia_vw0 rfl rfl (by omega) rfl) ?_
    | refine wG_pure (e_ia_vwp rfl rfl (by omega) rfl) ?_
    | refine wG_pure (e_ia_vwm rfl rfl (by omega) (by omega) rfl) ?_
    | refine wG_pure (e_ia_vwi rfl rfl (by omega) rfl) ?_
    | refine wG_pure (e_ia_vwn rfl rfl (by omega) (by omega) rfl) ?_
    | refine wG_n rfl rfl ?_
    | refine wG_u rfl rfl ?_
    | refine wG_new (o_mks rfl rfl (by omega) (by decide)) ?_) | (first
    | refine wE_nil (by kernel_rfl) ?_
    | refine wE_gy rfl ?_
    | refine wE_gn rfl rfl rfl ?_
    | refine wE_gu rfl rfl ?_
    | refine wE_gnn rfl rfl rfl ?_
    | refine wE_v (o_len_vwm rfl) rfl ?_
    | refine wE_v (o_not_d rfl) rfl ?_
    | refine wE_p rfl (by first | exact rfl | omega) rfl ?_
    | refine wE_v (o_str2 rfl rfl rfl) rfl ?_
    | refine wE_v (e_istr rfl rfl (by omega)) rfl ?_
    | refine wE_v (e_istr0 rfl rfl (by omega)) rfl ?_
    | refine wE_v (o_not rfl) rfl ?_
    | refine wE_v (e_ia_vw0 rfl rfl (by omega) rfl) rfl ?_
    | refine wE_v (e_ia_vwp rfl rfl (by omega) rfl) rfl ?_
    | refine wE_v (e_ia_vwm rfl rfl (by omega) (by omega) rfl) rfl ?_
    | refine wE_v (e_ia_vwi rfl rfl (by omega) rfl) rfl ?_
    | refine wE_v (e_ia_vwn rfl rfl (by omega) (by omega) rfl) rfl ?_
    | refine wE_n rfl rfl rfl ?_
    | refine wE_u rfl rfl rfl ?_
    | refine wE_new (o_mks rfl rfl (by omega) (by decide)) rfl ?_))
    by_cases hw : wtI r xs (yrs xs n) > 0
    · simp only [decide_eq_true hw]
      rw [Fs, if_pos hw] at hup
      repeat (first | (first
    | refine wC_a rfl ?_
    | refine q_s rfl ?_
    | refine q_b rfl ?_
    | refine wG_nil ?_
    | refine wG_g rfl ?_
    | refine wG_pure (o_len_vwm rfl) ?_
    | refine wG_pure (o_not_d rfl) ?_
    | refine wG_p rfl (by first | exact rfl | omega) ?_
    | refine wG_pure (o_str2 rfl rfl rfl) ?_
    | refine wG_pure (e_istr rfl rfl (by omega)) ?_
    | refine wG_pure (e_istr0 rfl rfl (by omega)) ?_
    | refine wG_pure (o_not rfl) ?_
    | refine wG_pure (e_ia_vw0 rfl rfl (by omega) rfl) ?_
    | refine wG_pure (e_ia_vwp rfl rfl (by omega) rfl) ?_
    | refine wG_pure (e_ia_vwm rfl rfl (by omega) (by omega) rfl) ?_
    | refine wG_pure (e_ia_vwi rfl rfl (by omega) rfl) ?_
    | refine wG_pure (e_ia_vwn rfl rfl (by omega) (by omega) rfl) ?_
    | refine wG_n rfl rfl ?_
    | refine wG_u rfl rfl ?_
    | refine wG_new (o_mks rfl rfl (by omega) (by decide)) ?_) | refine wG_pure (o_addw rfl rfl) ?_)
      refine ⟨n + 1, hn2, by omega, ⟨⟨rfl, rfl⟩, ⟨?_, rfl⟩, ⟨?_, rfl⟩, ⟨rfl, rfl⟩, trivial⟩, ⟨rfl, by show 0 < 1; decide, dtR_ltr1 _⟩, trivial⟩
      · rw [hup]; rfl
      · rw [hup]; rfl
    · simp only [decide_eq_false hw]
      rw [Fs, if_neg hw] at hup
      repeat (first
    | refine wC_a rfl ?_
    | refine q_s rfl ?_
    | refine q_b rfl ?_
    | refine wG_nil ?_
    | refine wG_g rfl ?_
    | refine wG_pure (o_len_vwm rfl) ?_
    | refine wG_pure (o_not_d rfl) ?_
    | refine wG_p rfl (by first | exact rfl | omega) ?_
    | refine wG_pure (o_str2 rfl rfl rfl) ?_
    | refine wG_pure (e_istr rfl rfl (by omega)) ?_
    | refine wG_pure (e_istr0 rfl rfl (by omega)) ?_
    | refine wG_pure (o_not rfl) ?_
    | refine wG_pure (e_ia_vw0 rfl rfl (by omega) rfl) ?_
    | refine wG_pure (e_ia_vwp rfl rfl (by omega) rfl) ?_
    | refine wG_pure (e_ia_vwm rfl rfl (by omega) (by omega) rfl) ?_
    | refine wG_pure (e_ia_vwi rfl rfl (by omega) rfl) ?_
    | refine wG_pure (e_ia_vwn rfl rfl (by omega) (by omega) rfl) ?_
    | refine wG_n rfl rfl ?_
    | refine wG_u rfl rfl ?_
    | refine wG_new (o_mks rfl rfl (by omega) (by decide)) ?_)
      refine ⟨n + 1, hn2, by omega, ⟨⟨rfl, rfl⟩, ⟨?_, rfl⟩, ⟨?_, rfl⟩, ⟨rfl, rfl⟩, trivial⟩, ⟨rfl, by show 0 < 1; decide, dtR_ltr1 _⟩, trivial⟩
      · rw [hup]; rfl
      · rw [hup]; rfl
  · have hn3 : n = cp xs xs.length := by omega
    subst hn3
    repeat (first
    | refine wC_a rfl ?_
    | refine q_s rfl ?_
    | refine q_b rfl ?_
    | refine wG_nil ?_
    | refine wG_g rfl ?_
    | refine wG_pure (o_len_vwm rfl) ?_
    | refine wG_pure (o_not_d rfl) ?_
    | refine wG_p rfl (by first | exact rfl | omega) ?_
    | refine wG_pure (o_str2 rfl rfl rfl) ?_
    | refine wG_pure (e_istr rfl rfl (by omega)) ?_
    | refine wG_pure (e_istr0 rfl rfl (by omega)) ?_
    | refine wG_pure (o_not rfl) ?_
    | refine wG_pure (e_ia_vw0 rfl rfl (by omega) rfl) ?_
    | refine wG_pure (e_ia_vwp rfl rfl (by omega) rfl) ?_
    | refine wG_pure (e_ia_vwm rfl rfl (by omega) (by omega) rfl) ?_
    | refine wG_pure (e_ia_vwi rfl rfl (by omega) rfl) ?_
    | refine wG_pure (e_ia_vwn rfl rfl (by omega) (by omega) rfl) ?_
    | refine wG_n rfl rfl ?_
    | refine wG_u rfl rfl ?_
    | refine wG_new (o_mks rfl rfl (by omega) (by decide)) ?_)
    exact ret_pl (.inr rfl) (retVs_3 (retV_mv rfl) (retV_mv rfl) (retV_mv rfl)) rfl rfl (by simp)
theorem con29_no (a b c : Bool) (r : Rc) (xs : List Dn) (h1 : r.cs.length ≤ 1048576) (h2 : r.xs.length ≤ 1048576) (h3 : xs.length ≤ 1048576) (hL : LenN xs 1048576) (hG : ¬ GoodN r xs) : Con Try.prog 29 true [.agg (dtR a b c r xs)] (.tup [.int .i64 0, .int .i64 0, .bool false]) [] := by
  classical
  refine con_of_wp mixed fun29 (by simp) [] plain_nil ?_
  unfold ac29 ro29
  simp only [zipT]
  have c1 := con47 a b c r xs h1 h2 h3 hL
  rw [decide_eq_false hG] at c1
  repeat (first | refine wG_call c1 rfl rfl ?_ | (first
    | refine wC_a rfl ?_
    | refine q_s rfl ?_
    | refine q_b rfl ?_
    | refine wG_nil ?_
    | refine wG_g rfl ?_
    | refine wG_pure (o_len_vwm rfl) ?_
    | refine wG_pure (o_not_d rfl) ?_
    | refine wG_p rfl (by first | exact rfl | omega) ?_
    | refine wG_pure (o_str2 rfl rfl rfl) ?_
    | refine wG_pure (e_istr rfl rfl (by omega)) ?_
    | refine wG_pure (e_istr0 rfl rfl (by omega)) ?_
    | refine wG_pure (o_not rfl) ?_
    | refine wG_pure (e_ia_vw0 rfl rfl (by omega) rfl) ?_
    | refine wG_pure (e_ia_vwp rfl rfl (by omega) rfl) ?_
    | refine wG_pure (e_ia_vwm rfl rfl (by omega) (by omega) rfl) ?_
    | refine wG_pure (e_ia_vwi rfl rfl (by omega) rfl) ?_
    | refine wG_pure (e_ia_vwn rfl rfl (by omega) (by omega) rfl) ?_
    | refine wG_n rfl rfl ?_
    | refine wG_u rfl rfl ?_
    | refine wG_new (o_mks rfl rfl (by omega) (by decide)) ?_))
  exact ret_pl (.inr rfl) (retVs_3 (retV_mv rfl) (retV_mv rfl) (retV_mv rfl)) rfl rfl (by simp)
def hsC (a b c : Bool) (r : Rc) (xs : List Dn) (s : Int × Int) : List (Nat × Option Ab.Rows) := [(2, some [[.int .i64 s.2]]), (1, some [[.int .i64 s.1]]), (0, some [dtR a b c r xs])]
theorem hsC_wf {a b c : Bool} {r : Rc} {xs : List Dn} {nr : Nat} (h : 3 ≤ nr) (s : Int × Int) : wfH (hsC a b c r xs s) nr :=
  wfH_cons (by omega) (by simp [AV.ltr]) (wfH_cons (by omega) (by simp [AV.ltr]) (wfH_cons (by omega) (dtR_ltr1 _) wfH_nil))
theorem vis_C {a b c : Bool} {r : Rc} {xs : List Dn} (s : Int × Int) (ys : List Int) (w : Int) : Sh Try.prog 70 ([.sl (3 + 2) 1 0 xs.length, .int .i64 w] ++ [.pt 1 0 0, .pt 2 0 0]) (eF (dtR a b c r xs) 3 70 [.pt 1 0 0, .pt 2 0 0] xs.length ys (hsC a b c r xs s)) 8 (.tup []) (eF (dtR a b c r xs) 3 70 [.pt 1 0 0, .pt 2 0 0] xs.length ys (hsC a b c r xs (stC s ys w))) 8 := by
  refine sh_of_wp mixed fun70 (by simp) ?_
  unfold ac70 ro70
  simp only [zipT, List.cons_append, List.nil_append]
  repeat (first | (first
    | refine wC_a rfl ?_
    | refine q_s rfl ?_
    | refine q_b rfl ?_
    | refine wG_nil ?_
    | refine wG_g rfl ?_
    | refine wG_pure (o_len_vwm rfl) ?_
    | refine wG_pure (o_not_d rfl) ?_
    | refine wG_p rfl (by first | exact rfl | omega) ?_
    | refine wG_pure (o_str2 rfl rfl rfl) ?_
    | refine wG_pure (e_istr rfl rfl (by omega)) ?_
    | refine wG_pure (e_istr0 rfl rfl (by omega)) ?_
    | refine wG_pure (o_not rfl) ?_
    | refine wG_pure (e_ia_vw0 rfl rfl (by omega) rfl) ?_
    | refine wG_pure (e_ia_vwp rfl rfl (by omega) rfl) ?_
    | refine wG_pure (e_ia_vwm rfl rfl (by omega) (by omega) rfl) ?_
    | refine wG_pure (e_ia_vwi rfl rfl (by omega) rfl) ?_
    | refine wG_pure (e_ia_vwn rfl rfl (by omega) (by omega) rfl) ?_
    | refine wG_n rfl rfl ?_
    | refine wG_u rfl rfl ?_
    | refine wG_new (o_mks rfl rfl (by omega) (by decide)) ?_) | refine wG_pure (o_addw rfl rfl) ?_)
  refine ⟨trivial, [], rfl, Le_of ⟨⟨rfl, rfl⟩, trivial⟩ (fun q rows hq => ?_) (eF_wf (nr := 8) (by decide) (dtR_ltr _) rfl (hsC_wf (by decide) _)), Nat.le_refl _⟩
  refine Eq.trans ?_ hq
  simp only [eF, hsC, stC, Ab.hg, upd]
  repeat' split
  all_goals (first | rfl | (exfalso; omega) | omega)
theorem con30_yes (a b c : Bool) (r : Rc) (xs : List Dn) (h1 : r.cs.length ≤ 1048576) (h2 : r.xs.length ≤ 1048576) (h3 : xs.length ≤ 1048576) (hL : LenN xs 1048576) (hG : GoodN r xs) : Con Try.prog 30 true [.agg (dtR a b c r xs)] (.tup [.int .i64 (cdS r xs (cp xs xs.length)).1, .int .i64 (cdS r xs (cp xs xs.length)).2, .bool true]) [] := by
  classical
  refine con_of_wp mixed fun30 (by simp) [] plain_nil ?_
  unfold ac30 ro30
  simp only [zipT]
  have c1 := con24 a b c r xs h1 h2 h3 hL
  rw [decide_eq_true hG] at c1
  have hE := (each_sh (σ := Int × Int) (step := stC) (J := fun _ => True) (hs := hsC a b c r xs) (nrS := fun _ => 8) (a := a) (b := b) (c := c) (r := r) (xs := xs) (N := 3) (fv := 70) (caps := [.pt 1 0 0, .pt 2 0 0]) hG (fun _ => Nat.le_refl _) (fun s _ => hsC_wf (by omega) s) rfl (fun _ _ _ => Nat.le_refl _) (fun s ys w _ _ _ _ => ⟨vis_C s ys w, trivial⟩) (fun s q rows _ hq => by
    by_cases e : q < 3
    · exact .inl e
    · simp [hsC, Ab.hg, upd, show q ≠ 2 by omega, show q ≠ 1 by omega, show q ≠ 0 by omega] at hq) (0, 0) trivial rfl h3).1
  rw [each_fd hG] at hE
  change Sh _ _ _ _ _ _ (hsC a b c r xs (cdS r xs (cp xs xs.length))) 8 at hE
  generalize cdS r xs (cp xs xs.length) = z at *
  have hE2 : Sh Try.prog 69 [.agg (dtR a b c r xs), .fn 70 [.pt 1 0 0, .pt 2 0 0]] [(2, some [[.int .i64 0]]), (1, some [[.int .i64 0]]), (2, some [[.int .i64 0]]), (1, some [[.int .i64 0]]), (0, some [dtR a b c r xs])] 3 (.tup []) (hsC a b c r xs z) 8 := by
    refine Sh_hg ?_ hE
    funext q
    simp only [hsC, Ab.hg, upd]
    repeat' split
    all_goals (first | rfl | (exfalso; omega) | omega)
  repeat (first | refine wG_call c1 rfl rfl ?_ | refine wG_pure (o_mkf rfl) ?_ | refine wG_callS hE2 rfl ?_ | (first
    | refine wC_a rfl ?_
    | refine q_s rfl ?_
    | refine q_b rfl ?_
    | refine wG_nil ?_
    | refine wG_g rfl ?_
    | refine wG_pure (o_len_vwm rfl) ?_
    | refine wG_pure (o_not_d rfl) ?_
    | refine wG_p rfl (by first | exact rfl | omega) ?_
    | refine wG_pure (o_str2 rfl rfl rfl) ?_
    | refine wG_pure (e_istr rfl rfl (by omega)) ?_
    | refine wG_pure (e_istr0 rfl rfl (by omega)) ?_
    | refine wG_pure (o_not rfl) ?_
    | refine wG_pure (e_ia_vw0 rfl rfl (by omega) rfl) ?_
    | refine wG_pure (e_ia_vwp rfl rfl (by omega) rfl) ?_
    | refine wG_pure (e_ia_vwm rfl rfl (by omega) (by omega) rfl) ?_
    | refine wG_pure (e_ia_vwi rfl rfl (by omega) rfl) ?_
    | refine wG_pure (e_ia_vwn rfl rfl (by omega) (by omega) rfl) ?_
    | refine wG_n rfl rfl ?_
    | refine wG_u rfl rfl ?_
    | refine wG_new (o_mks rfl rfl (by omega) (by decide)) ?_))
  exact ret_pl (.inr rfl) (retVs_3 (retV_mv rfl) (retV_mv rfl) (retV_mv rfl)) rfl rfl (by simp)
theorem con30_no (a b c : Bool) (r : Rc) (xs : List Dn) (h1 : r.cs.length ≤ 1048576) (h2 : r.xs.length ≤ 1048576) (h3 : xs.length ≤ 1048576) (hL : LenN xs 1048576) (hG : ¬ GoodN r xs) : Con Try.prog 30 true [.agg (dtR a b c r xs)] (.tup [.int .i64 0, .int .i64 0, .bool false]) [] := by
  classical
  refine con_of_wp mixed fun30 (by simp) [] plain_nil ?_
  unfold ac30 ro30
  simp only [zipT]
  have c1 := con24 a b c r xs h1 h2 h3 hL
  rw [decide_eq_false hG] at c1
  repeat (first | refine wG_call c1 rfl rfl ?_ | (first
    | refine wC_a rfl ?_
    | refine q_s rfl ?_
    | refine q_b rfl ?_
    | refine wG_nil ?_
    | refine wG_g rfl ?_
    | refine wG_pure (o_len_vwm rfl) ?_
    | refine wG_pure (o_not_d rfl) ?_
    | refine wG_p rfl (by first | exact rfl | omega) ?_
    | refine wG_pure (o_str2 rfl rfl rfl) ?_
    | refine wG_pure (e_istr rfl rfl (by omega)) ?_
    | refine wG_pure (e_istr0 rfl rfl (by omega)) ?_
    | refine wG_pure (o_not rfl) ?_
    | refine wG_pure (e_ia_vw0 rfl rfl (by omega) rfl) ?_
    | refine wG_pure (e_ia_vwp rfl rfl (by omega) rfl) ?_
    | refine wG_pure (e_ia_vwm rfl rfl (by omega) (by omega) rfl) ?_
    | refine wG_pure (e_ia_vwi rfl rfl (by omega) rfl) ?_
    | refine wG_pure (e_ia_vwn rfl rfl (by omega) (by omega) rfl) ?_
    | refine wG_n rfl rfl ?_
    | refine wG_u rfl rfl ?_
    | refine wG_new (o_mks rfl rfl (by omega) (by decide)) ?_))
  exact ret_pl (.inr rfl) (retVs_3 (retV_mv rfl) (retV_mv rfl) (retV_mv rfl)) rfl rfl (by simp)

/-! ### The chance of an order -/
def stO (i k : Nat) (s : Int × Int) (ys : List Int) (w : Int) : Int × Int := (if ys.getD i default < ys.getD k default then IntKind.i64.wrap (s.1 + w) else s.1, IntKind.i64.wrap (s.2 + w))
noncomputable def coS (r : Rc) (xs : List Dn) (i k n : Nat) : Int × Int := fd (fun m => Fs (stO i k) (wtI r xs) (yrs xs m)) n (0, 0)
def inI (s : Int × Int) : Prop := (-9223372036854775808 ≤ s.1 ∧ s.1 ≤ 9223372036854775807) ∧ -9223372036854775808 ≤ s.2 ∧ s.2 ≤ 9223372036854775807
theorem stO_in {i k : Nat} {s : Int × Int} {ys : List Int} {w : Int} (h : inI s) : inI (stO i k s ys w) := by
  refine ⟨?_, wr_b _⟩
  unfold stO
  dsimp only
  split
  · exact wr_b _
  · exact h.1
theorem coS_in (r : Rc) (xs : List Dn) (i k : Nat) : ∀ n, inI (coS r xs i k n)
  | 0 => ⟨⟨by show (_ : Int) ≤ 0; omega, by show (0 : Int) ≤ _; omega⟩, by show (_ : Int) ≤ 0; omega, by show (0 : Int) ≤ _; omega⟩
  | n + 1 => by
    have ih := coS_in r xs i k n
    show inI (Fs (stO i k) (wtI r xs) (yrs xs n) (coS r xs i k n))
    unfold Fs
    split
    · exact stO_in ih
    · exact ih
theorem coS_up {r : Rc} {xs : List Dn} (hG : GoodN r xs) (i k n : Nat) : coS r xs i k (n + 1) = stO i k (coS r xs i k n) (yrs xs n) (wtI r xs (yrs xs n)) := by
  have ih := coS_in r xs i k n
  have hw := wt_nn hG (yrs_len xs n)
  show Fs (stO i k) (wtI r xs) (yrs xs n) (coS r xs i k n) = _
  unfold Fs
  by_cases e : wtI r xs (yrs xs n) > 0
  · rw [if_pos e]
  · rw [if_neg e, show wtI r xs (yrs xs n) = 0 by omega]
    unfold stO
    rw [wr_0 ih.1, wr_0 ih.2]
    split <;> rfl
def okO (r : Rc) (xs : List Dn) (x y : Int) : Prop := GoodN r xs ∧ 0 ≤ idx r x ∧ 0 ≤ idx r y
theorem con31_yes (a b c : Bool) (r : Rc) (xs : List Dn) (x y : Int) (h1 : r.cs.length ≤ 1048576) (h2 : r.xs.length ≤ 1048576) (h3 : xs.length ≤ 1048576) (hL : LenN xs 1048576) (hG : GoodN r xs) {i k : Nat} (hi : idx r x = i) (hk : idx r y = k) : Con Try.prog 31 true [.agg (dtR a b c r xs), .int .i64 x, .int .i64 y] (.tup [.int .i64 (coS r xs i k (cp xs xs.length)).1, .int .i64 (coS r xs i k (cp xs xs.length)).2, .bool true]) [] := by
  classical
  refine con_of_wp mixed fun31 (by simp) [] plain_nil ?_
  unfold ac31 ro31
  simp only [zipT]
  have c1 := con47 a b c r xs h1 h2 h3 hL
  rw [decide_eq_true hG] at c1
  have c2 := con67 a b c r xs hG
  have hcp := cp_b hG
  have cx := con48 a b r x h1
  have cy := con48 a b r y h1
  have bx := idx_b r x
  have bY := idx_b r y
  have hnl := hG.2.1
  rw [hi] at cx bx
  rw [hk] at cy bY
  have d1 : decide ((i : Int) < 0) = false := decide_eq_false (by omega)
  have d2 : decide ((k : Int) < 0) = false := decide_eq_false (by omega)
  have e0 : ∀ n : Nat, 0 + ((n : Int)).toNat = n := fun n => by simp
  repeat (first | refine wG_call cx rfl rfl ?_ | refine wG_call cy rfl rfl ?_ | refine wG_call c1 rfl rfl ?_ | (first
    | refine wC_a rfl ?_
    | refine q_s rfl ?_
    | refine q_b rfl ?_
    | refine wG_nil ?_
    | refine wG_g rfl ?_
    | refine wG_pure (o_len_vwm rfl) ?_
    | refine wG_pure (o_not_d rfl) ?_
    | refine wG_p rfl (by first | exact rfl | omega) ?_
    | refine wG_pure (o_str2 rfl rfl rfl) ?_
    | refine wG_pure (e_istr rfl rfl (by omega)) ?_
    | refine wG_pure (e_istr0 rfl rfl (by omega)) ?_
    | refine wG_pure (o_not rfl) ?_
    | refine wG_pure (e_ia_vw0 rfl rfl (by omega) rfl) ?_
    | refine wG_pure (e_ia_vwp rfl rfl (by omega) rfl) ?_
    | refine wG_pure (e_ia_vwm rfl rfl (by omega) (by omega) rfl) ?_
    | refine wG_pure (e_ia_vwi rfl rfl (by omega) rfl) ?_
    | refine wG_pure (e_ia_vwn rfl rfl (by omega) (by omega) rfl) ?_
    | refine wG_n rfl rfl ?_
    | refine wG_u rfl rfl ?_
    | refine wG_new (o_mks rfl rfl (by omega) (by decide)) ?_))
  refine wC_loop Nat (fun n => ⟨[(3, .pt 0 0 0), (9, .int .i64 (i : Int)), (10, .int .i64 (k : Int)), (11, .int .i64 (coS r xs i k n).1), (12, .int .i64 (coS r xs i k n).2), (13, .int .i64 (n : Int))], [(0, some [dtR a b c r xs])], 1⟩) (fun n => n ≤ cp xs xs.length) (fun n => cp xs xs.length - n) 0 (Nat.zero_le _) ?_ (fun _ _ => Nat.zero_le _) ?_
  · exact ⟨⟨⟨rfl, rfl⟩, ⟨rfl, rfl⟩, ⟨rfl, rfl⟩, ⟨rfl, rfl⟩, ⟨rfl, rfl⟩, ⟨rfl, rfl⟩, trivial⟩, ⟨rfl, by show 0 < 1; decide, dtR_ltr1 _⟩, trivial⟩
  intro n hn
  repeat (first | refine wG_call c2 rfl rfl ?_ | (first
    | refine wC_a rfl ?_
    | refine q_s rfl ?_
    | refine q_b rfl ?_
    | refine wG_nil ?_
    | refine wG_g rfl ?_
    | refine wG_pure (o_len_vwm rfl) ?_
    | refine wG_pure (o_not_d rfl) ?_
    | refine wG_p rfl (by first | exact rfl | omega) ?_
    | refine wG_pure (o_str2 rfl rfl rfl) ?_
    | refine wG_pure (e_istr rfl rfl (by omega)) ?_
    | refine wG_pure (e_istr0 rfl rfl (by omega)) ?_
    | refine wG_pure (o_not rfl) ?_
    | refine wG_pure (e_ia_vw0 rfl rfl (by omega) rfl) ?_
    | refine wG_pure (e_ia_vwp rfl rfl (by omega) rfl) ?_
    | refine wG_pure (e_ia_vwm rfl rfl (by omega) (by omega) rfl) ?_
    | refine wG_pure (e_ia_vwi rfl rfl (by omega) rfl) ?_
    | refine wG_pure (e_ia_vwn rfl rfl (by omega) (by omega) rfl) ?_
    | refine wG_n rfl rfl ?_
    | refine wG_u rfl rfl ?_
    | refine wG_new (o_mks rfl rfl (by omega) (by decide)) ?_))
  refine wC_cond_d rfl (fun h5 => ?_) (fun h5 => ?_)
  · have hn2 : n < cp xs xs.length := by omega
    have c3 := con68 a b c r xs hG n (by omega)
    have hyl := yrs_len xs n
    have c4 := con65 a b c true r xs (yrs xs n) hG hyl
    have hup := coS_up hG i k n
    have gi : ((yrs xs n).map iRow)[i]? = some (iRow ((yrs xs n).getD i default)) := by
      simp [List.getElem?_map, List.getElem?_eq_getElem (show i < (yrs xs n).length by omega), List.getD_eq_getElem?_getD]
    have gk : ((yrs xs n).map iRow)[k]? = some (iRow ((yrs xs n).getD k default)) := by
      simp [List.getElem?_map, List.getElem?_eq_getElem (show k < (yrs xs n).length by omega), List.getD_eq_getElem?_getD]
    repeat (first | refine wG_call1 c3 rfl rfl ?_ | refine wG_call c4 (ag_any rfl (ag_sl rfl rfl hyl.symm iRow_plain ag_nil)) rfl ?_ | (refine wG_pure (e_ia_sl rfl rfl (by omega) (by omega)) ?_; simp only [e0]) | refine wG_pure (o_ldf_pt rfl rfl gi rfl) ?_ | refine wG_pure (o_ldf_pt rfl rfl gk rfl) ?_ | (first
    | refine wC_a rfl ?_
    | refine q_s rfl ?_
    | refine q_b rfl ?_
    | refine wG_nil ?_
    | refine wG_g rfl ?_
    | refine wG_pure (o_len_vwm rfl) ?_
    | refine wG_pure (o_not_d rfl) ?_
    | refine wG_p rfl (by first | exact rfl | omega) ?_
    | refine wG_pure (o_str2 rfl rfl rfl) ?_
    | refine wG_pure (e_istr rfl rfl (by omega)) ?_
    | refine wG_pure (e_istr0 rfl rfl (by omega)) ?_
    | refine wG_pure (o_not rfl) ?_
    | refine wG_pure (e_ia_vw0 rfl rfl (by omega) rfl) ?_
    | refine wG_pure (e_ia_vwp rfl rfl (by omega) rfl) ?_
    | refine wG_pure (e_ia_vwm rfl rfl (by omega) (by omega) rfl) ?_
    | refine wG_pure (e_ia_vwi rfl rfl (by omega) rfl) ?_
    | refine wG_pure (e_ia_vwn rfl rfl (by omega) (by omega) rfl) ?_
    | refine wG_n rfl rfl ?_
    | refine wG_u rfl rfl ?_
    | refine wG_new (o_mks rfl rfl (by omega) (by decide)) ?_) | refine wG_pure (o_addw rfl rfl) ?_)
    refine wC_cond_d rfl (fun h6 => ?_) (fun h6 => ?_)
    · repeat (first | (first
    | refine wC_a rfl ?_
    | refine q_s rfl ?_
    | refine q_b rfl ?_
    | refine wG_nil ?_
    | refine wG_g rfl ?_
    | refine wG_pure (o_len_vwm rfl) ?_
    | refine wG_pure (o_not_d rfl) ?_
    | refine wG_p rfl (by first | exact rfl | omega) ?_
    | refine wG_pure (o_str2 rfl rfl rfl) ?_
    | refine wG_pure (e_istr rfl rfl (by omega)) ?_
    | refine wG_pure (e_istr0 rfl rfl (by omega)) ?_
    | refine wG_pure (o_not rfl) ?_
    | refine wG_pure (e_ia_vw0 rfl rfl (by omega) rfl) ?_
    | refine wG_pure (e_ia_vwp rfl rfl (by omega) rfl) ?_
    | refine wG_pure (e_ia_vwm rfl rfl (by omega) (by omega) rfl) ?_
    | refine wG_pure (e_ia_vwi rfl rfl (by omega) rfl) ?_
    | refine wG_pure (e_ia_vwn rfl rfl (by omega) (by omega) rfl) ?_
    | refine wG_n rfl rfl ?_
    | refine wG_u rfl rfl ?_
    | refine wG_new (o_mks rfl rfl (by omega) (by decide)) ?_) | refine wG_pure (o_addw rfl rfl) ?_)
      refine ⟨n + 1, hn2, by omega, ⟨⟨rfl, rfl⟩, ⟨rfl, rfl⟩, ⟨rfl, rfl⟩, ⟨?_, rfl⟩, ⟨?_, rfl⟩, ⟨rfl, rfl⟩, trivial⟩, ⟨rfl, by show 0 < 1; decide, dtR_ltr1 _⟩, trivial⟩
      · rw [hup, stO, if_pos h6]; rfl
      · rw [hup, stO]; rfl
    · repeat (first
    | refine wC_a rfl ?_
    | refine q_s rfl ?_
    | refine q_b rfl ?_
    | refine wG_nil ?_
    | refine wG_g rfl ?_
    | refine wG_pure (o_len_vwm rfl) ?_
    | refine wG_pure (o_not_d rfl) ?_
    | refine wG_p rfl (by first | exact rfl | omega) ?_
    | refine wG_pure (o_str2 rfl rfl rfl) ?_
    | refine wG_pure (e_istr rfl rfl (by omega)) ?_
    | refine wG_pure (e_istr0 rfl rfl (by omega)) ?_
    | refine wG_pure (o_not rfl) ?_
    | refine wG_pure (e_ia_vw0 rfl rfl (by omega) rfl) ?_
    | refine wG_pure (e_ia_vwp rfl rfl (by omega) rfl) ?_
    | refine wG_pure (e_ia_vwm rfl rfl (by omega) (by omega) rfl) ?_
    | refine wG_pure (e_ia_vwi rfl rfl (by omega) rfl) ?_
    | refine wG_pure (e_ia_vwn rfl rfl (by omega) (by omega) rfl) ?_
    | refine wG_n rfl rfl ?_
    | refine wG_u rfl rfl ?_
    | refine wG_new (o_mks rfl rfl (by omega) (by decide)) ?_)
      refine ⟨n + 1, hn2, by omega, ⟨⟨rfl, rfl⟩, ⟨rfl, rfl⟩, ⟨rfl, rfl⟩, ⟨?_, rfl⟩, ⟨?_, rfl⟩, ⟨rfl, rfl⟩, trivial⟩, ⟨rfl, by show 0 < 1; decide, dtR_ltr1 _⟩, trivial⟩
      · rw [hup, stO, if_neg h6]; rfl
      · rw [hup, stO]; rfl
  · have hn3 : n = cp xs xs.length := by omega
    subst hn3
    repeat (first
    | refine wC_a rfl ?_
    | refine q_s rfl ?_
    | refine q_b rfl ?_
    | refine wG_nil ?_
    | refine wG_g rfl ?_
    | refine wG_pure (o_len_vwm rfl) ?_
    | refine wG_pure (o_not_d rfl) ?_
    | refine wG_p rfl (by first | exact rfl | omega) ?_
    | refine wG_pure (o_str2 rfl rfl rfl) ?_
    | refine wG_pure (e_istr rfl rfl (by omega)) ?_
    | refine wG_pure (e_istr0 rfl rfl (by omega)) ?_
    | refine wG_pure (o_not rfl) ?_
    | refine wG_pure (e_ia_vw0 rfl rfl (by omega) rfl) ?_
    | refine wG_pure (e_ia_vwp rfl rfl (by omega) rfl) ?_
    | refine wG_pure (e_ia_vwm rfl rfl (by omega) (by omega) rfl) ?_
    | refine wG_pure (e_ia_vwi rfl rfl (by omega) rfl) ?_
    | refine wG_pure (e_ia_vwn rfl rfl (by omega) (by omega) rfl) ?_
    | refine wG_n rfl rfl ?_
    | refine wG_u rfl rfl ?_
    | refine wG_new (o_mks rfl rfl (by omega) (by decide)) ?_)
    exact ret_pl (.inr rfl) (retVs_3 (retV_mv rfl) (retV_mv rfl) (retV_mv rfl)) rfl rfl (by simp)
theorem con31_no (a b c : Bool) (r : Rc) (xs : List Dn) (x y : Int) (h1 : r.cs.length ≤ 1048576) (h2 : r.xs.length ≤ 1048576) (h3 : xs.length ≤ 1048576) (hL : LenN xs 1048576) (hk : ¬ okO r xs x y) : Con Try.prog 31 true [.agg (dtR a b c r xs), .int .i64 x, .int .i64 y] (.tup [.int .i64 0, .int .i64 0, .bool false]) [] := by
  classical
  refine con_of_wp mixed fun31 (by simp) [] plain_nil ?_
  unfold ac31 ro31
  simp only [zipT]
  have c1 := con47 a b c r xs h1 h2 h3 hL
  have cx := con48 a b r x h1
  have cy := con48 a b r y h1
  by_cases hG : GoodN r xs
  · rw [decide_eq_true hG] at c1
    repeat (first | refine wG_call cx rfl rfl ?_ | refine wG_call cy rfl rfl ?_ | refine wG_call c1 rfl rfl ?_ | (first
    | refine wC_a rfl ?_
    | refine q_s rfl ?_
    | refine q_b rfl ?_
    | refine wG_nil ?_
    | refine wG_g rfl ?_
    | refine wG_pure (o_len_vwm rfl) ?_
    | refine wG_pure (o_not_d rfl) ?_
    | refine wG_p rfl (by first | exact rfl | omega) ?_
    | refine wG_pure (o_str2 rfl rfl rfl) ?_
    | refine wG_pure (e_istr rfl rfl (by omega)) ?_
    | refine wG_pure (e_istr0 rfl rfl (by omega)) ?_
    | refine wG_pure (o_not rfl) ?_
    | refine wG_pure (e_ia_vw0 rfl rfl (by omega) rfl) ?_
    | refine wG_pure (e_ia_vwp rfl rfl (by omega) rfl) ?_
    | refine wG_pure (e_ia_vwm rfl rfl (by omega) (by omega) rfl) ?_
    | refine wG_pure (e_ia_vwi rfl rfl (by omega) rfl) ?_
    | refine wG_pure (e_ia_vwn rfl rfl (by omega) (by omega) rfl) ?_
    | refine wG_n rfl rfl ?_
    | refine wG_u rfl rfl ?_
    | refine wG_new (o_mks rfl rfl (by omega) (by decide)) ?_))
    by_cases q1 : 0 ≤ idx r x
    · have d1 : decide (idx r x < 0) = false := decide_eq_false (by omega)
      have d2 : decide (idx r y < 0) = true := decide_eq_true (Int.not_le.1 fun h => hk ⟨hG, q1, h⟩)
      simp only [d1]
      repeat (first
    | refine wC_a rfl ?_
    | refine q_s rfl ?_
    | refine q_b rfl ?_
    | refine wG_nil ?_
    | refine wG_g rfl ?_
    | refine wG_pure (o_len_vwm rfl) ?_
    | refine wG_pure (o_not_d rfl) ?_
    | refine wG_p rfl (by first | exact rfl | omega) ?_
    | refine wG_pure (o_str2 rfl rfl rfl) ?_
    | refine wG_pure (e_istr rfl rfl (by omega)) ?_
    | refine wG_pure (e_istr0 rfl rfl (by omega)) ?_
    | refine wG_pure (o_not rfl) ?_
    | refine wG_pure (e_ia_vw0 rfl rfl (by omega) rfl) ?_
    | refine wG_pure (e_ia_vwp rfl rfl (by omega) rfl) ?_
    | refine wG_pure (e_ia_vwm rfl rfl (by omega) (by omega) rfl) ?_
    | refine wG_pure (e_ia_vwi rfl rfl (by omega) rfl) ?_
    | refine wG_pure (e_ia_vwn rfl rfl (by omega) (by omega) rfl) ?_
    | refine wG_n rfl rfl ?_
    | refine wG_u rfl rfl ?_
    | refine wG_new (o_mks rfl rfl (by omega) (by decide)) ?_)
      simp only [d2]
      repeat (first
    | refine wC_a rfl ?_
    | refine q_s rfl ?_
    | refine q_b rfl ?_
    | refine wG_nil ?_
    | refine wG_g rfl ?_
    | refine wG_pure (o_len_vwm rfl) ?_
    | refine wG_pure (o_not_d rfl) ?_
    | refine wG_p rfl (by first | exact rfl | omega) ?_
    | refine wG_pure (o_str2 rfl rfl rfl) ?_
    | refine wG_pure (e_istr rfl rfl (by omega)) ?_
    | refine wG_pure (e_istr0 rfl rfl (by omega)) ?_
    | refine wG_pure (o_not rfl) ?_
    | refine wG_pure (e_ia_vw0 rfl rfl (by omega) rfl) ?_
    | refine wG_pure (e_ia_vwp rfl rfl (by omega) rfl) ?_
    | refine wG_pure (e_ia_vwm rfl rfl (by omega) (by omega) rfl) ?_
    | refine wG_pure (e_ia_vwi rfl rfl (by omega) rfl) ?_
    | refine wG_pure (e_ia_vwn rfl rfl (by omega) (by omega) rfl) ?_
    | refine wG_n rfl rfl ?_
    | refine wG_u rfl rfl ?_
    | refine wG_new (o_mks rfl rfl (by omega) (by decide)) ?_)
      exact ret_pl (.inr rfl) (retVs_3 (retV_mv rfl) (retV_mv rfl) (retV_mv rfl)) rfl rfl (by simp)
    · have d1 : decide (idx r x < 0) = true := decide_eq_true (by omega)
      simp only [d1]
      repeat (first
    | refine wC_a rfl ?_
    | refine q_s rfl ?_
    | refine q_b rfl ?_
    | refine wG_nil ?_
    | refine wG_g rfl ?_
    | refine wG_pure (o_len_vwm rfl) ?_
    | refine wG_pure (o_not_d rfl) ?_
    | refine wG_p rfl (by first | exact rfl | omega) ?_
    | refine wG_pure (o_str2 rfl rfl rfl) ?_
    | refine wG_pure (e_istr rfl rfl (by omega)) ?_
    | refine wG_pure (e_istr0 rfl rfl (by omega)) ?_
    | refine wG_pure (o_not rfl) ?_
    | refine wG_pure (e_ia_vw0 rfl rfl (by omega) rfl) ?_
    | refine wG_pure (e_ia_vwp rfl rfl (by omega) rfl) ?_
    | refine wG_pure (e_ia_vwm rfl rfl (by omega) (by omega) rfl) ?_
    | refine wG_pure (e_ia_vwi rfl rfl (by omega) rfl) ?_
    | refine wG_pure (e_ia_vwn rfl rfl (by omega) (by omega) rfl) ?_
    | refine wG_n rfl rfl ?_
    | refine wG_u rfl rfl ?_
    | refine wG_new (o_mks rfl rfl (by omega) (by decide)) ?_)
      exact ret_pl (.inr rfl) (retVs_3 (retV_mv rfl) (retV_mv rfl) (retV_mv rfl)) rfl rfl (by simp)
  · rw [decide_eq_false hG] at c1
    repeat (first | refine wG_call cx rfl rfl ?_ | refine wG_call cy rfl rfl ?_ | refine wG_call c1 rfl rfl ?_ | (first
    | refine wC_a rfl ?_
    | refine q_s rfl ?_
    | refine q_b rfl ?_
    | refine wG_nil ?_
    | refine wG_g rfl ?_
    | refine wG_pure (o_len_vwm rfl) ?_
    | refine wG_pure (o_not_d rfl) ?_
    | refine wG_p rfl (by first | exact rfl | omega) ?_
    | refine wG_pure (o_str2 rfl rfl rfl) ?_
    | refine wG_pure (e_istr rfl rfl (by omega)) ?_
    | refine wG_pure (e_istr0 rfl rfl (by omega)) ?_
    | refine wG_pure (o_not rfl) ?_
    | refine wG_pure (e_ia_vw0 rfl rfl (by omega) rfl) ?_
    | refine wG_pure (e_ia_vwp rfl rfl (by omega) rfl) ?_
    | refine wG_pure (e_ia_vwm rfl rfl (by omega) (by omega) rfl) ?_
    | refine wG_pure (e_ia_vwi rfl rfl (by omega) rfl) ?_
    | refine wG_pure (e_ia_vwn rfl rfl (by omega) (by omega) rfl) ?_
    | refine wG_n rfl rfl ?_
    | refine wG_u rfl rfl ?_
    | refine wG_new (o_mks rfl rfl (by omega) (by decide)) ?_))
    exact ret_pl (.inr rfl) (retVs_3 (retV_mv rfl) (retV_mv rfl) (retV_mv rfl)) rfl rfl (by simp)
def hsO (a b c : Bool) (r : Rc) (xs : List Dn) (i k : Nat) (s : Int × Int) : List (Nat × Option Ab.Rows) := [(4, some [[.int .i64 s.2]]), (3, some [[.int .i64 s.1]]), (2, some [[.int .i64 (k : Int)]]), (1, some [[.int .i64 (i : Int)]]), (0, some [dtR a b c r xs])]
theorem hsO_wf {a b c : Bool} {r : Rc} {xs : List Dn} {i k nr : Nat} (h : 5 ≤ nr) (s : Int × Int) : wfH (hsO a b c r xs i k s) nr :=
  wfH_cons (by omega) (by simp [AV.ltr]) (wfH_cons (by omega) (by simp [AV.ltr]) (wfH_cons (by omega) (by simp [AV.ltr]) (wfH_cons (by omega) (by simp [AV.ltr]) (wfH_cons (by omega) (dtR_ltr1 _) wfH_nil))))
theorem vis_O {a b c : Bool} {r : Rc} {xs : List Dn} {i k : Nat} (hi : i < xs.length) (hk : k < xs.length) (s : Int × Int) (ys : List Int) (hy : ys.length = xs.length) (w : Int) : Sh Try.prog 71 ([.sl (5 + 2) 1 0 xs.length, .int .i64 w] ++ [.pt 4 0 0, .pt 1 0 0, .pt 2 0 0, .pt 3 0 0]) (eF (dtR a b c r xs) 5 71 [.pt 4 0 0, .pt 1 0 0, .pt 2 0 0, .pt 3 0 0] xs.length ys (hsO a b c r xs i k s)) 10 (.tup []) (eF (dtR a b c r xs) 5 71 [.pt 4 0 0, .pt 1 0 0, .pt 2 0 0, .pt 3 0 0] xs.length ys (hsO a b c r xs i k (stO i k s ys w))) 10 := by
  refine sh_of_wp mixed fun71 (by simp) ?_
  unfold ac71 ro71
  simp only [zipT, List.cons_append, List.nil_append]
  have e0 : ∀ n : Nat, 0 + ((n : Int)).toNat = n := fun n => by simp
  have gi : (ys.map iRow)[i]? = some (iRow (ys.getD i default)) := by
    simp [List.getElem?_map, List.getElem?_eq_getElem (show i < ys.length by omega), List.getD_eq_getElem?_getD]
  have gk : (ys.map iRow)[k]? = some (iRow (ys.getD k default)) := by
    simp [List.getElem?_map, List.getElem?_eq_getElem (show k < ys.length by omega), List.getD_eq_getElem?_getD]
  repeat (first | (refine wG_pure (e_ia_sl rfl rfl (by omega) (by omega)) ?_; simp only [e0]) | refine wG_pure (o_ldf_pt rfl rfl gi rfl) ?_ | refine wG_pure (o_ldf_pt rfl rfl gk rfl) ?_ | (first
    | refine wC_a rfl ?_
    | refine q_s rfl ?_
    | refine q_b rfl ?_
    | refine wG_nil ?_
    | refine wG_g rfl ?_
    | refine wG_pure (o_len_vwm rfl) ?_
    | refine wG_pure (o_not_d rfl) ?_
    | refine wG_p rfl (by first | exact rfl | omega) ?_
    | refine wG_pure (o_str2 rfl rfl rfl) ?_
    | refine wG_pure (e_istr rfl rfl (by omega)) ?_
    | refine wG_pure (e_istr0 rfl rfl (by omega)) ?_
    | refine wG_pure (o_not rfl) ?_
    | refine wG_pure (e_ia_vw0 rfl rfl (by omega) rfl) ?_
    | refine wG_pure (e_ia_vwp rfl rfl (by omega) rfl) ?_
    | refine wG_pure (e_ia_vwm rfl rfl (by omega) (by omega) rfl) ?_
    | refine wG_pure (e_ia_vwi rfl rfl (by omega) rfl) ?_
    | refine wG_pure (e_ia_vwn rfl rfl (by omega) (by omega) rfl) ?_
    | refine wG_n rfl rfl ?_
    | refine wG_u rfl rfl ?_
    | refine wG_new (o_mks rfl rfl (by omega) (by decide)) ?_) | refine wG_pure (o_addw rfl rfl) ?_)
  refine wC_cond_d rfl (fun h6 => ?_) (fun h6 => ?_)
  · repeat (first | (first
    | refine wC_a rfl ?_
    | refine q_s rfl ?_
    | refine q_b rfl ?_
    | refine wG_nil ?_
    | refine wG_g rfl ?_
    | refine wG_pure (o_len_vwm rfl) ?_
    | refine wG_pure (o_not_d rfl) ?_
    | refine wG_p rfl (by first | exact rfl | omega) ?_
    | refine wG_pure (o_str2 rfl rfl rfl) ?_
    | refine wG_pure (e_istr rfl rfl (by omega)) ?_
    | refine wG_pure (e_istr0 rfl rfl (by omega)) ?_
    | refine wG_pure (o_not rfl) ?_
    | refine wG_pure (e_ia_vw0 rfl rfl (by omega) rfl) ?_
    | refine wG_pure (e_ia_vwp rfl rfl (by omega) rfl) ?_
    | refine wG_pure (e_ia_vwm rfl rfl (by omega) (by omega) rfl) ?_
    | refine wG_pure (e_ia_vwi rfl rfl (by omega) rfl) ?_
    | refine wG_pure (e_ia_vwn rfl rfl (by omega) (by omega) rfl) ?_
    | refine wG_n rfl rfl ?_
    | refine wG_u rfl rfl ?_
    | refine wG_new (o_mks rfl rfl (by omega) (by decide)) ?_) | refine wG_pure (o_addw rfl rfl) ?_)
    refine ⟨trivial, [], rfl, Le_of ⟨⟨rfl, rfl⟩, trivial⟩ (fun q rows hq => ?_) (eF_wf (nr := 10) (by decide) (dtR_ltr _) rfl (hsO_wf (by decide) _)), Nat.le_refl _⟩
    refine Eq.trans ?_ hq
    simp only [eF, hsO, stO, if_pos h6, Ab.hg, upd]
    by_cases e3 : q = 3
    · subst e3; rfl
    by_cases e4 : q = 4
    · subst e4; rfl
    simp only [if_neg e3, if_neg e4]
  · repeat (first | (first
    | refine wC_a rfl ?_
    | refine q_s rfl ?_
    | refine q_b rfl ?_
    | refine wG_nil ?_
    | refine wG_g rfl ?_
    | refine wG_pure (o_len_vwm rfl) ?_
    | refine wG_pure (o_not_d rfl) ?_
    | refine wG_p rfl (by first | exact rfl | omega) ?_
    | refine wG_pure (o_str2 rfl rfl rfl) ?_
    | refine wG_pure (e_istr rfl rfl (by omega)) ?_
    | refine wG_pure (e_istr0 rfl rfl (by omega)) ?_
    | refine wG_pure (o_not rfl) ?_
    | refine wG_pure (e_ia_vw0 rfl rfl (by omega) rfl) ?_
    | refine wG_pure (e_ia_vwp rfl rfl (by omega) rfl) ?_
    | refine wG_pure (e_ia_vwm rfl rfl (by omega) (by omega) rfl) ?_
    | refine wG_pure (e_ia_vwi rfl rfl (by omega) rfl) ?_
    | refine wG_pure (e_ia_vwn rfl rfl (by omega) (by omega) rfl) ?_
    | refine wG_n rfl rfl ?_
    | refine wG_u rfl rfl ?_
    | refine wG_new (o_mks rfl rfl (by omega) (by decide)) ?_) | refine wG_pure (o_addw rfl rfl) ?_)
    refine ⟨trivial, [], rfl, Le_of ⟨⟨rfl, rfl⟩, trivial⟩ (fun q rows hq => ?_) (eF_wf (nr := 10) (by decide) (dtR_ltr _) rfl (hsO_wf (by decide) _)), Nat.le_refl _⟩
    refine Eq.trans ?_ hq
    simp only [eF, hsO, stO, if_neg h6, Ab.hg, upd]
    by_cases e3 : q = 3
    · subst e3; rfl
    by_cases e4 : q = 4
    · subst e4; rfl
    simp only [if_neg e3, if_neg e4]
theorem con32_yes (a b c : Bool) (r : Rc) (xs : List Dn) (x y : Int) (h1 : r.cs.length ≤ 1048576) (h2 : r.xs.length ≤ 1048576) (h3 : xs.length ≤ 1048576) (hL : LenN xs 1048576) (hG : GoodN r xs) {i k : Nat} (hi : idx r x = i) (hk : idx r y = k) : Con Try.prog 32 true [.agg (dtR a b c r xs), .int .i64 x, .int .i64 y] (.tup [.int .i64 (coS r xs i k (cp xs xs.length)).1, .int .i64 (coS r xs i k (cp xs xs.length)).2, .bool true]) [] := by
  classical
  refine con_of_wp mixed fun32 (by simp) [] plain_nil ?_
  unfold ac32 ro32
  simp only [zipT]
  have c1 := con24 a b c r xs h1 h2 h3 hL
  rw [decide_eq_true hG] at c1
  have cx := con53 a b r x h1
  have cy := con53 a b r y h1
  have bx := idx_b r x
  have bY := idx_b r y
  have hnl := hG.2.1
  rw [hi] at cx bx
  rw [hk] at cy bY
  have d1 : decide ((i : Int) < 0) = false := decide_eq_false (by omega)
  have d2 : decide ((k : Int) < 0) = false := decide_eq_false (by omega)
  have hE := (each_sh (σ := Int × Int) (step := stO i k) (J := fun _ => True) (hs := hsO a b c r xs i k) (nrS := fun _ => 10) (a := a) (b := b) (c := c) (r := r) (xs := xs) (N := 5) (fv := 71) (caps := [.pt 4 0 0, .pt 1 0 0, .pt 2 0 0, .pt 3 0 0]) hG (fun _ => Nat.le_refl _) (fun s _ => hsO_wf (by omega) s) rfl (fun _ _ _ => Nat.le_refl _) (fun s ys w _ hy _ _ => ⟨vis_O (by omega) (by omega) s ys hy w, trivial⟩) (fun s q rows _ hq => by
    by_cases e : q < 5
    · exact .inl e
    · simp [hsO, Ab.hg, upd, show q ≠ 4 by omega, show q ≠ 3 by omega, show q ≠ 2 by omega, show q ≠ 1 by omega, show q ≠ 0 by omega] at hq) (0, 0) trivial rfl h3).1
  rw [each_fd hG] at hE
  change Sh _ _ _ _ _ _ (hsO a b c r xs i k (coS r xs i k (cp xs xs.length))) 10 at hE
  generalize coS r xs i k (cp xs xs.length) = z at *
  have hE2 : Sh Try.prog 69 [.agg (dtR a b c r xs), .fn 71 [.pt 4 0 0, .pt 1 0 0, .pt 2 0 0, .pt 3 0 0]] [(4, some [[.int .i64 0]]), (3, some [[.int .i64 0]]), (4, some [[.int .i64 0]]), (3, some [[.int .i64 0]]), (2, some [[.int .i64 (k : Int)]]), (1, some [[.int .i64 (i : Int)]]), (2, some [[.int .i64 0]]), (1, some [[.int .i64 0]]), (0, some [dtR a b c r xs])] 5 (.tup []) (hsO a b c r xs i k z) 10 := by
    refine Sh_hg ?_ hE
    funext q
    simp only [hsO, Ab.hg, upd]
    repeat' split
    all_goals (first | rfl | (exfalso; omega) | omega)
  repeat (first | refine wC_dregE ?_ | refine wG_call c1 rfl rfl ?_ | refine wG_call cx rfl rfl ?_ | refine wG_call cy rfl rfl ?_ | refine wE_call cx rfl rfl rfl ?_ | refine wE_call cy rfl rfl rfl ?_ | refine wG_pure (o_mkf rfl) ?_ | refine wG_callS hE2 rfl ?_ | (first
    | refine wC_a rfl ?_
    | refine q_s rfl ?_
    | refine q_b rfl ?_
    | refine wG_nil ?_
    | refine wG_g rfl ?_
    | refine wG_pure (o_len_vwm rfl) ?_
    | refine wG_pure (o_not_d rfl) ?_
    | refine wG_p rfl (by first | exact rfl | omega) ?_
    | refine wG_pure (o_str2 rfl rfl rfl) ?_
    | refine wG_pure (e_istr rfl rfl (by omega)) ?_
    | refine wG_pure (e_istr0 rfl rfl (by omega)) ?_
    | refine wG_pure (o_not rfl) ?_
    | refine wG_pure (e_ia_vw0 rfl rfl (by omega) rfl) ?_
    | refine wG_pure (e_ia_vwp rfl rfl (by omega) rfl) ?_
    | refine wG_pure (e_ia_vwm rfl rfl (by omega) (by omega) rfl) ?_
    | refine wG_pure (e_ia_vwi rfl rfl (by omega) rfl) ?_
    | refine wG_pure (e_ia_vwn rfl rfl (by omega) (by omega) rfl) ?_
    | refine wG_n rfl rfl ?_
    | refine wG_u rfl rfl ?_
    | refine wG_new (o_mks rfl rfl (by omega) (by decide)) ?_) | (first
    | refine wE_nil (by kernel_rfl) ?_
    | refine wE_gy rfl ?_
    | refine wE_gn rfl rfl rfl ?_
    | refine wE_gu rfl rfl ?_
    | refine wE_gnn rfl rfl rfl ?_
    | refine wE_v (o_len_vwm rfl) rfl ?_
    | refine wE_v (o_not_d rfl) rfl ?_
    | refine wE_p rfl (by first | exact rfl | omega) rfl ?_
    | refine wE_v (o_str2 rfl rfl rfl) rfl ?_
    | refine wE_v (e_istr rfl rfl (by omega)) rfl ?_
    | refine wE_v (e_istr0 rfl rfl (by omega)) rfl ?_
    | refine wE_v (o_not rfl) rfl ?_
    | refine wE_v (e_ia_vw0 rfl rfl (by omega) rfl) rfl ?_
    | refine wE_v (e_ia_vwp rfl rfl (by omega) rfl) rfl ?_
    | refine wE_v (e_ia_vwm rfl rfl (by omega) (by omega) rfl) rfl ?_
    | refine wE_v (e_ia_vwi rfl rfl (by omega) rfl) rfl ?_
    | refine wE_v (e_ia_vwn rfl rfl (by omega) (by omega) rfl) rfl ?_
    | refine wE_n rfl rfl rfl ?_
    | refine wE_u rfl rfl rfl ?_
    | refine wE_new (o_mks rfl rfl (by omega) (by decide)) rfl ?_))
  exact ret_pl (.inr rfl) (retVs_3 (retV_mv rfl) (retV_mv rfl) (retV_mv rfl)) rfl rfl (by simp)
theorem con32_no (a b c : Bool) (r : Rc) (xs : List Dn) (x y : Int) (h1 : r.cs.length ≤ 1048576) (h2 : r.xs.length ≤ 1048576) (h3 : xs.length ≤ 1048576) (hL : LenN xs 1048576) (hk : ¬ okO r xs x y) : Con Try.prog 32 true [.agg (dtR a b c r xs), .int .i64 x, .int .i64 y] (.tup [.int .i64 0, .int .i64 0, .bool false]) [] := by
  classical
  refine con_of_wp mixed fun32 (by simp) [] plain_nil ?_
  unfold ac32 ro32
  simp only [zipT]
  have c1 := con24 a b c r xs h1 h2 h3 hL
  have cx := con53 a b r x h1
  have cy := con53 a b r y h1
  by_cases hG : GoodN r xs
  · rw [decide_eq_true hG] at c1
    repeat (first | refine wG_call cx rfl rfl ?_ | refine wG_call cy rfl rfl ?_ | refine wG_call c1 rfl rfl ?_ | (first
    | refine wC_a rfl ?_
    | refine q_s rfl ?_
    | refine q_b rfl ?_
    | refine wG_nil ?_
    | refine wG_g rfl ?_
    | refine wG_pure (o_len_vwm rfl) ?_
    | refine wG_pure (o_not_d rfl) ?_
    | refine wG_p rfl (by first | exact rfl | omega) ?_
    | refine wG_pure (o_str2 rfl rfl rfl) ?_
    | refine wG_pure (e_istr rfl rfl (by omega)) ?_
    | refine wG_pure (e_istr0 rfl rfl (by omega)) ?_
    | refine wG_pure (o_not rfl) ?_
    | refine wG_pure (e_ia_vw0 rfl rfl (by omega) rfl) ?_
    | refine wG_pure (e_ia_vwp rfl rfl (by omega) rfl) ?_
    | refine wG_pure (e_ia_vwm rfl rfl (by omega) (by omega) rfl) ?_
    | refine wG_pure (e_ia_vwi rfl rfl (by omega) rfl) ?_
    | refine wG_pure (e_ia_vwn rfl rfl (by omega) (by omega) rfl) ?_
    | refine wG_n rfl rfl ?_
    | refine wG_u rfl rfl ?_
    | refine wG_new (o_mks rfl rfl (by omega) (by decide)) ?_))
    by_cases q1 : 0 ≤ idx r x
    · have d1 : decide (idx r x < 0) = false := decide_eq_false (by omega)
      have d2 : decide (idx r y < 0) = true := decide_eq_true (Int.not_le.1 fun h => hk ⟨hG, q1, h⟩)
      simp only [d1]
      repeat (first | refine wG_call cx rfl rfl ?_ | refine wG_call cy rfl rfl ?_ | (first
    | refine wC_a rfl ?_
    | refine q_s rfl ?_
    | refine q_b rfl ?_
    | refine wG_nil ?_
    | refine wG_g rfl ?_
    | refine wG_pure (o_len_vwm rfl) ?_
    | refine wG_pure (o_not_d rfl) ?_
    | refine wG_p rfl (by first | exact rfl | omega) ?_
    | refine wG_pure (o_str2 rfl rfl rfl) ?_
    | refine wG_pure (e_istr rfl rfl (by omega)) ?_
    | refine wG_pure (e_istr0 rfl rfl (by omega)) ?_
    | refine wG_pure (o_not rfl) ?_
    | refine wG_pure (e_ia_vw0 rfl rfl (by omega) rfl) ?_
    | refine wG_pure (e_ia_vwp rfl rfl (by omega) rfl) ?_
    | refine wG_pure (e_ia_vwm rfl rfl (by omega) (by omega) rfl) ?_
    | refine wG_pure (e_ia_vwi rfl rfl (by omega) rfl) ?_
    | refine wG_pure (e_ia_vwn rfl rfl (by omega) (by omega) rfl) ?_
    | refine wG_n rfl rfl ?_
    | refine wG_u rfl rfl ?_
    | refine wG_new (o_mks rfl rfl (by omega) (by decide)) ?_))
      simp only [d2]
      repeat (first
    | refine wC_a rfl ?_
    | refine q_s rfl ?_
    | refine q_b rfl ?_
    | refine wG_nil ?_
    | refine wG_g rfl ?_
    | refine wG_pure (o_len_vwm rfl) ?_
    | refine wG_pure (o_not_d rfl) ?_
    | refine wG_p rfl (by first | exact rfl | omega) ?_
    | refine wG_pure (o_str2 rfl rfl rfl) ?_
    | refine wG_pure (e_istr rfl rfl (by omega)) ?_
    | refine wG_pure (e_istr0 rfl rfl (by omega)) ?_
    | refine wG_pure (o_not rfl) ?_
    | refine wG_pure (e_ia_vw0 rfl rfl (by omega) rfl) ?_
    | refine wG_pure (e_ia_vwp rfl rfl (by omega) rfl) ?_
    | refine wG_pure (e_ia_vwm rfl rfl (by omega) (by omega) rfl) ?_
    | refine wG_pure (e_ia_vwi rfl rfl (by omega) rfl) ?_
    | refine wG_pure (e_ia_vwn rfl rfl (by omega) (by omega) rfl) ?_
    | refine wG_n rfl rfl ?_
    | refine wG_u rfl rfl ?_
    | refine wG_new (o_mks rfl rfl (by omega) (by decide)) ?_)
      exact ret_pl (.inr rfl) (retVs_3 (retV_mv rfl) (retV_mv rfl) (retV_mv rfl)) rfl rfl (by simp)
    · have d1 : decide (idx r x < 0) = true := decide_eq_true (by omega)
      simp only [d1]
      repeat (first
    | refine wC_a rfl ?_
    | refine q_s rfl ?_
    | refine q_b rfl ?_
    | refine wG_nil ?_
    | refine wG_g rfl ?_
    | refine wG_pure (o_len_vwm rfl) ?_
    | refine wG_pure (o_not_d rfl) ?_
    | refine wG_p rfl (by first | exact rfl | omega) ?_
    | refine wG_pure (o_str2 rfl rfl rfl) ?_
    | refine wG_pure (e_istr rfl rfl (by omega)) ?_
    | refine wG_pure (e_istr0 rfl rfl (by omega)) ?_
    | refine wG_pure (o_not rfl) ?_
    | refine wG_pure (e_ia_vw0 rfl rfl (by omega) rfl) ?_
    | refine wG_pure (e_ia_vwp rfl rfl (by omega) rfl) ?_
    | refine wG_pure (e_ia_vwm rfl rfl (by omega) (by omega) rfl) ?_
    | refine wG_pure (e_ia_vwi rfl rfl (by omega) rfl) ?_
    | refine wG_pure (e_ia_vwn rfl rfl (by omega) (by omega) rfl) ?_
    | refine wG_n rfl rfl ?_
    | refine wG_u rfl rfl ?_
    | refine wG_new (o_mks rfl rfl (by omega) (by decide)) ?_)
      exact ret_pl (.inr rfl) (retVs_3 (retV_mv rfl) (retV_mv rfl) (retV_mv rfl)) rfl rfl (by simp)
  · rw [decide_eq_false hG] at c1
    repeat (first | refine wG_call c1 rfl rfl ?_ | (first
    | refine wC_a rfl ?_
    | refine q_s rfl ?_
    | refine q_b rfl ?_
    | refine wG_nil ?_
    | refine wG_g rfl ?_
    | refine wG_pure (o_len_vwm rfl) ?_
    | refine wG_pure (o_not_d rfl) ?_
    | refine wG_p rfl (by first | exact rfl | omega) ?_
    | refine wG_pure (o_str2 rfl rfl rfl) ?_
    | refine wG_pure (e_istr rfl rfl (by omega)) ?_
    | refine wG_pure (e_istr0 rfl rfl (by omega)) ?_
    | refine wG_pure (o_not rfl) ?_
    | refine wG_pure (e_ia_vw0 rfl rfl (by omega) rfl) ?_
    | refine wG_pure (e_ia_vwp rfl rfl (by omega) rfl) ?_
    | refine wG_pure (e_ia_vwm rfl rfl (by omega) (by omega) rfl) ?_
    | refine wG_pure (e_ia_vwi rfl rfl (by omega) rfl) ?_
    | refine wG_pure (e_ia_vwn rfl rfl (by omega) (by omega) rfl) ?_
    | refine wG_n rfl rfl ?_
    | refine wG_u rfl rfl ?_
    | refine wG_new (o_mks rfl rfl (by omega) (by decide)) ?_))
    exact ret_pl (.inr rfl) (retVs_3 (retV_mv rfl) (retV_mv rfl) (retV_mv rfl)) rfl rfl (by simp)
end Go.Proofs.Ytkeobnaehgcloaa.Dst
