/- Models: events and lists of events as the laws hand them over: shapes, sizes, copies, comparison. -/
import Derived.Test.YtnohaclnpbpjbaaNstA
import Derived.Test.YtnohaclnpbpjbaaDwaA
namespace Go.Proofs.Ytnohaclnpbpjbaa.Dst
open Go Go.Proofs.Ytnohaclnpbpjbaa.Ab Go.Proofs.Ytnohaclnpbpjbaa.Il
attribute [local irreducible] wpO wpC wpDr wpQ wpG wpE stepA seqQ blkQ Ret RetG ev
set_option maxRecDepth 10000
set_option maxHeartbeats 8000000
set_option linter.unusedSimpArgs false
set_option linter.unusedVariables false

def ac11 : AC := (.seq (.reg [⟨(some 2), none, (.box 4 true (.t 0))⟩, ⟨(some 4), none, (.mv (.c (.int .i64 0)))⟩]) (.seq (.reg [⟨(some 5), none, (.fa 3 (.t 2))⟩, ⟨(some 6), none, (.ld false 1 (.t 5))⟩, ⟨(some 7), none, (.mv (.t 1))⟩, ⟨(some 8), none, (.call 38 [(.t 6), (.t 7)])⟩, ⟨(some 1), none, (.mv (.t 8))⟩]) (.seq (.seq (.reg [⟨(some 9), none, (.mv (.t 1))⟩, ⟨(some 10), none, (.bin .lss (.t 9) (.c (.int .i64 0)))⟩]) (.cond (.t 10) (.seq (.reg [⟨(some 4), none, (.mv (.c (.int .i64 (-1))))⟩]) .ret) .skip)) (.seq (.reg [⟨(some 11), none, (.mv (.t 1))⟩, ⟨(some 4), none, (.mv (.t 11))⟩]) .ret))))
def ro11 : List AOp := [(.mv (.t 4))]
theorem fun11 : Fun Try.prog 11 12 ac11 ro11 := ⟨Try.f11, _, Try.func11, by kernel_rfl, rfl, rfl, by kernel_rfl, by kernel_rfl, by decide⟩
def ac13 : AC := (.seq (.reg [⟨(some 1), none, (.box 4 true (.t 0))⟩, ⟨(some 2), none, (.alloc [(.int .i64 0), (.int .i64 0), (.int .i64 0), .nilS])⟩]) (.seq (.reg [⟨(some 3), none, (.alloc [(.int .i64 0), (.int .i64 0), (.int .i64 0), .nilS])⟩]) (.seq (.reg [⟨(some 4), none, (.fa 0 (.t 1))⟩, ⟨(some 5), none, (.ld false 1 (.t 4))⟩, ⟨(some 6), none, (.fa 0 (.t 3))⟩, ⟨none, none, (.st 1 (.t 6) (.t 5))⟩]) (.seq (.reg [⟨(some 7), none, (.fa 1 (.t 1))⟩, ⟨(some 8), none, (.ld false 1 (.t 7))⟩, ⟨(some 9), none, (.fa 1 (.t 3))⟩, ⟨none, none, (.st 1 (.t 9) (.t 8))⟩]) (.seq (.reg [⟨(some 10), none, (.fa 2 (.t 1))⟩, ⟨(some 11), none, (.ld false 1 (.t 10))⟩, ⟨(some 12), none, (.fa 2 (.t 3))⟩, ⟨none, none, (.st 1 (.t 12) (.t 11))⟩]) (.seq (.reg [⟨(some 13), none, (.fa 3 (.t 1))⟩, ⟨(some 14), none, (.ld false 1 (.t 13))⟩, ⟨(some 15), none, (.call 40 [(.t 14)])⟩, ⟨(some 16), none, (.fa 3 (.t 3))⟩, ⟨none, none, (.st 1 (.t 16) (.t 15))⟩]) (.seq (.reg [⟨(some 17), none, (.ld true 4 (.t 3))⟩, ⟨none, none, (.st 4 (.t 2) (.t 17))⟩]) .ret)))))))
def ro13 : List AOp := [(.ld true 4 (.t 2))]
theorem fun13 : Fun Try.prog 13 18 ac13 ro13 := ⟨Try.f13, _, Try.func13, by kernel_rfl, rfl, rfl, by kernel_rfl, by kernel_rfl, by decide⟩
def ac15 : AC := (.seq (.reg [⟨(some 2), none, (.box 4 true (.t 0))⟩, ⟨(some 3), none, (.box 4 true (.t 1))⟩, ⟨(some 4), none, (.mv (.c (.bool false)))⟩]) (.seq (.seq (.reg [⟨(some 5), none, (.fa 0 (.t 2))⟩, ⟨(some 6), none, (.ld false 1 (.t 5))⟩, ⟨(some 7), none, (.fa 0 (.t 3))⟩, ⟨(some 8), none, (.ld false 1 (.t 7))⟩, ⟨(some 9), none, (.bin .neq (.t 6) (.t 8))⟩]) (.cond (.t 9) (.seq (.reg [⟨(some 4), none, (.mv (.c (.bool false)))⟩]) .ret) .skip)) (.seq (.seq (.reg [⟨(some 10), none, (.fa 1 (.t 2))⟩, ⟨(some 11), none, (.ld false 1 (.t 10))⟩, ⟨(some 12), none, (.fa 1 (.t 3))⟩, ⟨(some 13), none, (.ld false 1 (.t 12))⟩, ⟨(some 14), none, (.bin .neq (.t 11) (.t 13))⟩]) (.cond (.t 14) (.seq (.reg [⟨(some 4), none, (.mv (.c (.bool false)))⟩]) .ret) .skip)) (.seq (.seq (.reg [⟨(some 15), none, (.fa 2 (.t 2))⟩, ⟨(some 16), none, (.ld false 1 (.t 15))⟩, ⟨(some 17), none, (.fa 2 (.t 3))⟩, ⟨(some 18), none, (.ld false 1 (.t 17))⟩, ⟨(some 19), none, (.bin .neq (.t 16) (.t 18))⟩]) (.cond (.t 19) (.seq (.reg [⟨(some 4), none, (.mv (.c (.bool false)))⟩]) .ret) .skip)) (.seq (.seq (.reg [⟨(some 20), none, (.fa 3 (.t 2))⟩, ⟨(some 21), none, (.ld false 1 (.t 20))⟩, ⟨(some 22), none, (.fa 3 (.t 3))⟩, ⟨(some 23), none, (.ld false 1 (.t 22))⟩, ⟨(some 24), none, (.call 45 [(.t 21), (.t 23)])⟩, ⟨(some 25), none, (.un .not (.t 24))⟩]) (.cond (.t 25) (.seq (.reg [⟨(some 4), none, (.mv (.c (.bool false)))⟩]) .ret) .skip)) (.seq (.reg [⟨(some 4), none, (.mv (.c (.bool true)))⟩]) .ret))))))
def ro15 : List AOp := [(.mv (.t 4))]
theorem fun15 : Fun Try.prog 15 26 ac15 ro15 := ⟨Try.f15, _, Try.func15, by kernel_rfl, rfl, rfl, by kernel_rfl, by kernel_rfl, by decide⟩
def ac38 : AC := (.seq (.reg [⟨(some 4), none, (.mv (.c (.int .i64 0)))⟩]) (.seq (.reg [⟨(some 6), none, (.mv (.t 1))⟩, ⟨(some 7), none, (.mv (.t 0))⟩, ⟨(some 8), none, (.len (.t 7))⟩, ⟨(some 9), none, (.bin .sub (.t 6) (.t 8))⟩, ⟨(some 1), none, (.mv (.t 9))⟩]) (.seq (.seq (.reg [⟨(some 10), none, (.mv (.t 1))⟩, ⟨(some 11), none, (.bin .lss (.t 10) (.c (.int .i64 0)))⟩]) (.cond (.t 11) (.seq (.reg [⟨(some 4), none, (.mv (.c (.int .i64 (-1))))⟩]) .ret) .skip)) (.seq (.seq (.reg [⟨(some 5), none, (.mv (.c (.int .i64 0)))⟩]) (.blk 0 (.loop (.seq (.seq (.reg [⟨(some 12), none, (.mv (.t 5))⟩, ⟨(some 13), none, (.mv (.t 0))⟩, ⟨(some 14), none, (.len (.t 13))⟩, ⟨(some 15), none, (.bin .lss (.t 12) (.t 14))⟩]) (.cond (.t 15) .skip (.exit 0))) (.seq (.blk 1 (.seq (.reg [⟨(some 18), none, (.mv (.t 0))⟩, ⟨(some 19), none, (.mv (.t 5))⟩, ⟨(some 20), none, (.ia 4 (.t 18) (.t 19))⟩, ⟨(some 21), none, (.ld true 4 (.t 20))⟩, ⟨(some 22), none, (.mv (.t 1))⟩, ⟨(some 23), none, (.call 80 [(.t 21), (.t 22)])⟩, ⟨(some 1), none, (.mv (.t 23))⟩]) (.seq (.reg [⟨(some 24), none, (.mv (.t 1))⟩, ⟨(some 25), none, (.bin .lss (.t 24) (.c (.int .i64 0)))⟩]) (.cond (.t 25) (.seq (.reg [⟨(some 4), none, (.mv (.c (.int .i64 (-1))))⟩]) .ret) .skip)))) (.reg [⟨(some 16), none, (.mv (.t 5))⟩, ⟨(some 17), none, (.bin .add (.t 16) (.c (.int .i64 1)))⟩, ⟨(some 5), none, (.mv (.t 17))⟩])))))) (.seq (.reg [⟨(some 26), none, (.mv (.t 1))⟩, ⟨(some 4), none, (.mv (.t 26))⟩]) .ret)))))
def ro38 : List AOp := [(.mv (.t 4))]
theorem fun38 : Fun Try.prog 38 27 ac38 ro38 := ⟨Try.f38, _, Try.func38, by kernel_rfl, rfl, rfl, by kernel_rfl, by kernel_rfl, by decide⟩
def ac40 : AC := (.seq (.reg [⟨(some 2), none, (.mv (.c .nilS))⟩]) (.seq (.reg [⟨(some 5), none, (.mv (.t 0))⟩, ⟨(some 6), none, (.len (.t 5))⟩, ⟨(some 7), none, (.mks 4 48 [(.int .i64 0), (.int .i64 0), .nilS, (.int .i64 0)] (.t 6) (.t 6))⟩, ⟨(some 3), none, (.mv (.t 7))⟩]) (.seq (.seq (.reg [⟨(some 4), none, (.mv (.c (.int .i64 0)))⟩]) (.blk 0 (.loop (.seq (.seq (.reg [⟨(some 8), none, (.mv (.t 4))⟩, ⟨(some 9), none, (.mv (.t 0))⟩, ⟨(some 10), none, (.len (.t 9))⟩, ⟨(some 11), none, (.bin .lss (.t 8) (.t 10))⟩]) (.cond (.t 11) .skip (.exit 0))) (.seq (.blk 1 (.reg [⟨(some 14), none, (.mv (.t 3))⟩, ⟨(some 15), none, (.mv (.t 4))⟩, ⟨(some 16), none, (.mv (.t 0))⟩, ⟨(some 17), none, (.mv (.t 4))⟩, ⟨(some 18), none, (.ia 4 (.t 16) (.t 17))⟩, ⟨(some 19), none, (.ld true 4 (.t 18))⟩, ⟨(some 20), none, (.call 81 [(.t 19)])⟩, ⟨(some 21), none, (.ia 4 (.t 14) (.t 15))⟩, ⟨none, none, (.st 4 (.t 21) (.t 20))⟩])) (.reg [⟨(some 12), none, (.mv (.t 4))⟩, ⟨(some 13), none, (.bin .add (.t 12) (.c (.int .i64 1)))⟩, ⟨(some 4), none, (.mv (.t 13))⟩])))))) (.seq (.reg [⟨(some 22), none, (.mv (.t 3))⟩, ⟨(some 2), none, (.mv (.t 22))⟩]) .ret))))
def ro40 : List AOp := [(.mv (.t 2))]
theorem fun40 : Fun Try.prog 40 23 ac40 ro40 := ⟨Try.f40, _, Try.func40, by kernel_rfl, rfl, rfl, by kernel_rfl, by kernel_rfl, by decide⟩
def ac45 : AC := (.seq (.reg [⟨(some 4), none, (.mv (.c (.bool false)))⟩]) (.seq (.seq (.reg [⟨(some 6), none, (.mv (.t 0))⟩, ⟨(some 7), none, (.len (.t 6))⟩, ⟨(some 8), none, (.mv (.t 1))⟩, ⟨(some 9), none, (.len (.t 8))⟩, ⟨(some 10), none, (.bin .neq (.t 7) (.t 9))⟩]) (.cond (.t 10) (.seq (.reg [⟨(some 4), none, (.mv (.c (.bool false)))⟩]) .ret) .skip)) (.seq (.seq (.reg [⟨(some 5), none, (.mv (.c (.int .i64 0)))⟩]) (.blk 0 (.loop (.seq (.seq (.reg [⟨(some 11), none, (.mv (.t 5))⟩, ⟨(some 12), none, (.mv (.t 0))⟩, ⟨(some 13), none, (.len (.t 12))⟩, ⟨(some 14), none, (.bin .lss (.t 11) (.t 13))⟩]) (.cond (.t 14) .skip (.exit 0))) (.seq (.blk 1 (.seq (.dreg [⟨(some 17), none, (.mv (.t 0))⟩, ⟨(some 18), none, (.mv (.t 5))⟩, ⟨(some 19), none, (.ia 4 (.t 17) (.t 18))⟩, ⟨(some 20), none, (.ld true 4 (.t 19))⟩, ⟨(some 21), none, (.mv (.t 1))⟩, ⟨(some 22), none, (.mv (.t 5))⟩, ⟨(some 23), none, (.ia 4 (.t 21) (.t 22))⟩, ⟨(some 24), none, (.ld true 4 (.t 23))⟩, ⟨(some 25), none, (.call 86 [(.t 20), (.t 24)])⟩, ⟨(some 26), none, (.un .not (.t 25))⟩] [[], [], [0, 1], [0, 1, 2], [], [], [4, 5], [4, 5, 6], [0, 1, 2, 3, 4, 5, 6, 7], [0, 1, 2, 3, 4, 5, 6, 7, 8]]) (.cond (.t 26) (.seq (.reg [⟨(some 4), none, (.mv (.c (.bool false)))⟩]) .ret) .skip))) (.reg [⟨(some 15), none, (.mv (.t 5))⟩, ⟨(some 16), none, (.bin .add (.t 15) (.c (.int .i64 1)))⟩, ⟨(some 5), none, (.mv (.t 16))⟩])))))) (.seq (.reg [⟨(some 4), none, (.mv (.c (.bool true)))⟩]) .ret))))
def ro45 : List AOp := [(.mv (.t 4))]
theorem fun45 : Fun Try.prog 45 27 ac45 ro45 := ⟨Try.f45, _, Try.func45, by kernel_rfl, rfl, rfl, by kernel_rfl, by kernel_rfl, by decide⟩
def ac80 : AC := (.seq (.reg [⟨(some 2), none, (.box 4 true (.t 0))⟩, ⟨(some 4), none, (.mv (.c (.int .i64 0)))⟩]) (.seq (.reg [⟨(some 5), none, (.fa 1 (.t 2))⟩, ⟨(some 6), none, (.ld true 2 (.t 5))⟩, ⟨(some 7), none, (.mv (.t 1))⟩, ⟨(some 8), none, (.call 46 [(.t 6), (.t 7)])⟩, ⟨(some 1), none, (.mv (.t 8))⟩]) (.seq (.seq (.reg [⟨(some 9), none, (.mv (.t 1))⟩, ⟨(some 10), none, (.bin .lss (.t 9) (.c (.int .i64 0)))⟩]) (.cond (.t 10) (.seq (.reg [⟨(some 4), none, (.mv (.c (.int .i64 (-1))))⟩]) .ret) .skip)) (.seq (.reg [⟨(some 11), none, (.mv (.t 1))⟩, ⟨(some 4), none, (.mv (.t 11))⟩]) .ret))))
def ro80 : List AOp := [(.mv (.t 4))]
theorem fun80 : Fun Try.prog 80 12 ac80 ro80 := ⟨Try.f80, _, Try.func80, by kernel_rfl, rfl, rfl, by kernel_rfl, by kernel_rfl, by decide⟩
def ac81 : AC := (.seq (.reg [⟨(some 1), none, (.box 4 true (.t 0))⟩, ⟨(some 2), none, (.alloc [(.int .i64 0), (.int .i64 0), .nilS, (.int .i64 0)])⟩]) (.seq (.reg [⟨(some 3), none, (.alloc [(.int .i64 0), (.int .i64 0), .nilS, (.int .i64 0)])⟩]) (.seq (.reg [⟨(some 4), none, (.fa 0 (.t 1))⟩, ⟨(some 5), none, (.ld false 1 (.t 4))⟩, ⟨(some 6), none, (.fa 0 (.t 3))⟩, ⟨none, none, (.st 1 (.t 6) (.t 5))⟩]) (.seq (.reg [⟨(some 7), none, (.fa 1 (.t 1))⟩, ⟨(some 8), none, (.ld true 2 (.t 7))⟩, ⟨(some 9), none, (.call 54 [(.t 8)])⟩, ⟨(some 10), none, (.fa 1 (.t 3))⟩, ⟨none, none, (.st 2 (.t 10) (.t 9))⟩]) (.seq (.reg [⟨(some 11), none, (.fa 3 (.t 1))⟩, ⟨(some 12), none, (.ld false 1 (.t 11))⟩, ⟨(some 13), none, (.fa 3 (.t 3))⟩, ⟨none, none, (.st 1 (.t 13) (.t 12))⟩]) (.seq (.reg [⟨(some 14), none, (.ld true 4 (.t 3))⟩, ⟨none, none, (.st 4 (.t 2) (.t 14))⟩]) .ret))))))
def ro81 : List AOp := [(.ld true 4 (.t 2))]
theorem fun81 : Fun Try.prog 81 15 ac81 ro81 := ⟨Try.f81, _, Try.func81, by kernel_rfl, rfl, rfl, by kernel_rfl, by kernel_rfl, by decide⟩
def ac86 : AC := (.seq (.reg [⟨(some 2), none, (.box 4 true (.t 0))⟩, ⟨(some 3), none, (.box 4 true (.t 1))⟩, ⟨(some 4), none, (.mv (.c (.bool false)))⟩]) (.seq (.seq (.reg [⟨(some 5), none, (.fa 0 (.t 2))⟩, ⟨(some 6), none, (.ld false 1 (.t 5))⟩, ⟨(some 7), none, (.fa 0 (.t 3))⟩, ⟨(some 8), none, (.ld false 1 (.t 7))⟩, ⟨(some 9), none, (.bin .neq (.t 6) (.t 8))⟩]) (.cond (.t 9) (.seq (.reg [⟨(some 4), none, (.mv (.c (.bool false)))⟩]) .ret) .skip)) (.seq (.seq (.reg [⟨(some 10), none, (.fa 1 (.t 2))⟩, ⟨(some 11), none, (.ld true 2 (.t 10))⟩, ⟨(some 12), none, (.fa 1 (.t 3))⟩, ⟨(some 13), none, (.ld true 2 (.t 12))⟩, ⟨(some 14), none, (.call 20 [(.t 11), (.t 13)])⟩, ⟨(some 15), none, (.un .not (.t 14))⟩]) (.cond (.t 15) (.seq (.reg [⟨(some 4), none, (.mv (.c (.bool false)))⟩]) .ret) .skip)) (.seq (.seq (.reg [⟨(some 16), none, (.fa 3 (.t 2))⟩, ⟨(some 17), none, (.ld false 1 (.t 16))⟩, ⟨(some 18), none, (.fa 3 (.t 3))⟩, ⟨(some 19), none, (.ld false 1 (.t 18))⟩, ⟨(some 20), none, (.bin .neq (.t 17) (.t 19))⟩]) (.cond (.t 20) (.seq (.reg [⟨(some 4), none, (.mv (.c (.bool false)))⟩]) .ret) .skip)) (.seq (.reg [⟨(some 4), none, (.mv (.c (.bool true)))⟩]) .ret)))))
def ro86 : List AOp := [(.mv (.t 4))]
theorem fun86 : Fun Try.prog 86 21 ac86 ro86 := ⟨Try.f86, _, Try.func86, by kernel_rfl, rfl, rfl, by kernel_rfl, by kernel_rfl, by decide⟩

instance : Inhabited Ds := ⟨⟨0, []⟩⟩
structure Ev where
  b : Bool
  p : Int
  d : Ds
  o : Int
instance : Inhabited Ev := ⟨⟨false, 0, default, 0⟩⟩
def hE : Hol Ev where
  g := fun x v => [.int .i64 x.p, .int .i64 x.d.f, v, .int .i64 x.o]
  w := fun x => x.d.ws
  sh := fun n x v => rfl
  rn := fun π x v => rfl
  dr := fun H m x v => rfl
  mem := fun x v y hy => by
    simp only [List.mem_cons, List.not_mem_nil, or_false] at hy
    rcases hy with rfl | rfl | rfl | rfl
    · exact .inl rfl
    · exact .inl rfl
    · exact .inr rfl
    · exact .inl rfl
/-- An event, by content. -/
def nE (x : Ev) : List AV := [.int .i64 x.p, .int .i64 x.d.f, .vw x.b (x.d.ws.map iRow), .int .i64 x.o]
def tE (xs : List Ev) : List Ev := xs.map fun x => ⟨true, x.p, x.d, x.o⟩
theorem cR_nE (xs : List Ev) : xs.map (cR hE true) = (tE xs).map nE := by unfold tE; rw [List.map_map]; rfl
theorem tE_len (xs : List Ev) : (tE xs).length = xs.length := by simp [tE]
theorem tE_d (xs : List Ev) (i : Nat) : ((tE xs).getD i default).d = (xs.getD i default).d := by
  by_cases h : i < xs.length
  · simp [tE, List.getD_eq_getElem?_getD, List.getElem?_map, List.getElem?_eq_getElem h]
  · simp [tE, List.getD_eq_getElem?_getD, List.getElem?_map, List.getElem?_eq_none (by omega : xs.length ≤ i)]
theorem nE_get {xs : List Ev} {i : Nat} (h : i < xs.length) : (xs.map nE)[i]? = some (nE (xs.getD i default)) := by
  simp [List.getElem?_map, List.getElem?_eq_getElem h, List.getD_eq_getElem?_getD]
def LenE (xs : List Ev) (B : Nat) : Prop := ∀ i, i < xs.length → (xs.getD i default).d.ws.length ≤ B
theorem LenE.t {xs : List Ev} {B : Nat} (h : LenE xs B) : LenE (tE xs) B := fun i hi => by rw [tE_d]; exact h i (by rwa [tE_len] at hi)

/-! ### The size -/
def szN (xs : List Ev) (l : Int) : Nat → Int
  | 0 => l
  | i + 1 => szN xs l i - ((xs.getD i default).d.ws.length : Int)
theorem szN_le (xs : List Ev) (l : Int) : ∀ i, szN xs l i ≤ l
  | 0 => Int.le_refl _
  | i + 1 => by
    have := szN_le xs l i
    rw [szN]; omega
theorem szN_mono (xs : List Ev) (l : Int) (i : Nat) : ∀ d, szN xs l (i + d) ≤ szN xs l i
  | 0 => Int.le_refl _
  | d + 1 => by
    have := szN_mono xs l i d
    show szN xs l (i + d) - _ ≤ _
    omega
theorem szN_len {xs : List Ev} {l : Int} {n : Nat} (h : 0 ≤ szN xs l n) {i : Nat} (hi : i < n) : ((xs.getD i default).d.ws.length : Int) ≤ l := by
  have h1 := szN_mono xs l (i + 1) (n - (i + 1))
  rw [show i + 1 + (n - (i + 1)) = n by omega] at h1
  have h2 := szN_le xs l i
  rw [szN] at h1
  omega
def szD (l : Int) (xs : List Ev) : Int := if l - xs.length < 0 then -1 else if szN xs (l - xs.length) xs.length < 0 then -1 else szN xs (l - xs.length) xs.length
theorem szD_ok {xs : List Ev} {l : Int} (h : 0 ≤ szD l xs) : (xs.length : Int) ≤ l ∧ (∀ i, i < xs.length → ((xs.getD i default).d.ws.length : Int) ≤ l) ∧ szD l xs ≤ l := by
  unfold szD at h ⊢
  by_cases h1 : l - (xs.length : Int) < 0
  · rw [if_pos h1] at h; omega
  · rw [if_neg h1] at h ⊢
    by_cases h2 : szN xs (l - xs.length) xs.length < 0
    · rw [if_pos h2] at h; omega
    · rw [if_neg h2] at h ⊢
      have h3 := szN_le xs (l - xs.length) xs.length
      exact ⟨by omega, fun i hi => by have := szN_len h hi; omega, by omega⟩
def sL (xs : List Ev) : Nat → Nat
  | 0 => 0
  | i + 1 => sL xs i + (xs.getD i default).d.ws.length
theorem szN_sL (xs : List Ev) (l : Int) : ∀ i, szN xs l i = l - sL xs i
  | 0 => by simp [szN, sL]
  | i + 1 => by rw [szN, szN_sL xs l i, sL]; omega
theorem sL_mono (xs : List Ev) (i : Nat) : ∀ d, sL xs i ≤ sL xs (i + d)
  | 0 => Nat.le_refl _
  | d + 1 => by
    have := sL_mono xs i d
    show _ ≤ sL xs (i + d) + _
    omega
theorem sL_le {xs : List Ev} {i n : Nat} (h : i ≤ n) : sL xs i ≤ sL xs n := by
  have := sL_mono xs i (n - i)
  rwa [show i + (n - i) = n by omega] at this
theorem szD_sum {xs : List Ev} {l : Int} (h : 0 ≤ szD l xs) : (xs.length : Int) + sL xs xs.length ≤ l := by
  unfold szD at h
  by_cases h1 : l - (xs.length : Int) < 0
  · rw [if_pos h1] at h; omega
  · rw [if_neg h1] at h
    by_cases h2 : szN xs (l - xs.length) xs.length < 0
    · rw [if_pos h2] at h; omega
    · rw [szN_sL] at h2; omega

/-! ### Events -/
theorem con80 (x : Ev) (hlen : x.d.ws.length ≤ 9223372036854775807) (left : Int) (h0 : 0 ≤ left) (h1 : left ≤ 1048576) : Con Try.prog 80 true [.agg (nE x), .int .i64 left] (.int .i64 (if (x.d.ws.length : Int) ≤ left then left - (x.d.ws.length : Int) else -1)) [] := by
  refine con_of_wp mixed fun80 (by simp) [] plain_nil ?_
  unfold ac80 ro80 nE
  simp only [zipT]
  have c := con46 x.b x.d hlen left h0 h1
  unfold dRow at c
  by_cases hs : (x.d.ws.length : Int) ≤ left
  · rw [if_pos hs] at c ⊢
    repeat (first | refine wG_call c rfl rfl ?_ | (first
    | refine wC_a rfl ?_
    | refine q_s rfl ?_
    | refine q_b rfl ?_
    | refine wG_nil ?_
    | refine wG_g rfl ?_
    | refine wG_pure (o_len_vwm rfl) ?_
    | refine wG_pure (o_not_d rfl) ?_
    | refine wG_p rfl (by first | exact rfl | omega) ?_
    | refine wG_pure (o_str2 rfl rfl rfl) ?_
    | refine wG_pure (e_istr rfl rfl (by omega)) ?_
    | refine wG_pure (e_istr0 rfl rfl (by omega)) ?_
    | refine wG_pure (o_not rfl) ?_
    | refine wG_pure (e_ia_vw0 rfl rfl (by omega) rfl) ?_
    | refine wG_pure (e_ia_vwp rfl rfl (by omega) rfl) ?_
    | refine wG_pure (e_ia_vwm rfl rfl (by omega) (by omega) rfl) ?_
    | refine wG_pure (e_ia_vwi rfl rfl (by omega) rfl) ?_
    | refine wG_pure (e_ia_vwn rfl rfl (by omega) (by omega) rfl) ?_
    | refine wG_n rfl rfl ?_
    | refine wG_u rfl rfl ?_
    | refine wG_new (o_mks rfl rfl (by omega) (by decide)) ?_))
    refine wC_cond_d rfl (fun h => ?_) (fun h => ?_)
    · omega
    repeat (first
    | refine wC_a rfl ?_
    | refine q_s rfl ?_
    | refine q_b rfl ?_
    | refine wG_nil ?_
    | refine wG_g rfl ?_
    | refine wG_pure (o_len_vwm rfl) ?_
    | refine wG_pure (o_not_d rfl) ?_
    | refine wG_p rfl (by first | exact rfl | omega) ?_
    | refine wG_pure (o_str2 rfl rfl rfl) ?_
    | refine wG_pure (e_istr rfl rfl (by omega)) ?_
    | refine wG_pure (e_istr0 rfl rfl (by omega)) ?_
    | refine wG_pure (o_not rfl) ?_
    | refine wG_pure (e_ia_vw0 rfl rfl (by omega) rfl) ?_
    | refine wG_pure (e_ia_vwp rfl rfl (by omega) rfl) ?_
    | refine wG_pure (e_ia_vwm rfl rfl (by omega) (by omega) rfl) ?_
    | refine wG_pure (e_ia_vwi rfl rfl (by omega) rfl) ?_
    | refine wG_pure (e_ia_vwn rfl rfl (by omega) (by omega) rfl) ?_
    | refine wG_n rfl rfl ?_
    | refine wG_u rfl rfl ?_
    | refine wG_new (o_mks rfl rfl (by omega) (by decide)) ?_)
    exact ret_intE (.inr rfl) ⟨_, retV_mv rfl, rfl⟩
  · rw [if_neg hs] at c ⊢
    repeat (first | refine wG_call c rfl rfl ?_ | (first
    | refine wC_a rfl ?_
    | refine q_s rfl ?_
    | refine q_b rfl ?_
    | refine wG_nil ?_
    | refine wG_g rfl ?_
    | refine wG_pure (o_len_vwm rfl) ?_
    | refine wG_pure (o_not_d rfl) ?_
    | refine wG_p rfl (by first | exact rfl | omega) ?_
    | refine wG_pure (o_str2 rfl rfl rfl) ?_
    | refine wG_pure (e_istr rfl rfl (by omega)) ?_
    | refine wG_pure (e_istr0 rfl rfl (by omega)) ?_
    | refine wG_pure (o_not rfl) ?_
    | refine wG_pure (e_ia_vw0 rfl rfl (by omega) rfl) ?_
    | refine wG_pure (e_ia_vwp rfl rfl (by omega) rfl) ?_
    | refine wG_pure (e_ia_vwm rfl rfl (by omega) (by omega) rfl) ?_
    | refine wG_pure (e_ia_vwi rfl rfl (by omega) rfl) ?_
    | refine wG_pure (e_ia_vwn rfl rfl (by omega) (by omega) rfl) ?_
    | refine wG_n rfl rfl ?_
    | refine wG_u rfl rfl ?_
    | refine wG_new (o_mks rfl rfl (by omega) (by decide)) ?_))
    exact ret_intE (.inr rfl) ⟨_, retV_mv rfl, rfl⟩
theorem con81 (x : Ev) (hlen : x.d.ws.length ≤ 1048576) : Con Try.prog 81 true [.agg (nE x)] (.agg [.int .i64 x.p, .int .i64 x.d.f, .sl 0 1 0 x.d.ws.length, .int .i64 x.o]) [x.d.ws.map iRow] := by
  refine con_of_wp mixed fun81 (by simp) [3] (plain_map iRow_plain x.d.ws) ?_
  unfold ac81 ro81 nE
  simp only [zipT]
  have c := con54 x.b x.d hlen
  unfold dRow at c
  repeat (first | refine wG_call1 c rfl rfl ?_ | refine wG_upd (o_st_agg rfl hg_here rfl rfl rfl rfl rfl) ?_ | refine wG_upd (o_st_agg rfl (hg_skip (by decide) hg_here) rfl rfl rfl rfl rfl) ?_ | (first
    | refine wC_a rfl ?_
    | refine q_s rfl ?_
    | refine q_b rfl ?_
    | refine wG_nil ?_
    | refine wG_g rfl ?_
    | refine wG_pure (o_len_vwm rfl) ?_
    | refine wG_pure (o_not_d rfl) ?_
    | refine wG_p rfl (by first | exact rfl | omega) ?_
    | refine wG_pure (o_str2 rfl rfl rfl) ?_
    | refine wG_pure (e_istr rfl rfl (by omega)) ?_
    | refine wG_pure (e_istr0 rfl rfl (by omega)) ?_
    | refine wG_pure (o_not rfl) ?_
    | refine wG_pure (e_ia_vw0 rfl rfl (by omega) rfl) ?_
    | refine wG_pure (e_ia_vwp rfl rfl (by omega) rfl) ?_
    | refine wG_pure (e_ia_vwm rfl rfl (by omega) (by omega) rfl) ?_
    | refine wG_pure (e_ia_vwi rfl rfl (by omega) rfl) ?_
    | refine wG_pure (e_ia_vwn rfl rfl (by omega) (by omega) rfl) ?_
    | refine wG_n rfl rfl ?_
    | refine wG_u rfl rfl ?_
    | refine wG_new (o_mks rfl rfl (by omega) (by decide)) ?_))
  refine ret_gen (.inr rfl) (retVs_1 (retV_ldt rfl rfl rfl rfl rfl)) rfl trivial rfl rfl (by simp) (fun i rows h => ?_)
  cases i with
  | zero => simp at h; subst h; rfl
  | succ i => simp at h
theorem con86 (x : Ev) (b b' : Bool) (h1 : x.d.ws.length ≤ 1048576) : Con Try.prog 86 true [.agg (nE ⟨b, x.p, x.d, x.o⟩), .agg (nE ⟨b', x.p, x.d, x.o⟩)] (.bool true) [] := by
  refine con_of_wp mixed fun86 (by simp) [] plain_nil ?_
  unfold ac86 ro86 nE
  simp only [zipT]
  have c := con20_same b b' x.d h1
  unfold dRow at c
  have d1 : decide (x.p ≠ x.p) = false := decide_eq_false (fun h => h rfl)
  have d2 : decide (x.o ≠ x.o) = false := decide_eq_false (fun h => h rfl)
  repeat (first
    | refine wC_a rfl ?_
    | refine q_s rfl ?_
    | refine q_b rfl ?_
    | refine wG_nil ?_
    | refine wG_g rfl ?_
    | refine wG_pure (o_len_vwm rfl) ?_
    | refine wG_pure (o_not_d rfl) ?_
    | refine wG_p rfl (by first | exact rfl | omega) ?_
    | refine wG_pure (o_str2 rfl rfl rfl) ?_
    | refine wG_pure (e_istr rfl rfl (by omega)) ?_
    | refine wG_pure (e_istr0 rfl rfl (by omega)) ?_
    | refine wG_pure (o_not rfl) ?_
    | refine wG_pure (e_ia_vw0 rfl rfl (by omega) rfl) ?_
    | refine wG_pure (e_ia_vwp rfl rfl (by omega) rfl) ?_
    | refine wG_pure (e_ia_vwm rfl rfl (by omega) (by omega) rfl) ?_
    | refine wG_pure (e_ia_vwi rfl rfl (by omega) rfl) ?_
    | refine wG_pure (e_ia_vwn rfl rfl (by omega) (by omega) rfl) ?_
    | refine wG_n rfl rfl ?_
    | refine wG_u rfl rfl ?_
    | refine wG_new (o_mks rfl rfl (by omega) (by decide)) ?_)
  simp only [d1]
  repeat (first | refine wG_call c rfl rfl ?_ | (first
    | refine wC_a rfl ?_
    | refine q_s rfl ?_
    | refine q_b rfl ?_
    | refine wG_nil ?_
    | refine wG_g rfl ?_
    | refine wG_pure (o_len_vwm rfl) ?_
    | refine wG_pure (o_not_d rfl) ?_
    | refine wG_p rfl (by first | exact rfl | omega) ?_
    | refine wG_pure (o_str2 rfl rfl rfl) ?_
    | refine wG_pure (e_istr rfl rfl (by omega)) ?_
    | refine wG_pure (e_istr0 rfl rfl (by omega)) ?_
    | refine wG_pure (o_not rfl) ?_
    | refine wG_pure (e_ia_vw0 rfl rfl (by omega) rfl) ?_
    | refine wG_pure (e_ia_vwp rfl rfl (by omega) rfl) ?_
    | refine wG_pure (e_ia_vwm rfl rfl (by omega) (by omega) rfl) ?_
    | refine wG_pure (e_ia_vwi rfl rfl (by omega) rfl) ?_
    | refine wG_pure (e_ia_vwn rfl rfl (by omega) (by omega) rfl) ?_
    | refine wG_n rfl rfl ?_
    | refine wG_u rfl rfl ?_
    | refine wG_new (o_mks rfl rfl (by omega) (by decide)) ?_))
  simp only [d2]
  repeat (first
    | refine wC_a rfl ?_
    | refine q_s rfl ?_
    | refine q_b rfl ?_
    | refine wG_nil ?_
    | refine wG_g rfl ?_
    | refine wG_pure (o_len_vwm rfl) ?_
    | refine wG_pure (o_not_d rfl) ?_
    | refine wG_p rfl (by first | exact rfl | omega) ?_
    | refine wG_pure (o_str2 rfl rfl rfl) ?_
    | refine wG_pure (e_istr rfl rfl (by omega)) ?_
    | refine wG_pure (e_istr0 rfl rfl (by omega)) ?_
    | refine wG_pure (o_not rfl) ?_
    | refine wG_pure (e_ia_vw0 rfl rfl (by omega) rfl) ?_
    | refine wG_pure (e_ia_vwp rfl rfl (by omega) rfl) ?_
    | refine wG_pure (e_ia_vwm rfl rfl (by omega) (by omega) rfl) ?_
    | refine wG_pure (e_ia_vwi rfl rfl (by omega) rfl) ?_
    | refine wG_pure (e_ia_vwn rfl rfl (by omega) (by omega) rfl) ?_
    | refine wG_n rfl rfl ?_
    | refine wG_u rfl rfl ?_
    | refine wG_new (o_mks rfl rfl (by omega) (by decide)) ?_)
  exact ret_boolE (.inr rfl) ⟨_, retV_mv rfl, rfl⟩
theorem con38 (nn : Bool) (xs : List Ev) (hlen : xs.length ≤ 9223372036854775807) (hL : LenE xs 9223372036854775807) (l : Int) (h0 : 0 ≤ l) (h1 : l ≤ 1048576) : Con Try.prog 38 true [.vw nn (xs.map nE), .int .i64 l] (.int .i64 (szD l xs)) [] := by
  refine con_of_wp mixed fun38 (by simp) [] plain_nil ?_
  unfold ac38 ro38 szD
  simp only [zipT]
  repeat (first
    | refine wC_a rfl ?_
    | refine q_s rfl ?_
    | refine q_b rfl ?_
    | refine wG_nil ?_
    | refine wG_g rfl ?_
    | refine wG_pure (o_len_vwm rfl) ?_
    | refine wG_pure (o_not_d rfl) ?_
    | refine wG_p rfl (by first | exact rfl | omega) ?_
    | refine wG_pure (o_str2 rfl rfl rfl) ?_
    | refine wG_pure (e_istr rfl rfl (by omega)) ?_
    | refine wG_pure (e_istr0 rfl rfl (by omega)) ?_
    | refine wG_pure (o_not rfl) ?_
    | refine wG_pure (e_ia_vw0 rfl rfl (by omega) rfl) ?_
    | refine wG_pure (e_ia_vwp rfl rfl (by omega) rfl) ?_
    | refine wG_pure (e_ia_vwm rfl rfl (by omega) (by omega) rfl) ?_
    | refine wG_pure (e_ia_vwi rfl rfl (by omega) rfl) ?_
    | refine wG_pure (e_ia_vwn rfl rfl (by omega) (by omega) rfl) ?_
    | refine wG_n rfl rfl ?_
    | refine wG_u rfl rfl ?_
    | refine wG_new (o_mks rfl rfl (by omega) (by decide)) ?_)
  refine wC_cond_d rfl (fun h => ?_) (fun h => ?_)
  · rw [if_pos h]
    repeat (first
    | refine wC_a rfl ?_
    | refine q_s rfl ?_
    | refine q_b rfl ?_
    | refine wG_nil ?_
    | refine wG_g rfl ?_
    | refine wG_pure (o_len_vwm rfl) ?_
    | refine wG_pure (o_not_d rfl) ?_
    | refine wG_p rfl (by first | exact rfl | omega) ?_
    | refine wG_pure (o_str2 rfl rfl rfl) ?_
    | refine wG_pure (e_istr rfl rfl (by omega)) ?_
    | refine wG_pure (e_istr0 rfl rfl (by omega)) ?_
    | refine wG_pure (o_not rfl) ?_
    | refine wG_pure (e_ia_vw0 rfl rfl (by omega) rfl) ?_
    | refine wG_pure (e_ia_vwp rfl rfl (by omega) rfl) ?_
    | refine wG_pure (e_ia_vwm rfl rfl (by omega) (by omega) rfl) ?_
    | refine wG_pure (e_ia_vwi rfl rfl (by omega) rfl) ?_
    | refine wG_pure (e_ia_vwn rfl rfl (by omega) (by omega) rfl) ?_
    | refine wG_n rfl rfl ?_
    | refine wG_u rfl rfl ?_
    | refine wG_new (o_mks rfl rfl (by omega) (by decide)) ?_)
    exact ret_intE (.inr rfl) ⟨_, retV_mv rfl, rfl⟩
  rw [if_neg h]
  repeat (first
    | refine wC_a rfl ?_
    | refine q_s rfl ?_
    | refine q_b rfl ?_
    | refine wG_nil ?_
    | refine wG_g rfl ?_
    | refine wG_pure (o_len_vwm rfl) ?_
    | refine wG_pure (o_not_d rfl) ?_
    | refine wG_p rfl (by first | exact rfl | omega) ?_
    | refine wG_pure (o_str2 rfl rfl rfl) ?_
    | refine wG_pure (e_istr rfl rfl (by omega)) ?_
    | refine wG_pure (e_istr0 rfl rfl (by omega)) ?_
    | refine wG_pure (o_not rfl) ?_
    | refine wG_pure (e_ia_vw0 rfl rfl (by omega) rfl) ?_
    | refine wG_pure (e_ia_vwp rfl rfl (by omega) rfl) ?_
    | refine wG_pure (e_ia_vwm rfl rfl (by omega) (by omega) rfl) ?_
    | refine wG_pure (e_ia_vwi rfl rfl (by omega) rfl) ?_
    | refine wG_pure (e_ia_vwn rfl rfl (by omega) (by omega) rfl) ?_
    | refine wG_n rfl rfl ?_
    | refine wG_u rfl rfl ?_
    | refine wG_new (o_mks rfl rfl (by omega) (by decide)) ?_)
  refine wC_loop Nat (fun i => ⟨[(0, .vw nn (xs.map nE)), (1, .int .i64 (szN xs (l - xs.length) i)), (5, .int .i64 (i : Int))], [], 0⟩) (fun i => i ≤ xs.length ∧ 0 ≤ szN xs (l - xs.length) i) (fun i => xs.length - i) 0 ⟨Nat.zero_le _, Int.not_lt.1 h⟩ ?_ (fun _ _ => Nat.zero_le _) ?_
  · exact ⟨⟨⟨rfl, rfl⟩, ⟨rfl, rfl⟩, ⟨rfl, rfl⟩, trivial⟩, trivial⟩
  rintro i ⟨hi, hz⟩
  have hle := szN_le xs (l - xs.length) i
  repeat (first
    | refine wC_a rfl ?_
    | refine q_s rfl ?_
    | refine q_b rfl ?_
    | refine wG_nil ?_
    | refine wG_g rfl ?_
    | refine wG_pure (o_len_vwm rfl) ?_
    | refine wG_pure (o_not_d rfl) ?_
    | refine wG_p rfl (by first | exact rfl | omega) ?_
    | refine wG_pure (o_str2 rfl rfl rfl) ?_
    | refine wG_pure (e_istr rfl rfl (by omega)) ?_
    | refine wG_pure (e_istr0 rfl rfl (by omega)) ?_
    | refine wG_pure (o_not rfl) ?_
    | refine wG_pure (e_ia_vw0 rfl rfl (by omega) rfl) ?_
    | refine wG_pure (e_ia_vwp rfl rfl (by omega) rfl) ?_
    | refine wG_pure (e_ia_vwm rfl rfl (by omega) (by omega) rfl) ?_
    | refine wG_pure (e_ia_vwi rfl rfl (by omega) rfl) ?_
    | refine wG_pure (e_ia_vwn rfl rfl (by omega) (by omega) rfl) ?_
    | refine wG_n rfl rfl ?_
    | refine wG_u rfl rfl ?_
    | refine wG_new (o_mks rfl rfl (by omega) (by decide)) ?_)
  refine wC_cond_d rfl (fun h2 => ?_) (fun h2 => ?_)
  · have hi2 : i < xs.length := by omega
    have c := con80 (xs.getD i default) (hL i hi2) (szN xs (l - xs.length) i) hz (by omega)
    have hup : szN xs (l - xs.length) (i + 1) = szN xs (l - xs.length) i - ((xs.getD i default).d.ws.length : Int) := rfl
    by_cases hc : ((xs.getD i default).d.ws.length : Int) ≤ szN xs (l - xs.length) i
    · rw [if_pos hc] at c
      repeat (first | refine wG_call c rfl rfl ?_ | (first
    | refine wC_a rfl ?_
    | refine q_s rfl ?_
    | refine q_b rfl ?_
    | refine wG_nil ?_
    | refine wG_g rfl ?_
    | refine wG_pure (o_len_vwm rfl) ?_
    | refine wG_pure (o_not_d rfl) ?_
    | refine wG_p rfl (by first | exact rfl | omega) ?_
    | refine wG_pure (o_str2 rfl rfl rfl) ?_
    | refine wG_pure (e_istr rfl rfl (by omega)) ?_
    | refine wG_pure (e_istr0 rfl rfl (by omega)) ?_
    | refine wG_pure (o_not rfl) ?_
    | refine wG_pure (e_ia_vw0 rfl rfl (by omega) rfl) ?_
    | refine wG_pure (e_ia_vwp rfl rfl (by omega) rfl) ?_
    | refine wG_pure (e_ia_vwm rfl rfl (by omega) (by omega) rfl) ?_
    | refine wG_pure (e_ia_vwi rfl rfl (by omega) rfl) ?_
    | refine wG_pure (e_ia_vwn rfl rfl (by omega) (by omega) rfl) ?_
    | refine wG_n rfl rfl ?_
    | refine wG_u rfl rfl ?_
    | refine wG_new (o_mks rfl rfl (by omega) (by decide)) ?_))
      refine wC_cond_d rfl (fun h3 => ?_) (fun h3 => ?_)
      · omega
      repeat (first
    | refine wC_a rfl ?_
    | refine q_s rfl ?_
    | refine q_b rfl ?_
    | refine wG_nil ?_
    | refine wG_g rfl ?_
    | refine wG_pure (o_len_vwm rfl) ?_
    | refine wG_pure (o_not_d rfl) ?_
    | refine wG_p rfl (by first | exact rfl | omega) ?_
    | refine wG_pure (o_str2 rfl rfl rfl) ?_
    | refine wG_pure (e_istr rfl rfl (by omega)) ?_
    | refine wG_pure (e_istr0 rfl rfl (by omega)) ?_
    | refine wG_pure (o_not rfl) ?_
    | refine wG_pure (e_ia_vw0 rfl rfl (by omega) rfl) ?_
    | refine wG_pure (e_ia_vwp rfl rfl (by omega) rfl) ?_
    | refine wG_pure (e_ia_vwm rfl rfl (by omega) (by omega) rfl) ?_
    | refine wG_pure (e_ia_vwi rfl rfl (by omega) rfl) ?_
    | refine wG_pure (e_ia_vwn rfl rfl (by omega) (by omega) rfl) ?_
    | refine wG_n rfl rfl ?_
    | refine wG_u rfl rfl ?_
    | refine wG_new (o_mks rfl rfl (by omega) (by decide)) ?_)
      exact ⟨i + 1, ⟨hi2, by omega⟩, by omega, ⟨⟨rfl, rfl⟩, ⟨rfl, rfl⟩, ⟨rfl, rfl⟩, trivial⟩, trivial⟩
    · rw [if_neg hc] at c
      have hneg : szN xs (l - xs.length) xs.length < 0 := by
        have := szN_mono xs (l - xs.length) (i + 1) (xs.length - (i + 1))
        rw [show i + 1 + (xs.length - (i + 1)) = xs.length by omega] at this
        omega
      rw [if_pos hneg]
      repeat (first | refine wG_call c rfl rfl ?_ | (first
    | refine wC_a rfl ?_
    | refine q_s rfl ?_
    | refine q_b rfl ?_
    | refine wG_nil ?_
    | refine wG_g rfl ?_
    | refine wG_pure (o_len_vwm rfl) ?_
    | refine wG_pure (o_not_d rfl) ?_
    | refine wG_p rfl (by first | exact rfl | omega) ?_
    | refine wG_pure (o_str2 rfl rfl rfl) ?_
    | refine wG_pure (e_istr rfl rfl (by omega)) ?_
    | refine wG_pure (e_istr0 rfl rfl (by omega)) ?_
    | refine wG_pure (o_not rfl) ?_
    | refine wG_pure (e_ia_vw0 rfl rfl (by omega) rfl) ?_
    | refine wG_pure (e_ia_vwp rfl rfl (by omega) rfl) ?_
    | refine wG_pure (e_ia_vwm rfl rfl (by omega) (by omega) rfl) ?_
    | refine wG_pure (e_ia_vwi rfl rfl (by omega) rfl) ?_
    | refine wG_pure (e_ia_vwn rfl rfl (by omega) (by omega) rfl) ?_
    | refine wG_n rfl rfl ?_
    | refine wG_u rfl rfl ?_
    | refine wG_new (o_mks rfl rfl (by omega) (by decide)) ?_))
      exact ret_intE (.inr rfl) ⟨_, retV_mv rfl, rfl⟩
  · have hi3 : i = xs.length := by omega
    subst hi3
    rw [if_neg (by omega)]
    repeat (first
    | refine wC_a rfl ?_
    | refine q_s rfl ?_
    | refine q_b rfl ?_
    | refine wG_nil ?_
    | refine wG_g rfl ?_
    | refine wG_pure (o_len_vwm rfl) ?_
    | refine wG_pure (o_not_d rfl) ?_
    | refine wG_p rfl (by first | exact rfl | omega) ?_
    | refine wG_pure (o_str2 rfl rfl rfl) ?_
    | refine wG_pure (e_istr rfl rfl (by omega)) ?_
    | refine wG_pure (e_istr0 rfl rfl (by omega)) ?_
    | refine wG_pure (o_not rfl) ?_
    | refine wG_pure (e_ia_vw0 rfl rfl (by omega) rfl) ?_
    | refine wG_pure (e_ia_vwp rfl rfl (by omega) rfl) ?_
    | refine wG_pure (e_ia_vwm rfl rfl (by omega) (by omega) rfl) ?_
    | refine wG_pure (e_ia_vwi rfl rfl (by omega) rfl) ?_
    | refine wG_pure (e_ia_vwn rfl rfl (by omega) (by omega) rfl) ?_
    | refine wG_n rfl rfl ?_
    | refine wG_u rfl rfl ?_
    | refine wG_new (o_mks rfl rfl (by omega) (by decide)) ?_)
    exact ret_intE (.inr rfl) ⟨_, retV_mv rfl, rfl⟩
def zE : Ev → List AV := fun _ => [.int .i64 0, .int .i64 0, .nilS, .int .i64 0]
def teO (xs : List Ev) : List Ab.Rows := nR hE 1 xs xs.length zE :: nO hE xs xs.length
theorem teO_len (xs : List Ev) : (teO xs).length = xs.length + 1 := by rw [teO, List.length_cons, nO_len (Nat.le_refl _)]
theorem zE_ltr (m : Nat) (xs : List Ev) : ∀ x ∈ xs, ∀ y ∈ zE x, AV.ltr m y = true := fun x _ y hy => by
  simp only [zE, List.mem_cons, List.not_mem_nil, or_false] at hy
  rcases hy with rfl | rfl | rfl | rfl <;> rfl
theorem con40 (nn : Bool) (xs : List Ev) (hlen : xs.length ≤ 1048576) (hL : LenE xs 1048576) : ConG Try.prog 40 true [.vw nn (xs.map nE)] (.sl 0 4 0 xs.length) (teO xs) := by
  refine con_of_wpG mixed fun40 (by simp) (List.range (xs.length + 1)) nest_N ?_
  unfold ac40 ro40
  simp only [zipT]
  have e0 : ∀ n : Nat, 0 + ((n : Int)).toNat = n := fun n => by simp
  have hwf := fun i (hi : i ≤ xs.length) => hN_wf (K := hE) (q := 0) (b := 1) (z := zE) (nr := 1 + i) hi (by omega) (Nat.le_refl _) (zE_ltr (1 + i) xs)
  repeat (first | refine wG_new (o_mks rfl rfl (by omega) (by decide)) ?_ | (first
    | refine wC_a rfl ?_
    | refine q_s rfl ?_
    | refine q_b rfl ?_
    | refine wG_nil ?_
    | refine wG_g rfl ?_
    | refine wG_pure (o_len_vwm rfl) ?_
    | refine wG_pure (o_not_d rfl) ?_
    | refine wG_p rfl (by first | exact rfl | omega) ?_
    | refine wG_pure (o_str2 rfl rfl rfl) ?_
    | refine wG_pure (e_istr rfl rfl (by omega)) ?_
    | refine wG_pure (e_istr0 rfl rfl (by omega)) ?_
    | refine wG_pure (o_not rfl) ?_
    | refine wG_pure (e_ia_vw0 rfl rfl (by omega) rfl) ?_
    | refine wG_pure (e_ia_vwp rfl rfl (by omega) rfl) ?_
    | refine wG_pure (e_ia_vwm rfl rfl (by omega) (by omega) rfl) ?_
    | refine wG_pure (e_ia_vwi rfl rfl (by omega) rfl) ?_
    | refine wG_pure (e_ia_vwn rfl rfl (by omega) (by omega) rfl) ?_
    | refine wG_n rfl rfl ?_
    | refine wG_u rfl rfl ?_
    | refine wG_new (o_mks rfl rfl (by omega) (by decide)) ?_))
  refine wC_loopX Nat (fun i => ⟨[(0, .vw nn (xs.map nE)), (3, .sl 0 4 0 xs.length), (4, .int .i64 (i : Int))], hN hE 0 1 xs i zE, 1 + i⟩) (fun i => i ≤ xs.length) (fun i => xs.length - i) 0 (Nat.zero_le _) ?_ ?_
  · refine .inl (Le_of ⟨⟨rfl, rfl⟩, ⟨rfl, rfl⟩, ⟨rfl, rfl⟩, trivial⟩ (fun q rows hq => ?_) (hwf 0 (Nat.zero_le _)))
    rcases hN_cs (Nat.zero_le _) hq with ⟨rfl, rfl⟩ | ⟨_, i, hi, _⟩
    · refine hg_here.trans (congrArg some ?_)
      rw [nR_0]
      exact List.map_const'.symm
    · exact absurd hi (Nat.not_lt_zero _)
  intro i hi
  repeat (first
    | refine wC_a rfl ?_
    | refine q_s rfl ?_
    | refine q_b rfl ?_
    | refine wG_nil ?_
    | refine wG_g rfl ?_
    | refine wG_pure (o_len_vwm rfl) ?_
    | refine wG_pure (o_not_d rfl) ?_
    | refine wG_p rfl (by first | exact rfl | omega) ?_
    | refine wG_pure (o_str2 rfl rfl rfl) ?_
    | refine wG_pure (e_istr rfl rfl (by omega)) ?_
    | refine wG_pure (e_istr0 rfl rfl (by omega)) ?_
    | refine wG_pure (o_not rfl) ?_
    | refine wG_pure (e_ia_vw0 rfl rfl (by omega) rfl) ?_
    | refine wG_pure (e_ia_vwp rfl rfl (by omega) rfl) ?_
    | refine wG_pure (e_ia_vwm rfl rfl (by omega) (by omega) rfl) ?_
    | refine wG_pure (e_ia_vwi rfl rfl (by omega) rfl) ?_
    | refine wG_pure (e_ia_vwn rfl rfl (by omega) (by omega) rfl) ?_
    | refine wG_n rfl rfl ?_
    | refine wG_u rfl rfl ?_
    | refine wG_new (o_mks rfl rfl (by omega) (by decide)) ?_)
  refine wC_cond_d rfl (fun h2 => ?_) (fun h2 => ?_)
  · have hi2 : i < xs.length := by omega
    have c := con81 (xs.getD i default) (hL i hi2)
    have hat := nR_at (K := hE) (b := 1) (z := zE) hi2
    have hset := nR_set (K := hE) (b := 1) (z := zE) hi2
    repeat (first | refine wG_call1 c rfl rfl ?_ | (refine wG_pure (e_ia_sl rfl rfl (by omega) (by omega)) ?_; simp only [e0]) | refine wG_upd (o_st_agg rfl (hg_skip (by omega) hN_q) hat rfl rfl rfl hset) ?_ | (first
    | refine wC_a rfl ?_
    | refine q_s rfl ?_
    | refine q_b rfl ?_
    | refine wG_nil ?_
    | refine wG_g rfl ?_
    | refine wG_pure (o_len_vwm rfl) ?_
    | refine wG_pure (o_not_d rfl) ?_
    | refine wG_p rfl (by first | exact rfl | omega) ?_
    | refine wG_pure (o_str2 rfl rfl rfl) ?_
    | refine wG_pure (e_istr rfl rfl (by omega)) ?_
    | refine wG_pure (e_istr0 rfl rfl (by omega)) ?_
    | refine wG_pure (o_not rfl) ?_
    | refine wG_pure (e_ia_vw0 rfl rfl (by omega) rfl) ?_
    | refine wG_pure (e_ia_vwp rfl rfl (by omega) rfl) ?_
    | refine wG_pure (e_ia_vwm rfl rfl (by omega) (by omega) rfl) ?_
    | refine wG_pure (e_ia_vwi rfl rfl (by omega) rfl) ?_
    | refine wG_pure (e_ia_vwn rfl rfl (by omega) (by omega) rfl) ?_
    | refine wG_n rfl rfl ?_
    | refine wG_u rfl rfl ?_
    | refine wG_new (o_mks rfl rfl (by omega) (by decide)) ?_))
    refine ⟨i + 1, hi2, by omega, .inl (Le_of ⟨⟨rfl, rfl⟩, ⟨rfl, rfl⟩, ⟨rfl, rfl⟩, trivial⟩ (hN_step hi2 hg_here (hg_skip (by omega) hg_here) (fun r rows h1 h2 h3 => hg_skip h1 (hg_skip h2 h3))) (hwf (i + 1) hi2))⟩
  · have hi3 : i = xs.length := by omega
    subst hi3
    repeat (first
    | refine wC_a rfl ?_
    | refine q_s rfl ?_
    | refine q_b rfl ?_
    | refine wG_nil ?_
    | refine wG_g rfl ?_
    | refine wG_pure (o_len_vwm rfl) ?_
    | refine wG_pure (o_not_d rfl) ?_
    | refine wG_p rfl (by first | exact rfl | omega) ?_
    | refine wG_pure (o_str2 rfl rfl rfl) ?_
    | refine wG_pure (e_istr rfl rfl (by omega)) ?_
    | refine wG_pure (e_istr0 rfl rfl (by omega)) ?_
    | refine wG_pure (o_not rfl) ?_
    | refine wG_pure (e_ia_vw0 rfl rfl (by omega) rfl) ?_
    | refine wG_pure (e_ia_vwp rfl rfl (by omega) rfl) ?_
    | refine wG_pure (e_ia_vwm rfl rfl (by omega) (by omega) rfl) ?_
    | refine wG_pure (e_ia_vwi rfl rfl (by omega) rfl) ?_
    | refine wG_pure (e_ia_vwn rfl rfl (by omega) (by omega) rfl) ?_
    | refine wG_n rfl rfl ?_
    | refine wG_u rfl rfl ?_
    | refine wG_new (o_mks rfl rfl (by omega) (by decide)) ?_)
    exact retG_N (.inr rfl) (retV_mv rfl) (fun r rows h => h)
theorem con45 (nn mm : Bool) (xs : List Ev) (hlen : xs.length ≤ 1048576) (hL : LenE xs 1048576) : Con Try.prog 45 true [.vw nn (xs.map nE), .vw mm (xs.map nE)] (.bool true) [] := by
  refine con_of_wp mixed fun45 (by simp) [] plain_nil ?_
  unfold ac45 ro45
  simp only [zipT]
  have d1 : decide ((xs.length : Int) ≠ (xs.length : Int)) = false := decide_eq_false (fun h => h rfl)
  repeat (first
    | refine wC_a rfl ?_
    | refine q_s rfl ?_
    | refine q_b rfl ?_
    | refine wG_nil ?_
    | refine wG_g rfl ?_
    | refine wG_pure (o_len_vwm rfl) ?_
    | refine wG_pure (o_not_d rfl) ?_
    | refine wG_p rfl (by first | exact rfl | omega) ?_
    | refine wG_pure (o_str2 rfl rfl rfl) ?_
    | refine wG_pure (e_istr rfl rfl (by omega)) ?_
    | refine wG_pure (e_istr0 rfl rfl (by omega)) ?_
    | refine wG_pure (o_not rfl) ?_
    | refine wG_pure (e_ia_vw0 rfl rfl (by omega) rfl) ?_
    | refine wG_pure (e_ia_vwp rfl rfl (by omega) rfl) ?_
    | refine wG_pure (e_ia_vwm rfl rfl (by omega) (by omega) rfl) ?_
    | refine wG_pure (e_ia_vwi rfl rfl (by omega) rfl) ?_
    | refine wG_pure (e_ia_vwn rfl rfl (by omega) (by omega) rfl) ?_
    | refine wG_n rfl rfl ?_
    | refine wG_u rfl rfl ?_
    | refine wG_new (o_mks rfl rfl (by omega) (by decide)) ?_)
  simp only [d1]
  repeat (first
    | refine wC_a rfl ?_
    | refine q_s rfl ?_
    | refine q_b rfl ?_
    | refine wG_nil ?_
    | refine wG_g rfl ?_
    | refine wG_pure (o_len_vwm rfl) ?_
    | refine wG_pure (o_not_d rfl) ?_
    | refine wG_p rfl (by first | exact rfl | omega) ?_
    | refine wG_pure (o_str2 rfl rfl rfl) ?_
    | refine wG_pure (e_istr rfl rfl (by omega)) ?_
    | refine wG_pure (e_istr0 rfl rfl (by omega)) ?_
    | refine wG_pure (o_not rfl) ?_
    | refine wG_pure (e_ia_vw0 rfl rfl (by omega) rfl) ?_
    | refine wG_pure (e_ia_vwp rfl rfl (by omega) rfl) ?_
    | refine wG_pure (e_ia_vwm rfl rfl (by omega) (by omega) rfl) ?_
    | refine wG_pure (e_ia_vwi rfl rfl (by omega) rfl) ?_
    | refine wG_pure (e_ia_vwn rfl rfl (by omega) (by omega) rfl) ?_
    | refine wG_n rfl rfl ?_
    | refine wG_u rfl rfl ?_
    | refine wG_new (o_mks rfl rfl (by omega) (by decide)) ?_)
  refine wC_loop Nat (fun i => ⟨[(0, .vw nn (xs.map nE)), (1, .vw mm (xs.map nE)), (5, .int .i64 (i : Int))], [], 0⟩) (fun i => i ≤ xs.length) (fun i => xs.length - i) 0 (Nat.zero_le _) ?_ (fun _ _ => Nat.zero_le _) ?_
  · exact ⟨⟨⟨rfl, rfl⟩, ⟨rfl, rfl⟩, ⟨rfl, rfl⟩, trivial⟩, trivial⟩
  intro i hi
  repeat (first
    | refine wC_a rfl ?_
    | refine q_s rfl ?_
    | refine q_b rfl ?_
    | refine wG_nil ?_
    | refine wG_g rfl ?_
    | refine wG_pure (o_len_vwm rfl) ?_
    | refine wG_pure (o_not_d rfl) ?_
    | refine wG_p rfl (by first | exact rfl | omega) ?_
    | refine wG_pure (o_str2 rfl rfl rfl) ?_
    | refine wG_pure (e_istr rfl rfl (by omega)) ?_
    | refine wG_pure (e_istr0 rfl rfl (by omega)) ?_
    | refine wG_pure (o_not rfl) ?_
    | refine wG_pure (e_ia_vw0 rfl rfl (by omega) rfl) ?_
    | refine wG_pure (e_ia_vwp rfl rfl (by omega) rfl) ?_
    | refine wG_pure (e_ia_vwm rfl rfl (by omega) (by omega) rfl) ?_
    | refine wG_pure (e_ia_vwi rfl rfl (by omega) rfl) ?_
    | refine wG_pure (e_ia_vwn rfl rfl (by omega) (by omega) rfl) ?_
    | refine wG_n rfl rfl ?_
    | refine wG_u rfl rfl ?_
    | refine wG_new (o_mks rfl rfl (by omega) (by decide)) ?_)
  refine wC_cond_d rfl (fun h2 => ?_) (fun h2 => ?_)
  · have hi2 : i < xs.length := by omega
    have c := con86 (xs.getD i default) (xs.getD i default).b (xs.getD i default).b (hL i hi2)
    repeat (first | refine wG_call c rfl rfl ?_ | (first
    | refine wC_a rfl ?_
    | refine q_s rfl ?_
    | refine q_b rfl ?_
    | refine wG_nil ?_
    | refine wG_g rfl ?_
    | refine wG_pure (o_len_vwm rfl) ?_
    | refine wG_pure (o_not_d rfl) ?_
    | refine wG_p rfl (by first | exact rfl | omega) ?_
    | refine wG_pure (o_str2 rfl rfl rfl) ?_
    | refine wG_pure (e_istr rfl rfl (by omega)) ?_
    | refine wG_pure (e_istr0 rfl rfl (by omega)) ?_
    | refine wG_pure (o_not rfl) ?_
    | refine wG_pure (e_ia_vw0 rfl rfl (by omega) rfl) ?_
    | refine wG_pure (e_ia_vwp rfl rfl (by omega) rfl) ?_
    | refine wG_pure (e_ia_vwm rfl rfl (by omega) (by omega) rfl) ?_
    | refine wG_pure (e_ia_vwi rfl rfl (by omega) rfl) ?_
    | refine wG_pure (e_ia_vwn rfl rfl (by omega) (by omega) rfl) ?_
    | refine wG_n rfl rfl ?_
    | refine wG_u rfl rfl ?_
    | refine wG_new (o_mks rfl rfl (by omega) (by decide)) ?_))
    exact ⟨i + 1, hi2, by omega, ⟨⟨rfl, rfl⟩, ⟨rfl, rfl⟩, ⟨rfl, rfl⟩, trivial⟩, trivial⟩
  · have hi3 : i = xs.length := by omega
    subst hi3
    repeat (first
    | refine wC_a rfl ?_
    | refine q_s rfl ?_
    | refine q_b rfl ?_
    | refine wG_nil ?_
    | refine wG_g rfl ?_
    | refine wG_pure (o_len_vwm rfl) ?_
    | refine wG_pure (o_not_d rfl) ?_
    | refine wG_p rfl (by first | exact rfl | omega) ?_
    | refine wG_pure (o_str2 rfl rfl rfl) ?_
    | refine wG_pure (e_istr rfl rfl (by omega)) ?_
    | refine wG_pure (e_istr0 rfl rfl (by omega)) ?_
    | refine wG_pure (o_not rfl) ?_
    | refine wG_pure (e_ia_vw0 rfl rfl (by omega) rfl) ?_
    | refine wG_pure (e_ia_vwp rfl rfl (by omega) rfl) ?_
    | refine wG_pure (e_ia_vwm rfl rfl (by omega) (by omega) rfl) ?_
    | refine wG_pure (e_ia_vwi rfl rfl (by omega) rfl) ?_
    | refine wG_pure (e_ia_vwn rfl rfl (by omega) (by omega) rfl) ?_
    | refine wG_n rfl rfl ?_
    | refine wG_u rfl rfl ?_
    | refine wG_new (o_mks rfl rfl (by omega) (by decide)) ?_)
    exact ret_boolE (.inr rfl) ⟨_, retV_mv rfl, rfl⟩

/-! ### Models -/
structure Md where
  f : Int
  y : Int
  p : Int
def mdR (c : Bool) (m : Md) (xs : List Ev) : List AV := [.int .i64 m.f, .int .i64 m.y, .int .i64 m.p, .vw c (xs.map nE)]
def mdV (q : Nat) (m : Md) (xs : List Ev) : AV := .agg [.int .i64 m.f, .int .i64 m.y, .int .i64 m.p, .sl q 4 0 xs.length]
theorem con11 (c : Bool) (m : Md) (xs : List Ev) (h3 : xs.length ≤ 9223372036854775807) (hL : LenE xs 9223372036854775807) (l : Int) (h0 : 0 ≤ l) (hl : l ≤ 1048576) : Con Try.prog 11 true [.agg (mdR c m xs), .int .i64 l] (.int .i64 (if szD l xs < 0 then -1 else szD l xs)) [] := by
  refine con_of_wp mixed fun11 (by simp) [] plain_nil ?_
  unfold ac11 ro11
  simp only [zipT]
  have c1 := con38 c xs h3 hL l h0 hl
  repeat (first | refine wG_call c1 rfl rfl ?_ | (first
    | refine wC_a rfl ?_
    | refine q_s rfl ?_
    | refine q_b rfl ?_
    | refine wG_nil ?_
    | refine wG_g rfl ?_
    | refine wG_pure (o_len_vwm rfl) ?_
    | refine wG_pure (o_not_d rfl) ?_
    | refine wG_p rfl (by first | exact rfl | omega) ?_
    | refine wG_pure (o_str2 rfl rfl rfl) ?_
    | refine wG_pure (e_istr rfl rfl (by omega)) ?_
    | refine wG_pure (e_istr0 rfl rfl (by omega)) ?_
    | refine wG_pure (o_not rfl) ?_
    | refine wG_pure (e_ia_vw0 rfl rfl (by omega) rfl) ?_
    | refine wG_pure (e_ia_vwp rfl rfl (by omega) rfl) ?_
    | refine wG_pure (e_ia_vwm rfl rfl (by omega) (by omega) rfl) ?_
    | refine wG_pure (e_ia_vwi rfl rfl (by omega) rfl) ?_
    | refine wG_pure (e_ia_vwn rfl rfl (by omega) (by omega) rfl) ?_
    | refine wG_n rfl rfl ?_
    | refine wG_u rfl rfl ?_
    | refine wG_new (o_mks rfl rfl (by omega) (by decide)) ?_))
  refine wC_cond_d rfl (fun h => ?_) (fun h => ?_)
  · rw [if_pos h]
    repeat (first
    | refine wC_a rfl ?_
    | refine q_s rfl ?_
    | refine q_b rfl ?_
    | refine wG_nil ?_
    | refine wG_g rfl ?_
    | refine wG_pure (o_len_vwm rfl) ?_
    | refine wG_pure (o_not_d rfl) ?_
    | refine wG_p rfl (by first | exact rfl | omega) ?_
    | refine wG_pure (o_str2 rfl rfl rfl) ?_
    | refine wG_pure (e_istr rfl rfl (by omega)) ?_
    | refine wG_pure (e_istr0 rfl rfl (by omega)) ?_
    | refine wG_pure (o_not rfl) ?_
    | refine wG_pure (e_ia_vw0 rfl rfl (by omega) rfl) ?_
    | refine wG_pure (e_ia_vwp rfl rfl (by omega) rfl) ?_
    | refine wG_pure (e_ia_vwm rfl rfl (by omega) (by omega) rfl) ?_
    | refine wG_pure (e_ia_vwi rfl rfl (by omega) rfl) ?_
    | refine wG_pure (e_ia_vwn rfl rfl (by omega) (by omega) rfl) ?_
    | refine wG_n rfl rfl ?_
    | refine wG_u rfl rfl ?_
    | refine wG_new (o_mks rfl rfl (by omega) (by decide)) ?_)
    exact ret_intE (.inr rfl) ⟨_, retV_mv rfl, rfl⟩
  rw [if_neg h]
  repeat (first
    | refine wC_a rfl ?_
    | refine q_s rfl ?_
    | refine q_b rfl ?_
    | refine wG_nil ?_
    | refine wG_g rfl ?_
    | refine wG_pure (o_len_vwm rfl) ?_
    | refine wG_pure (o_not_d rfl) ?_
    | refine wG_p rfl (by first | exact rfl | omega) ?_
    | refine wG_pure (o_str2 rfl rfl rfl) ?_
    | refine wG_pure (e_istr rfl rfl (by omega)) ?_
    | refine wG_pure (e_istr0 rfl rfl (by omega)) ?_
    | refine wG_pure (o_not rfl) ?_
    | refine wG_pure (e_ia_vw0 rfl rfl (by omega) rfl) ?_
    | refine wG_pure (e_ia_vwp rfl rfl (by omega) rfl) ?_
    | refine wG_pure (e_ia_vwm rfl rfl (by omega) (by omega) rfl) ?_
    | refine wG_pure (e_ia_vwi rfl rfl (by omega) rfl) ?_
    | refine wG_pure (e_ia_vwn rfl rfl (by omega) (by omega) rfl) ?_
    | refine wG_n rfl rfl ?_
    | refine wG_u rfl rfl ?_
    | refine wG_new (o_mks rfl rfl (by omega) (by decide)) ?_)
  exact ret_intE (.inr rfl) ⟨_, retV_mv rfl, rfl⟩
theorem con15 (c c' : Bool) (m : Md) (xs : List Ev) (h3 : xs.length ≤ 1048576) (hL : LenE xs 1048576) : Con Try.prog 15 true [.agg (mdR c m xs), .agg (mdR c' m xs)] (.bool true) [] := by
  refine con_of_wp mixed fun15 (by simp) [] plain_nil ?_
  unfold ac15 ro15
  simp only [zipT]
  have c2 := con45 c c' xs h3 hL
  have d1 : decide (m.f ≠ m.f) = false := decide_eq_false (fun h => h rfl)
  have d2 : decide (m.y ≠ m.y) = false := decide_eq_false (fun h => h rfl)
  have d3 : decide (m.p ≠ m.p) = false := decide_eq_false (fun h => h rfl)
  repeat (first
    | refine wC_a rfl ?_
    | refine q_s rfl ?_
    | refine q_b rfl ?_
    | refine wG_nil ?_
    | refine wG_g rfl ?_
    | refine wG_pure (o_len_vwm rfl) ?_
    | refine wG_pure (o_not_d rfl) ?_
    | refine wG_p rfl (by first | exact rfl | omega) ?_
    | refine wG_pure (o_str2 rfl rfl rfl) ?_
    | refine wG_pure (e_istr rfl rfl (by omega)) ?_
    | refine wG_pure (e_istr0 rfl rfl (by omega)) ?_
    | refine wG_pure (o_not rfl) ?_
    | refine wG_pure (e_ia_vw0 rfl rfl (by omega) rfl) ?_
    | refine wG_pure (e_ia_vwp rfl rfl (by omega) rfl) ?_
    | refine wG_pure (e_ia_vwm rfl rfl (by omega) (by omega) rfl) ?_
    | refine wG_pure (e_ia_vwi rfl rfl (by omega) rfl) ?_
    | refine wG_pure (e_ia_vwn rfl rfl (by omega) (by omega) rfl) ?_
    | refine wG_n rfl rfl ?_
    | refine wG_u rfl rfl ?_
    | refine wG_new (o_mks rfl rfl (by omega) (by decide)) ?_)
  simp only [d1]
  repeat (first
    | refine wC_a rfl ?_
    | refine q_s rfl ?_
    | refine q_b rfl ?_
    | refine wG_nil ?_
    | refine wG_g rfl ?_
    | refine wG_pure (o_len_vwm rfl) ?_
    | refine wG_pure (o_not_d rfl) ?_
    | refine wG_p rfl (by first | exact rfl | omega) ?_
    | refine wG_pure (o_str2 rfl rfl rfl) ?_
    | refine wG_pure (e_istr rfl rfl (by omega)) ?_
    | refine wG_pure (e_istr0 rfl rfl (by omega)) ?_
    | refine wG_pure (o_not rfl) ?_
    | refine wG_pure (e_ia_vw0 rfl rfl (by omega) rfl) ?_
    | refine wG_pure (e_ia_vwp rfl rfl (by omega) rfl) ?_
    | refine wG_pure (e_ia_vwm rfl rfl (by omega) (by omega) rfl) ?_
    | refine wG_pure (e_ia_vwi rfl rfl (by omega) rfl) ?_
    | refine wG_pure (e_ia_vwn rfl rfl (by omega) (by omega) rfl) ?_
    | refine wG_n rfl rfl ?_
    | refine wG_u rfl rfl ?_
    | refine wG_new (o_mks rfl rfl (by omega) (by decide)) ?_)
  simp only [d2]
  repeat (first
    | refine wC_a rfl ?_
    | refine q_s rfl ?_
    | refine q_b rfl ?_
    | refine wG_nil ?_
    | refine wG_g rfl ?_
    | refine wG_pure (o_len_vwm rfl) ?_
    | refine wG_pure (o_not_d rfl) ?_
    | refine wG_p rfl (by first | exact rfl | omega) ?_
    | refine wG_pure (o_str2 rfl rfl rfl) ?_
    | refine wG_pure (e_istr rfl rfl (by omega)) ?_
    | refine wG_pure (e_istr0 rfl rfl (by omega)) ?_
    | refine wG_pure (o_not rfl) ?_
    | refine wG_pure (e_ia_vw0 rfl rfl (by omega) rfl) ?_
    | refine wG_pure (e_ia_vwp rfl rfl (by omega) rfl) ?_
    | refine wG_pure (e_ia_vwm rfl rfl (by omega) (by omega) rfl) ?_
    | refine wG_pure (e_ia_vwi rfl rfl (by omega) rfl) ?_
    | refine wG_pure (e_ia_vwn rfl rfl (by omega) (by omega) rfl) ?_
    | refine wG_n rfl rfl ?_
    | refine wG_u rfl rfl ?_
    | refine wG_new (o_mks rfl rfl (by omega) (by decide)) ?_)
  simp only [d3]
  repeat (first | refine wG_call c2 rfl rfl ?_ | refine wE_call c2 rfl rfl rfl ?_ | (first
    | refine wC_a rfl ?_
    | refine q_s rfl ?_
    | refine q_b rfl ?_
    | refine wG_nil ?_
    | refine wG_g rfl ?_
    | refine wG_pure (o_len_vwm rfl) ?_
    | refine wG_pure (o_not_d rfl) ?_
    | refine wG_p rfl (by first | exact rfl | omega) ?_
    | refine wG_pure (o_str2 rfl rfl rfl) ?_
    | refine wG_pure (e_istr rfl rfl (by omega)) ?_
    | refine wG_pure (e_istr0 rfl rfl (by omega)) ?_
    | refine wG_pure (o_not rfl) ?_
    | refine wG_pure (e_ia_vw0 rfl rfl (by omega) rfl) ?_
    | refine wG_pure (e_ia_vwp rfl rfl (by omega) rfl) ?_
    | refine wG_pure (e_ia_vwm rfl rfl (by omega) (by omega) rfl) ?_
    | refine wG_pure (e_ia_vwi rfl rfl (by omega) rfl) ?_
    | refine wG_pure (e_ia_vwn rfl rfl (by omega) (by omega) rfl) ?_
    | refine wG_n rfl rfl ?_
    | refine wG_u rfl rfl ?_
    | refine wG_new (o_mks rfl rfl (by omega) (by decide)) ?_) | (first
    | refine wE_nil (by kernel_rfl) ?_
    | refine wE_gy rfl ?_
    | refine wE_gn rfl rfl rfl ?_
    | refine wE_gu rfl rfl ?_
    | refine wE_gnn rfl rfl rfl ?_
    | refine wE_v (o_len_vwm rfl) rfl ?_
    | refine wE_v (o_not_d rfl) rfl ?_
    | refine wE_p rfl (by first | exact rfl | omega) rfl ?_
    | refine wE_v (o_str2 rfl rfl rfl) rfl ?_
    | refine wE_v (e_istr rfl rfl (by omega)) rfl ?_
    | refine wE_v (e_istr0 rfl rfl (by omega)) rfl ?_
    | refine wE_v (o_not rfl) rfl ?_
    | refine wE_v (e_ia_vw0 rfl rfl (by omega) rfl) rfl ?_
    | refine wE_v (e_ia_vwp rfl rfl (by omega) rfl) rfl ?_
    | refine wE_v (e_ia_vwm rfl rfl (by omega) (by omega) rfl) rfl ?_
    | refine wE_v (e_ia_vwi rfl rfl (by omega) rfl) rfl ?_
    | refine wE_v (e_ia_vwn rfl rfl (by omega) (by omega) rfl) rfl ?_
    | refine wE_n rfl rfl rfl ?_
    | refine wE_u rfl rfl rfl ?_
    | refine wE_new (o_mks rfl rfl (by omega) (by decide)) rfl ?_))
  exact ret_boolE (.inr rfl) ⟨_, retV_mv rfl, rfl⟩
theorem teO_nest (xs : List Ev) : NestObjs (teO xs) := nest_N
theorem con13 (c : Bool) (m : Md) (xs : List Ev) (h3 : xs.length ≤ 1048576) (hL : LenE xs 1048576) : ConG Try.prog 13 true [.agg (mdR c m xs)] (mdV 0 m xs) (teO xs) := by
  refine con_of_wpG mixed fun13 (by simp) ((List.range (xs.length + 1)).map (· + 3)) (teO_nest xs) ?_
  unfold ac13 ro13
  simp only [zipT]
  have c2 := con40 c xs h3 hL
  have hl := teO_len xs
  repeat (first
    | refine wC_a rfl ?_
    | refine q_s rfl ?_
    | refine q_b rfl ?_
    | refine wG_nil ?_
    | refine wG_g rfl ?_
    | refine wG_pure (o_len_vwm rfl) ?_
    | refine wG_pure (o_not_d rfl) ?_
    | refine wG_p rfl (by first | exact rfl | omega) ?_
    | refine wG_pure (o_str2 rfl rfl rfl) ?_
    | refine wG_pure (e_istr rfl rfl (by omega)) ?_
    | refine wG_pure (e_istr0 rfl rfl (by omega)) ?_
    | refine wG_pure (o_not rfl) ?_
    | refine wG_pure (e_ia_vw0 rfl rfl (by omega) rfl) ?_
    | refine wG_pure (e_ia_vwp rfl rfl (by omega) rfl) ?_
    | refine wG_pure (e_ia_vwm rfl rfl (by omega) (by omega) rfl) ?_
    | refine wG_pure (e_ia_vwi rfl rfl (by omega) rfl) ?_
    | refine wG_pure (e_ia_vwn rfl rfl (by omega) (by omega) rfl) ?_
    | refine wG_n rfl rfl ?_
    | refine wG_u rfl rfl ?_
    | refine wG_new (o_mks rfl rfl (by omega) (by decide)) ?_)
  refine wG_callG (v' := .sl 3 4 0 xs.length) c2 rfl rfl rfl ?_
  repeat (first
    | refine wC_a rfl ?_
    | refine q_s rfl ?_
    | refine q_b rfl ?_
    | refine wG_nil ?_
    | refine wG_g rfl ?_
    | refine wG_pure (o_len_vwm rfl) ?_
    | refine wG_pure (o_not_d rfl) ?_
    | refine wG_p rfl (by first | exact rfl | omega) ?_
    | refine wG_pure (o_str2 rfl rfl rfl) ?_
    | refine wG_pure (e_istr rfl rfl (by omega)) ?_
    | refine wG_pure (e_istr0 rfl rfl (by omega)) ?_
    | refine wG_pure (o_not rfl) ?_
    | refine wG_pure (e_ia_vw0 rfl rfl (by omega) rfl) ?_
    | refine wG_pure (e_ia_vwp rfl rfl (by omega) rfl) ?_
    | refine wG_pure (e_ia_vwm rfl rfl (by omega) (by omega) rfl) ?_
    | refine wG_pure (e_ia_vwi rfl rfl (by omega) rfl) ?_
    | refine wG_pure (e_ia_vwn rfl rfl (by omega) (by omega) rfl) ?_
    | refine wG_n rfl rfl ?_
    | refine wG_u rfl rfl ?_
    | refine wG_new (o_mks rfl rfl (by omega) (by decide)) ?_)
  refine wG_upd (o_st1 rfl (hg_out (fun h => by have := h.1; omega) rfl) rfl rfl rfl rfl) ?_
  repeat (first | refine wG_upd (o_st_agg rfl (hg_skip (by decide) (hg_out (fun h => by have := h.1; omega) rfl)) rfl rfl rfl rfl rfl) ?_ | (first
    | refine wC_a rfl ?_
    | refine q_s rfl ?_
    | refine q_b rfl ?_
    | refine wG_nil ?_
    | refine wG_g rfl ?_
    | refine wG_pure (o_len_vwm rfl) ?_
    | refine wG_pure (o_not_d rfl) ?_
    | refine wG_p rfl (by first | exact rfl | omega) ?_
    | refine wG_pure (o_str2 rfl rfl rfl) ?_
    | refine wG_pure (e_istr rfl rfl (by omega)) ?_
    | refine wG_pure (e_istr0 rfl rfl (by omega)) ?_
    | refine wG_pure (o_not rfl) ?_
    | refine wG_pure (e_ia_vw0 rfl rfl (by omega) rfl) ?_
    | refine wG_pure (e_ia_vwp rfl rfl (by omega) rfl) ?_
    | refine wG_pure (e_ia_vwm rfl rfl (by omega) (by omega) rfl) ?_
    | refine wG_pure (e_ia_vwi rfl rfl (by omega) rfl) ?_
    | refine wG_pure (e_ia_vwn rfl rfl (by omega) (by omega) rfl) ?_
    | refine wG_n rfl rfl ?_
    | refine wG_u rfl rfl ?_
    | refine wG_new (o_mks rfl rfl (by omega) (by decide)) ?_))
  have hπ : ∀ i, i < xs.length + 1 → πof ((List.range (xs.length + 1)).map (· + 3)) i = i + 3 := fun i hi => by simp [πof, hi]
  refine retG_gen (.inr rfl) (retVs_1 (retV_ldt rfl rfl rfl rfl rfl)) ?_ trivial ?_ (by simp [teO_len]) ?_ (fun i rows hi => ?_)
  · show [AV.agg [.int .i64 _, .int .i64 _, .int .i64 _, .sl 3 4 0 _]] = [AV.agg [.int .i64 _, .int .i64 _, .int .i64 _, .sl (πof _ 0) 4 0 _]]
    rw [hπ 0 (by omega)]
  · simp [mdV, AV.ltr, ltrL, teO_len]
  · unfold List.Nodup
    rw [List.pairwise_map]
    exact List.nodup_range.imp (fun h e => h (by omega))
  · have hi2 := (List.getElem?_eq_some_iff.1 hi).1
    rw [teO_len] at hi2
    rw [hπ i hi2]
    refine hg_skip (by omega) (hg_skip (by omega) ?_)
    rw [show i + 3 = 3 + i by omega]
    refine (shOget hi).trans (congrArg some ?_)
    cases i with
    | zero =>
      cases hi
      rw [nR_sh]
      unfold nR
      rw [List.map_map]
      refine List.map_congr_left fun j hj => ?_
      have hj2 := List.mem_range.1 hj
      simp only [Function.comp, if_pos hj2, hE.rn, Ab.rn]
      rw [hπ _ (by omega), show 3 + 1 + j = 1 + j + 3 by omega]
    | succ i =>
      have h6 : (nO hE xs xs.length)[i]? = some rows := hi
      rw [nO_get (by omega) (Nat.le_refl _)] at h6
      cases h6
      rw [shR_plain (rowsP _), ← rn_rows (rowsP _)]
/-- A copied model, by content. -/
theorem dr_md {H : Nat → Option Ab.Rows} {q : Nat} (m : Md) (xs : List Ev) (hH : ∀ i rows, (teO xs)[i]? = some rows → H (q + i) = some (shR q rows)) : Ab.dr H 6 (mdV q m xs) = .agg (mdR true m (tE xs)) := by
  have e3 := nR_dr (K := hE) (b := q + 1) (xs := xs) (z := zE) (H := H) (q := q) (sz := 4) (m := 1) (by rw [← nR_sh]; exact hH 0 _ rfl) (fun i hi => by
    have h6 : (teO xs)[i + 1]? = some ((hE.w (xs.getD i default)).map iRow) := nO_get (K := hE) (k := xs.length) hi (Nat.le_refl _)
    have := hH _ _ h6
    rw [shR_plain (rowsP _)] at this
    rwa [show q + 1 + i = q + (i + 1) by omega])
  rw [cR_nE] at e3
  have e4 : Ab.dr H 6 (mdV q m xs) = .agg [.int .i64 m.f, .int .i64 m.y, .int .i64 m.p, Ab.dr H 5 (.sl q 4 0 xs.length)] := rfl
  rw [e4, e3]
  rfl
def mdH (q : Nat) (xs : List Ev) (h : List (Nat × Option Ab.Rows)) : List (Nat × Option Ab.Rows) := mkh q ((teO xs).map (shR q)) ++ h
theorem mdH_in {m i : Nat} {xs : List Ev} {h : List (Nat × Option Ab.Rows)} {rows : Ab.Rows} (hi : (teO xs)[i]? = some rows) : hg (mdH m xs h) (m + i) = some (shR m rows) := shOget hi
theorem mdH_out {m q : Nat} {xs : List Ev} {h : List (Nat × Option Ab.Rows)} {y : Option Ab.Rows} (hq : q < m ∨ m + (xs.length + 1) ≤ q) (h1 : hg h q = y) : hg (mdH m xs h) q = y := hg_out (fun hc => by
  have h1 := hc.1
  have h2 := hc.2
  rw [List.length_map, teO_len] at h2
  omega) h1
theorem teO_lt {i : Nat} {xs : List Ev} {rows : Ab.Rows} (hi : (teO xs)[i]? = some rows) : i < xs.length + 1 := by
  have := (List.getElem?_eq_some_iff.1 hi).1
  rwa [teO_len] at this
end Go.Proofs.Ytnohaclnpbpjbaa.Dst
