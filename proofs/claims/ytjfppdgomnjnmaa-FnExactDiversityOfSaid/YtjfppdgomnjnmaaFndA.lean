/- Finds: what the small functions on one find give, for every find whose text is no longer than a machine's input. -/
import Derived.Test.YtjfppdgomnjnmaaNamA
namespace Go.Proofs.Ytjfppdgomnjnmaa.Fnd
open Go Go.Proofs.Ytjfppdgomnjnmaa.Ab Go.Proofs.Ytjfppdgomnjnmaa.Il
attribute [local irreducible] wpO wpC wpDr wpQ wpG wpE stepA seqQ blkQ Ret ev
set_option maxRecDepth 10000
set_option maxHeartbeats 4000000
set_option linter.unusedSimpArgs false
set_option linter.unusedVariables false

def ac29 : AC := (.seq (.reg [⟨(some 2), none, (.box 5 true (.t 0))⟩, ⟨(some 4), none, (.mv (.c (.int .i64 0)))⟩]) (.seq (.reg [⟨(some 5), none, (.mv (.t 1))⟩, ⟨(some 6), none, (.fa 1 (.t 2))⟩, ⟨(some 7), none, (.ld false 1 (.t 6))⟩, ⟨(some 8), none, (.slen (.t 7))⟩, ⟨(some 9), none, (.bin .sub (.t 5) (.t 8))⟩, ⟨(some 1), none, (.mv (.t 9))⟩]) (.seq (.seq (.reg [⟨(some 10), none, (.mv (.t 1))⟩, ⟨(some 11), none, (.bin .lss (.t 10) (.c (.int .i64 0)))⟩]) (.cond (.t 11) (.seq (.reg [⟨(some 4), none, (.mv (.c (.int .i64 (-1))))⟩]) .ret) .skip)) (.seq (.reg [⟨(some 12), none, (.mv (.t 1))⟩, ⟨(some 4), none, (.mv (.t 12))⟩]) .ret))))
def ro29 : List AOp := [(.mv (.t 4))]
theorem fun29 : Fun Try.prog 29 13 ac29 ro29 := ⟨Try.f29, _, Try.func29, by kernel_rfl, rfl, rfl, by kernel_rfl, by kernel_rfl, by decide⟩
def ac31 : AC := (.seq (.reg [⟨(some 1), none, (.box 5 true (.t 0))⟩, ⟨(some 2), none, (.alloc [(.int .i64 0), (.str ⟨#[]⟩), (.int .i64 0), (.int .i64 0), (.int .i64 0)])⟩]) (.seq (.reg [⟨(some 3), none, (.alloc [(.int .i64 0), (.str ⟨#[]⟩), (.int .i64 0), (.int .i64 0), (.int .i64 0)])⟩]) (.seq (.reg [⟨(some 4), none, (.fa 0 (.t 1))⟩, ⟨(some 5), none, (.ld false 1 (.t 4))⟩, ⟨(some 6), none, (.fa 0 (.t 3))⟩, ⟨none, none, (.st 1 (.t 6) (.t 5))⟩]) (.seq (.reg [⟨(some 7), none, (.fa 1 (.t 1))⟩, ⟨(some 8), none, (.ld false 1 (.t 7))⟩, ⟨(some 9), none, (.fa 1 (.t 3))⟩, ⟨none, none, (.st 1 (.t 9) (.t 8))⟩]) (.seq (.reg [⟨(some 10), none, (.fa 2 (.t 1))⟩, ⟨(some 11), none, (.ld false 1 (.t 10))⟩, ⟨(some 12), none, (.fa 2 (.t 3))⟩, ⟨none, none, (.st 1 (.t 12) (.t 11))⟩]) (.seq (.reg [⟨(some 13), none, (.fa 3 (.t 1))⟩, ⟨(some 14), none, (.ld false 1 (.t 13))⟩, ⟨(some 15), none, (.fa 3 (.t 3))⟩, ⟨none, none, (.st 1 (.t 15) (.t 14))⟩]) (.seq (.reg [⟨(some 16), none, (.fa 4 (.t 1))⟩, ⟨(some 17), none, (.ld false 1 (.t 16))⟩, ⟨(some 18), none, (.fa 4 (.t 3))⟩, ⟨none, none, (.st 1 (.t 18) (.t 17))⟩]) (.seq (.reg [⟨(some 19), none, (.ld true 5 (.t 3))⟩, ⟨none, none, (.st 5 (.t 2) (.t 19))⟩]) .ret))))))))
def ro31 : List AOp := [(.ld true 5 (.t 2))]
theorem fun31 : Fun Try.prog 31 20 ac31 ro31 := ⟨Try.f31, _, Try.func31, by kernel_rfl, rfl, rfl, by kernel_rfl, by kernel_rfl, by decide⟩
def ac32 : AC := (.seq (.reg [⟨(some 1), none, (.box 5 true (.t 0))⟩, ⟨(some 2), none, (.mv (.c (.bool false)))⟩]) (.seq (.reg [⟨(some 3), none, (.fa 0 (.t 1))⟩, ⟨(some 4), none, (.ld false 1 (.t 3))⟩, ⟨(some 5), none, (.call 49 [(.t 4)])⟩, ⟨(some 6), none, (.mv (.t 5))⟩, ⟨(some 7), (some (6, true)), (.fa 1 (.t 1))⟩, ⟨(some 8), (some (6, true)), (.ld false 1 (.t 7))⟩, ⟨(some 9), (some (6, true)), (.call 36 [(.t 8)])⟩, ⟨(some 10), none, (.pick (.t 6) (.t 9) (.c (.bool false)))⟩, ⟨(some 11), none, (.mv (.t 10))⟩, ⟨(some 12), (some (11, true)), (.fa 2 (.t 1))⟩, ⟨(some 13), (some (11, true)), (.ld false 1 (.t 12))⟩, ⟨(some 14), (some (11, true)), (.call 50 [(.t 13), (.c (.int .i64 1)), (.c (.int .i64 10000))])⟩, ⟨(some 15), none, (.pick (.t 11) (.t 14) (.c (.bool false)))⟩, ⟨(some 16), none, (.mv (.t 15))⟩, ⟨(some 17), (some (16, true)), (.fa 3 (.t 1))⟩, ⟨(some 18), (some (16, true)), (.ld false 1 (.t 17))⟩, ⟨(some 19), (some (16, true)), (.call 50 [(.t 18), (.c (.int .i64 0)), (.c (.int .i64 1000000))])⟩, ⟨(some 20), none, (.pick (.t 16) (.t 19) (.c (.bool false)))⟩, ⟨(some 21), none, (.mv (.t 20))⟩, ⟨(some 22), (some (21, true)), (.fa 4 (.t 1))⟩, ⟨(some 23), (some (21, true)), (.ld false 1 (.t 22))⟩, ⟨(some 24), (some (21, true)), (.fa 2 (.t 1))⟩, ⟨(some 25), (some (21, true)), (.ld false 1 (.t 24))⟩, ⟨(some 26), (some (21, true)), (.bin .mul (.c (.int .i64 100)) (.t 25))⟩, ⟨(some 27), (some (21, true)), (.call 50 [(.t 23), (.c (.int .i64 0)), (.t 26)])⟩, ⟨(some 28), none, (.pick (.t 21) (.t 27) (.c (.bool false)))⟩, ⟨(some 2), none, (.mv (.t 28))⟩]) .ret))
def ro32 : List AOp := [(.mv (.t 2))]
theorem fun32 : Fun Try.prog 32 29 ac32 ro32 := ⟨Try.f32, _, Try.func32, by kernel_rfl, rfl, rfl, by kernel_rfl, by kernel_rfl, by decide⟩
def ac33 : AC := (.seq (.reg [⟨(some 2), none, (.box 5 true (.t 0))⟩, ⟨(some 3), none, (.box 5 true (.t 1))⟩, ⟨(some 4), none, (.mv (.c (.int .i64 0)))⟩]) (.seq (.dreg [⟨(some 5), none, (.fa 0 (.t 2))⟩, ⟨(some 6), none, (.ld false 1 (.t 5))⟩, ⟨(some 7), none, (.fa 0 (.t 3))⟩, ⟨(some 8), none, (.ld false 1 (.t 7))⟩, ⟨(some 9), none, (.call 52 [(.t 6), (.t 8)])⟩, ⟨(some 10), none, (.fa 1 (.t 2))⟩, ⟨(some 11), none, (.ld false 1 (.t 10))⟩, ⟨(some 12), none, (.fa 1 (.t 3))⟩, ⟨(some 13), none, (.ld false 1 (.t 12))⟩, ⟨(some 14), none, (.call 53 [(.t 11), (.t 13)])⟩, ⟨(some 15), none, (.bsl 1 [(.int .i64 0)] 2 [(0, (.t 9)), (1, (.t 14))])⟩, ⟨(some 16), none, (.call 51 [(.t 15)])⟩, ⟨(some 4), none, (.mv (.t 16))⟩] [[], [0], [], [2], [0, 1, 2, 3], [], [5], [], [7], [0, 1, 2, 3, 4, 5, 6, 7, 8], [0, 1, 2, 3, 4, 5, 6, 7, 8, 9], [0, 1, 2, 3, 4, 5, 6, 7, 8, 9, 10], [0, 1, 2, 3, 4, 5, 6, 7, 8, 9, 10, 11]]) .ret))
def ro33 : List AOp := [(.mv (.t 4))]
theorem fun33 : Fun Try.prog 33 17 ac33 ro33 := ⟨Try.f33, _, Try.func33, by kernel_rfl, rfl, rfl, by kernel_rfl, by kernel_rfl, by decide⟩
def ac34 : AC := (.seq (.reg [⟨(some 2), none, (.box 5 true (.t 0))⟩, ⟨(some 3), none, (.box 5 true (.t 1))⟩, ⟨(some 4), none, (.mv (.c (.bool false)))⟩]) (.seq (.seq (.reg [⟨(some 5), none, (.fa 0 (.t 2))⟩, ⟨(some 6), none, (.ld false 1 (.t 5))⟩, ⟨(some 7), none, (.fa 0 (.t 3))⟩, ⟨(some 8), none, (.ld false 1 (.t 7))⟩, ⟨(some 9), none, (.bin .neq (.t 6) (.t 8))⟩]) (.cond (.t 9) (.seq (.reg [⟨(some 4), none, (.mv (.c (.bool false)))⟩]) .ret) .skip)) (.seq (.seq (.reg [⟨(some 10), none, (.fa 1 (.t 2))⟩, ⟨(some 11), none, (.ld false 1 (.t 10))⟩, ⟨(some 12), none, (.fa 1 (.t 3))⟩, ⟨(some 13), none, (.ld false 1 (.t 12))⟩, ⟨(some 14), none, (.str2 .neq (.t 11) (.t 13))⟩]) (.cond (.t 14) (.seq (.reg [⟨(some 4), none, (.mv (.c (.bool false)))⟩]) .ret) .skip)) (.seq (.seq (.reg [⟨(some 15), none, (.fa 2 (.t 2))⟩, ⟨(some 16), none, (.ld false 1 (.t 15))⟩, ⟨(some 17), none, (.fa 2 (.t 3))⟩, ⟨(some 18), none, (.ld false 1 (.t 17))⟩, ⟨(some 19), none, (.bin .neq (.t 16) (.t 18))⟩]) (.cond (.t 19) (.seq (.reg [⟨(some 4), none, (.mv (.c (.bool false)))⟩]) .ret) .skip)) (.seq (.seq (.reg [⟨(some 20), none, (.fa 3 (.t 2))⟩, ⟨(some 21), none, (.ld false 1 (.t 20))⟩, ⟨(some 22), none, (.fa 3 (.t 3))⟩, ⟨(some 23), none, (.ld false 1 (.t 22))⟩, ⟨(some 24), none, (.bin .neq (.t 21) (.t 23))⟩]) (.cond (.t 24) (.seq (.reg [⟨(some 4), none, (.mv (.c (.bool false)))⟩]) .ret) .skip)) (.seq (.seq (.reg [⟨(some 25), none, (.fa 4 (.t 2))⟩, ⟨(some 26), none, (.ld false 1 (.t 25))⟩, ⟨(some 27), none, (.fa 4 (.t 3))⟩, ⟨(some 28), none, (.ld false 1 (.t 27))⟩, ⟨(some 29), none, (.bin .neq (.t 26) (.t 28))⟩]) (.cond (.t 29) (.seq (.reg [⟨(some 4), none, (.mv (.c (.bool false)))⟩]) .ret) .skip)) (.seq (.reg [⟨(some 4), none, (.mv (.c (.bool true)))⟩]) .ret)))))))
def ro34 : List AOp := [(.mv (.t 4))]
theorem fun34 : Fun Try.prog 34 30 ac34 ro34 := ⟨Try.f34, _, Try.func34, by kernel_rfl, rfl, rfl, by kernel_rfl, by kernel_rfl, by decide⟩
def ac47 : AC := (.seq (.reg [⟨(some 1), none, (.box 5 true (.t 0))⟩, ⟨(some 2), none, (.mv (.c (.bool false)))⟩]) (.seq (.reg [⟨(some 3), none, (.fa 0 (.t 1))⟩, ⟨(some 4), none, (.ld false 1 (.t 3))⟩, ⟨(some 5), none, (.call 44 [(.t 4), (.c (.int .i64 1)), (.c (.int .i64 999))])⟩, ⟨(some 6), none, (.mv (.t 5))⟩, ⟨(some 7), (some (6, true)), (.fa 1 (.t 1))⟩, ⟨(some 8), (some (6, true)), (.ld false 1 (.t 7))⟩, ⟨(some 9), (some (6, true)), (.call 35 [(.t 8)])⟩, ⟨(some 10), none, (.pick (.t 6) (.t 9) (.c (.bool false)))⟩, ⟨(some 11), none, (.mv (.t 10))⟩, ⟨(some 12), (some (11, true)), (.fa 2 (.t 1))⟩, ⟨(some 13), (some (11, true)), (.ld false 1 (.t 12))⟩, ⟨(some 14), (some (11, true)), (.call 44 [(.t 13), (.c (.int .i64 1)), (.c (.int .i64 10000))])⟩, ⟨(some 15), none, (.pick (.t 11) (.t 14) (.c (.bool false)))⟩, ⟨(some 16), none, (.mv (.t 15))⟩, ⟨(some 17), (some (16, true)), (.fa 3 (.t 1))⟩, ⟨(some 18), (some (16, true)), (.ld false 1 (.t 17))⟩, ⟨(some 19), (some (16, true)), (.call 44 [(.t 18), (.c (.int .i64 0)), (.c (.int .i64 1000000))])⟩, ⟨(some 20), none, (.pick (.t 16) (.t 19) (.c (.bool false)))⟩, ⟨(some 21), none, (.mv (.t 20))⟩, ⟨(some 22), (some (21, true)), (.fa 4 (.t 1))⟩, ⟨(some 23), (some (21, true)), (.ld false 1 (.t 22))⟩, ⟨(some 24), (some (21, true)), (.fa 2 (.t 1))⟩, ⟨(some 25), (some (21, true)), (.ld false 1 (.t 24))⟩, ⟨(some 26), (some (21, true)), (.bin .mul (.c (.int .i64 100)) (.t 25))⟩, ⟨(some 27), (some (21, true)), (.call 44 [(.t 23), (.c (.int .i64 0)), (.t 26)])⟩, ⟨(some 28), none, (.pick (.t 21) (.t 27) (.c (.bool false)))⟩, ⟨(some 2), none, (.mv (.t 28))⟩]) .ret))
def ro47 : List AOp := [(.mv (.t 2))]
theorem fun47 : Fun Try.prog 47 29 ac47 ro47 := ⟨Try.f47, _, Try.func47, by kernel_rfl, rfl, rfl, by kernel_rfl, by kernel_rfl, by decide⟩
def ac48 : AC := (.seq (.reg [⟨(some 2), none, (.box 5 true (.t 0))⟩, ⟨(some 3), none, (.box 5 true (.t 1))⟩, ⟨(some 4), none, (.mv (.c (.bool false)))⟩]) (.seq (.reg [⟨(some 5), none, (.fa 0 (.t 2))⟩, ⟨(some 6), none, (.ld false 1 (.t 5))⟩, ⟨(some 7), none, (.fa 0 (.t 3))⟩, ⟨(some 8), none, (.ld false 1 (.t 7))⟩, ⟨(some 9), none, (.bin .lss (.t 6) (.t 8))⟩, ⟨(some 10), none, (.mv (.t 9))⟩, ⟨(some 11), (some (10, false)), (.fa 0 (.t 2))⟩, ⟨(some 12), (some (10, false)), (.ld false 1 (.t 11))⟩, ⟨(some 13), (some (10, false)), (.fa 0 (.t 3))⟩, ⟨(some 14), (some (10, false)), (.ld false 1 (.t 13))⟩, ⟨(some 15), (some (10, false)), (.bin .eql (.t 12) (.t 14))⟩, ⟨(some 16), (some (10, false)), (.mv (.t 15))⟩, ⟨(some 17), (some (16, true)), (.fa 1 (.t 2))⟩, ⟨(some 18), (some (16, true)), (.ld false 1 (.t 17))⟩, ⟨(some 19), (some (16, true)), (.fa 1 (.t 3))⟩, ⟨(some 20), (some (16, true)), (.ld false 1 (.t 19))⟩, ⟨(some 21), (some (16, true)), (.str2 .lss (.t 18) (.t 20))⟩, ⟨(some 22), (some (10, false)), (.pick (.t 16) (.t 21) (.c (.bool false)))⟩, ⟨(some 23), none, (.pick (.t 10) (.c (.bool true)) (.t 22))⟩, ⟨(some 4), none, (.mv (.t 23))⟩]) .ret))
def ro48 : List AOp := [(.mv (.t 4))]
theorem fun48 : Fun Try.prog 48 24 ac48 ro48 := ⟨Try.f48, _, Try.func48, by kernel_rfl, rfl, rfl, by kernel_rfl, by kernel_rfl, by decide⟩

structure Fd where
  c : Int
  t : ByteArray
  n : Int
  w : Int
  r : Int
  deriving Inhabited
def fRow (f : Fd) : List AV := [.int .i64 f.c, .str f.t, .int .i64 f.n, .int .i64 f.w, .int .i64 f.r]
theorem fRow_plain : ∀ x : Fd, ∀ v ∈ fRow x, AV.plain v = true := by intro x v hv; simp [fRow] at hv; rcases hv with rfl | rfl | rfl | rfl | rfl <;> rfl
theorem fRow_len (x : Fd) : (fRow x).length = 5 := rfl
def isF (f : Fd) : Prop := (1 ≤ f.c ∧ f.c ≤ 999) ∧ NameOK f.t ∧ (1 ≤ f.n ∧ f.n ≤ 10000) ∧ (0 ≤ f.w ∧ f.w ≤ 1000000) ∧ (0 ≤ f.r ∧ f.r ≤ 100 * f.n)
def befF (a b : Fd) : Prop := a.c < b.c ∨ (a.c = b.c ∧ sL a.t b.t)
def cmF (a b : Fd) : Int := orI [cmI a.c b.c, cmS a.t b.t]
theorem cmF_neg (a b : Fd) : cmF a b ≥ 0 ↔ ¬ befF a b := by
  unfold cmF befF orI orI orI cmI cmS
  rcases Int.lt_trichotomy a.c b.c with h | h | h
  · simp [h]
  · rcases sL_tri a.t b.t with ⟨t1, t2, t3⟩ | ⟨t1, t2, t3⟩ | ⟨t1, t2, t3⟩ <;> simp [h, t1, t2]
  · have h1 : ¬ a.c < b.c := by omega
    have h2 : a.c ≠ b.c := by omega
    simp [h, h1, h2]
open Classical in
theorem con47 (f : Fd) (hs : f.t.size ≤ 1048576) : Con Try.prog 47 true [.agg (fRow f)] (.bool (decide (isF f))) [] := by
  refine con_of_wp mixed fun47 (by simp) [] plain_nil ?_
  unfold ac47 ro47
  simp only [zipT]
  repeat' (first | refine wG_call (con44 _ _ _) rfl rfl ?_ | refine wG_call (con35 _ hs) rfl rfl ?_ | (first
    | refine wC_a rfl ?_
    | refine q_s rfl ?_
    | refine q_b rfl ?_
    | refine wG_nil ?_
    | refine wG_g rfl ?_
    | refine wG_pure (o_len_vwm rfl) ?_
    | refine wG_pure (o_not_d rfl) ?_
    | refine wG_p rfl (by first | exact rfl | omega) ?_
    | refine wG_pure (o_str2 rfl rfl rfl) ?_
    | refine wG_pure (e_istr rfl rfl (by omega)) ?_
    | refine wG_pure (e_istr0 rfl rfl (by omega)) ?_
    | refine wG_pure (o_not rfl) ?_
    | refine wG_pure (e_ia_vw0 rfl rfl (by omega) rfl) ?_
    | refine wG_pure (e_ia_vwp rfl rfl (by omega) rfl) ?_
    | refine wG_pure (e_ia_vwm rfl rfl (by omega) (by omega) rfl) ?_
    | refine wG_pure (e_ia_vwi rfl rfl (by omega) rfl) ?_
    | refine wG_pure (e_ia_vwn rfl rfl (by omega) (by omega) rfl) ?_
    | refine wG_n rfl rfl ?_
    | refine wG_u rfl rfl ?_
    | refine wG_new (o_mks rfl rfl (by omega) (by decide)) ?_) | (refine wG_gd rfl (fun hgt => ?_) (fun hgf => ?_) <;> (first | simp only [eq_true hgt, decide_true] | simp only [eq_false hgf, decide_false])) | refine wC_cond_d rfl (fun hg => ?_) (fun hg => ?_))
  all_goals (refine ret_boolE (.inr rfl) ⟨_, retV_mv rfl, ?_⟩; unfold isF; first | rfl | simp [*])
open Classical in
theorem con32 (f : Fd) (hs : f.t.size ≤ 1048576) : Con Try.prog 32 true [.agg (fRow f)] (.bool (decide (isF f))) [] := by
  refine con_of_wp mixed fun32 (by simp) [] plain_nil ?_
  unfold ac32 ro32
  simp only [zipT]
  repeat' (first | refine wG_call (con50 _ _ _) rfl rfl ?_ | refine wG_call (con49 _) rfl rfl ?_ | refine wG_call (con36 _ hs) rfl rfl ?_ | (first
    | refine wC_a rfl ?_
    | refine q_s rfl ?_
    | refine q_b rfl ?_
    | refine wG_nil ?_
    | refine wG_g rfl ?_
    | refine wG_pure (o_len_vwm rfl) ?_
    | refine wG_pure (o_not_d rfl) ?_
    | refine wG_p rfl (by first | exact rfl | omega) ?_
    | refine wG_pure (o_str2 rfl rfl rfl) ?_
    | refine wG_pure (e_istr rfl rfl (by omega)) ?_
    | refine wG_pure (e_istr0 rfl rfl (by omega)) ?_
    | refine wG_pure (o_not rfl) ?_
    | refine wG_pure (e_ia_vw0 rfl rfl (by omega) rfl) ?_
    | refine wG_pure (e_ia_vwp rfl rfl (by omega) rfl) ?_
    | refine wG_pure (e_ia_vwm rfl rfl (by omega) (by omega) rfl) ?_
    | refine wG_pure (e_ia_vwi rfl rfl (by omega) rfl) ?_
    | refine wG_pure (e_ia_vwn rfl rfl (by omega) (by omega) rfl) ?_
    | refine wG_n rfl rfl ?_
    | refine wG_u rfl rfl ?_
    | refine wG_new (o_mks rfl rfl (by omega) (by decide)) ?_) | (refine wG_gd rfl (fun hgt => ?_) (fun hgf => ?_) <;> (first | simp only [eq_true hgt, decide_true] | simp only [eq_false hgf, decide_false])) | refine wC_cond_d rfl (fun hg => ?_) (fun hg => ?_))
  all_goals (refine ret_boolE (.inr rfl) ⟨_, retV_mv rfl, ?_⟩; unfold isF; first | rfl | simp [*])
open Classical in
theorem con48 (a b : Fd) : Con Try.prog 48 true [.agg (fRow a), .agg (fRow b)] (.bool (decide (befF a b))) [] := by
  refine con_of_wp mixed fun48 (by simp) [] plain_nil ?_
  unfold ac48 ro48
  simp only [zipT]
  repeat' (first | (first
    | refine wC_a rfl ?_
    | refine q_s rfl ?_
    | refine q_b rfl ?_
    | refine wG_nil ?_
    | refine wG_g rfl ?_
    | refine wG_pure (o_len_vwm rfl) ?_
    | refine wG_pure (o_not_d rfl) ?_
    | refine wG_p rfl (by first | exact rfl | omega) ?_
    | refine wG_pure (o_str2 rfl rfl rfl) ?_
    | refine wG_pure (e_istr rfl rfl (by omega)) ?_
    | refine wG_pure (e_istr0 rfl rfl (by omega)) ?_
    | refine wG_pure (o_not rfl) ?_
    | refine wG_pure (e_ia_vw0 rfl rfl (by omega) rfl) ?_
    | refine wG_pure (e_ia_vwp rfl rfl (by omega) rfl) ?_
    | refine wG_pure (e_ia_vwm rfl rfl (by omega) (by omega) rfl) ?_
    | refine wG_pure (e_ia_vwi rfl rfl (by omega) rfl) ?_
    | refine wG_pure (e_ia_vwn rfl rfl (by omega) (by omega) rfl) ?_
    | refine wG_n rfl rfl ?_
    | refine wG_u rfl rfl ?_
    | refine wG_new (o_mks rfl rfl (by omega) (by decide)) ?_) | (refine wG_gd rfl (fun hgt => ?_) (fun hgf => ?_) <;> (first | simp only [eq_true hgt, decide_true] | simp only [eq_false hgf, decide_false])) | refine wC_cond_d rfl (fun hg => ?_) (fun hg => ?_))
  all_goals (refine ret_boolE (.inr rfl) ⟨_, retV_mv rfl, ?_⟩; unfold befF; simp [*])
theorem con33 (a b : Fd) : Con Try.prog 33 true [.agg (fRow a), .agg (fRow b)] (.int .i64 (cmF a b)) [] := by
  refine con_of_wp mixed fun33 (by simp) [] plain_nil ?_
  unfold ac33 ro33
  simp only [zipT]
  repeat (first | refine wE_c (con52 _ _) rfl rfl rfl ?_ | refine wE_c (con53 _ _) rfl rfl rfl ?_ | refine wE_c (con51 true [cmI a.c b.c, cmS a.t b.t] (Nat.le_of_ble_eq_true rfl)) (ag_sl (f := iRow) (zs := [cmI a.c b.c, cmS a.t b.t]) rfl rfl rfl iRow_plain ag_nil) rfl rfl ?_ | (first
    | refine wC_a rfl ?_
    | refine q_s rfl ?_
    | refine q_b rfl ?_
    | refine wG_nil ?_
    | refine wG_g rfl ?_
    | refine wG_pure (o_len_vwm rfl) ?_
    | refine wG_pure (o_not_d rfl) ?_
    | refine wG_p rfl (by first | exact rfl | omega) ?_
    | refine wG_pure (o_str2 rfl rfl rfl) ?_
    | refine wG_pure (e_istr rfl rfl (by omega)) ?_
    | refine wG_pure (e_istr0 rfl rfl (by omega)) ?_
    | refine wG_pure (o_not rfl) ?_
    | refine wG_pure (e_ia_vw0 rfl rfl (by omega) rfl) ?_
    | refine wG_pure (e_ia_vwp rfl rfl (by omega) rfl) ?_
    | refine wG_pure (e_ia_vwm rfl rfl (by omega) (by omega) rfl) ?_
    | refine wG_pure (e_ia_vwi rfl rfl (by omega) rfl) ?_
    | refine wG_pure (e_ia_vwn rfl rfl (by omega) (by omega) rfl) ?_
    | refine wG_n rfl rfl ?_
    | refine wG_u rfl rfl ?_
    | refine wG_new (o_mks rfl rfl (by omega) (by decide)) ?_) | (first
    | refine wE_nil (by kernel_rfl) ?_
    | refine wE_gy rfl ?_
    | refine wE_gn rfl rfl rfl ?_
    | refine wE_gu rfl rfl ?_
    | refine wE_gnn rfl rfl rfl ?_
    | refine wE_v (o_len_vwm rfl) rfl ?_
    | refine wE_v (o_not_d rfl) rfl ?_
    | refine wE_p rfl (by first | exact rfl | omega) rfl ?_
    | refine wE_v (o_str2 rfl rfl rfl) rfl ?_
    | refine wE_v (e_istr rfl rfl (by omega)) rfl ?_
    | refine wE_v (e_istr0 rfl rfl (by omega)) rfl ?_
    | refine wE_v (o_not rfl) rfl ?_
    | refine wE_v (e_ia_vw0 rfl rfl (by omega) rfl) rfl ?_
    | refine wE_v (e_ia_vwp rfl rfl (by omega) rfl) rfl ?_
    | refine wE_v (e_ia_vwm rfl rfl (by omega) (by omega) rfl) rfl ?_
    | refine wE_v (e_ia_vwi rfl rfl (by omega) rfl) rfl ?_
    | refine wE_v (e_ia_vwn rfl rfl (by omega) (by omega) rfl) rfl ?_
    | refine wE_n rfl rfl rfl ?_
    | refine wE_u rfl rfl rfl ?_
    | refine wE_new (o_mks rfl rfl (by omega) (by decide)) rfl ?_))
  refine ret_intE (.inr rfl) ⟨_, retV_mv rfl, ?_⟩
  rfl
theorem con31 (f : Fd) : Con Try.prog 31 true [.agg (fRow f)] (.agg (fRow f)) [] := by
  refine con_of_wp mixed fun31 (by simp) [] plain_nil ?_
  unfold ac31 ro31
  simp only [zipT]
  repeat (first
    | refine wC_a rfl ?_
    | refine q_s rfl ?_
    | refine q_b rfl ?_
    | refine wG_nil ?_
    | refine wG_g rfl ?_
    | refine wG_pure (o_len_vwm rfl) ?_
    | refine wG_pure (o_not_d rfl) ?_
    | refine wG_p rfl (by first | exact rfl | omega) ?_
    | refine wG_pure (o_str2 rfl rfl rfl) ?_
    | refine wG_pure (e_istr rfl rfl (by omega)) ?_
    | refine wG_pure (e_istr0 rfl rfl (by omega)) ?_
    | refine wG_pure (o_not rfl) ?_
    | refine wG_pure (e_ia_vw0 rfl rfl (by omega) rfl) ?_
    | refine wG_pure (e_ia_vwp rfl rfl (by omega) rfl) ?_
    | refine wG_pure (e_ia_vwm rfl rfl (by omega) (by omega) rfl) ?_
    | refine wG_pure (e_ia_vwi rfl rfl (by omega) rfl) ?_
    | refine wG_pure (e_ia_vwn rfl rfl (by omega) (by omega) rfl) ?_
    | refine wG_n rfl rfl ?_
    | refine wG_u rfl rfl ?_
    | refine wG_new (o_mks rfl rfl (by omega) (by decide)) ?_)
  refine ret_valE (.inr rfl) rfl trivial rfl ?_; exact ⟨_, retV_ldt rfl rfl rfl rfl rfl, rfl⟩
theorem con34 (a : Fd) : Con Try.prog 34 true [.agg (fRow a), .agg (fRow a)] (.bool true) [] := by
  refine con_of_wp mixed fun34 (by simp) [] plain_nil ?_
  unfold ac34 ro34
  simp only [zipT]
  repeat' (first | (first
    | refine wC_a rfl ?_
    | refine q_s rfl ?_
    | refine q_b rfl ?_
    | refine wG_nil ?_
    | refine wG_g rfl ?_
    | refine wG_pure (o_len_vwm rfl) ?_
    | refine wG_pure (o_not_d rfl) ?_
    | refine wG_p rfl (by first | exact rfl | omega) ?_
    | refine wG_pure (o_str2 rfl rfl rfl) ?_
    | refine wG_pure (e_istr rfl rfl (by omega)) ?_
    | refine wG_pure (e_istr0 rfl rfl (by omega)) ?_
    | refine wG_pure (o_not rfl) ?_
    | refine wG_pure (e_ia_vw0 rfl rfl (by omega) rfl) ?_
    | refine wG_pure (e_ia_vwp rfl rfl (by omega) rfl) ?_
    | refine wG_pure (e_ia_vwm rfl rfl (by omega) (by omega) rfl) ?_
    | refine wG_pure (e_ia_vwi rfl rfl (by omega) rfl) ?_
    | refine wG_pure (e_ia_vwn rfl rfl (by omega) (by omega) rfl) ?_
    | refine wG_n rfl rfl ?_
    | refine wG_u rfl rfl ?_
    | refine wG_new (o_mks rfl rfl (by omega) (by decide)) ?_) | (refine wG_gd rfl (fun hgt => ?_) (fun hgf => ?_) <;> (first | simp only [eq_true hgt, decide_true] | simp only [eq_false hgf, decide_false])) | refine wC_cond_d rfl (fun hg => ?_) (fun hg => ?_))
  any_goals contradiction
  refine ret_boolE (.inr rfl) ⟨_, retV_mv rfl, rfl⟩
def szF (left : Int) (f : Fd) : Int := if left - f.t.size < 0 then -1 else left - f.t.size
theorem con29 (f : Fd) (hs : f.t.size ≤ 9223372036854775807) (left : Int) (h0 : 0 ≤ left) (h1 : left ≤ 1048576) : Con Try.prog 29 true [.agg (fRow f), .int .i64 left] (.int .i64 (szF left f)) [] := by
  refine con_of_wp mixed fun29 (by simp) [] plain_nil ?_
  unfold ac29 ro29
  simp only [zipT]
  repeat' (first | (first
    | refine wC_a rfl ?_
    | refine q_s rfl ?_
    | refine q_b rfl ?_
    | refine wG_nil ?_
    | refine wG_g rfl ?_
    | refine wG_pure (o_len_vwm rfl) ?_
    | refine wG_pure (o_not_d rfl) ?_
    | refine wG_p rfl (by first | exact rfl | omega) ?_
    | refine wG_pure (o_str2 rfl rfl rfl) ?_
    | refine wG_pure (e_istr rfl rfl (by omega)) ?_
    | refine wG_pure (e_istr0 rfl rfl (by omega)) ?_
    | refine wG_pure (o_not rfl) ?_
    | refine wG_pure (e_ia_vw0 rfl rfl (by omega) rfl) ?_
    | refine wG_pure (e_ia_vwp rfl rfl (by omega) rfl) ?_
    | refine wG_pure (e_ia_vwm rfl rfl (by omega) (by omega) rfl) ?_
    | refine wG_pure (e_ia_vwi rfl rfl (by omega) rfl) ?_
    | refine wG_pure (e_ia_vwn rfl rfl (by omega) (by omega) rfl) ?_
    | refine wG_n rfl rfl ?_
    | refine wG_u rfl rfl ?_
    | refine wG_new (o_mks rfl rfl (by omega) (by decide)) ?_) | (refine wG_gd rfl (fun hgt => ?_) (fun hgf => ?_) <;> (first | simp only [eq_true hgt, decide_true] | simp only [eq_false hgf, decide_false])) | refine wC_cond_d rfl (fun hg => ?_) (fun hg => ?_))
  all_goals (refine ret_intE (.inr rfl) ⟨_, retV_mv rfl, ?_⟩; unfold szF; first | (rw [if_pos (by assumption)]; done) | rw [if_neg (by assumption)])
end Go.Proofs.Ytjfppdgomnjnmaa.Fnd
