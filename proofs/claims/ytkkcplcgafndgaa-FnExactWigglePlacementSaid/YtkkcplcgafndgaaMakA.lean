/- Distributions made of weights: both sides, and the body of the law. -/
import Derived.Test.YtkkcplcgafndgaaMkdB
import Derived.Test.YtkkcplcgafndgaaMkdC
import Derived.Test.YtkkcplcgafndgaaAb1
namespace Go.Proofs.Ytkkcplcgafndgaa.Dst
open Go Go.Proofs.Ytkkcplcgafndgaa.Ab Go.Proofs.Ytkkcplcgafndgaa.Il
attribute [local irreducible] wpO wpC wpDr wpQ wpG wpE stepA seqQ blkQ Ret ev
set_option maxRecDepth 10000
set_option maxHeartbeats 8000000
set_option linter.unusedSimpArgs false
set_option linter.unusedVariables false
def ac3 : AC := (.seq (.reg [⟨(some 4), none, (.mv (.c (.bool false)))⟩]) (.seq (.seq (.reg [⟨(some 15), none, (.mv (.t 1))⟩, ⟨(some 16), none, (.len (.t 15))⟩, ⟨(some 17), none, (.bin .gtr (.t 16) (.c (.int .i64 1048576)))⟩]) (.cond (.t 17) (.seq (.reg [⟨(some 4), none, (.mv (.c (.bool true)))⟩]) .ret) .skip)) (.seq (.reg [⟨(some 19), none, (.mv (.t 0))⟩, ⟨(some 20), none, (.mv (.t 1))⟩, ⟨(some 21), none, (.call 7 [(.t 20)])⟩, ⟨(some 22), none, (.call 6 [(.t 19), (.t 21)])⟩, ⟨(some 18), none, (.mv (.t 22))⟩, ⟨(some 23), none, (.ext (.t 18) 0)⟩, ⟨(some 24), none, (.ext (.t 18) 1)⟩, ⟨(some 5), none, (.alloc [(.int .i64 0), .nilS])⟩, ⟨none, none, (.st 2 (.t 5) (.t 23))⟩, ⟨(some 6), none, (.mv (.t 24))⟩]) (.seq (.reg [⟨(some 25), none, (.mv (.t 1))⟩, ⟨(some 26), none, (.call 7 [(.t 25)])⟩, ⟨(some 7), none, (.mv (.t 26))⟩]) (.seq (.reg [⟨(some 28), none, (.mv (.t 0))⟩, ⟨(some 29), none, (.mv (.t 7))⟩, ⟨(some 30), none, (.call 8 [(.t 28), (.t 29)])⟩, ⟨(some 27), none, (.mv (.t 30))⟩, ⟨(some 31), none, (.ext (.t 27) 0)⟩, ⟨(some 32), none, (.ext (.t 27) 1)⟩, ⟨(some 8), none, (.alloc [(.int .i64 0), .nilS])⟩, ⟨none, none, (.st 2 (.t 8) (.t 31))⟩, ⟨(some 9), none, (.mv (.t 32))⟩]) (.seq (.seq (.reg [⟨(some 33), none, (.ld true 2 (.t 8))⟩, ⟨(some 34), none, (.ld true 2 (.t 5))⟩, ⟨(some 35), none, (.call 9 [(.t 33), (.t 34)])⟩, ⟨(some 36), none, (.un .not (.t 35))⟩, ⟨(some 37), none, (.mv (.t 36))⟩, ⟨(some 38), (some (37, false)), (.mv (.t 9))⟩, ⟨(some 39), (some (37, false)), (.mv (.t 6))⟩, ⟨(some 40), (some (37, false)), (.bool2 true (.t 38) (.t 39))⟩, ⟨(some 41), none, (.pick (.t 37) (.c (.bool true)) (.t 40))⟩]) (.cond (.t 41) (.seq (.reg [⟨(some 4), none, (.mv (.c (.bool false)))⟩]) .ret) .skip)) (.seq (.seq (.reg [⟨(some 42), none, (.mv (.t 7))⟩, ⟨(some 43), none, (.mv (.t 1))⟩, ⟨(some 44), none, (.call 7 [(.t 43)])⟩, ⟨(some 45), none, (.call 10 [(.t 42), (.t 44)])⟩, ⟨(some 46), none, (.un .not (.t 45))⟩]) (.cond (.t 46) (.seq (.reg [⟨(some 4), none, (.mv (.c (.bool false)))⟩]) .ret) .skip)) (.seq (.reg [⟨(some 10), none, (.mv (.c (.int .i64 1)))⟩]) (.seq (.reg [⟨(some 47), none, (.mv (.t 7))⟩, ⟨(some 48), none, (.mv (.t 10))⟩, ⟨(some 49), none, (.call 11 [(.t 47), (.t 48)])⟩, ⟨(some 10), none, (.mv (.t 49))⟩]) (.seq (.seq (.reg [⟨(some 50), none, (.mv (.t 10))⟩, ⟨(some 51), none, (.bin .lss (.t 50) (.c (.int .i64 0)))⟩, ⟨(some 52), none, (.mv (.t 51))⟩, ⟨(some 53), (some (52, false)), (.ld true 2 (.t 8))⟩, ⟨(some 54), (some (52, false)), (.ld true 2 (.t 5))⟩, ⟨(some 55), (some (52, false)), (.call 9 [(.t 53), (.t 54)])⟩, ⟨(some 56), (some (52, false)), (.un .not (.t 55))⟩, ⟨(some 57), none, (.pick (.t 52) (.c (.bool true)) (.t 56))⟩, ⟨(some 58), none, (.mv (.t 57))⟩, ⟨(some 59), (some (58, false)), (.mv (.t 9))⟩, ⟨(some 60), (some (58, false)), (.mv (.t 6))⟩, ⟨(some 61), (some (58, false)), (.bool2 true (.t 59) (.t 60))⟩, ⟨(some 62), none, (.pick (.t 58) (.c (.bool true)) (.t 61))⟩]) (.cond (.t 62) (.seq (.reg [⟨(some 4), none, (.mv (.c (.bool false)))⟩]) .ret) .skip)) (.seq (.reg [⟨(some 11), none, (.mv (.c (.int .i64 1)))⟩]) (.seq (.reg [⟨(some 63), none, (.ld true 2 (.t 8))⟩, ⟨(some 64), none, (.mv (.t 11))⟩, ⟨(some 65), none, (.call 12 [(.t 63), (.t 64)])⟩, ⟨(some 11), none, (.mv (.t 65))⟩]) (.seq (.reg [⟨(some 12), none, (.mv (.c (.int .i64 1)))⟩]) (.seq (.reg [⟨(some 66), none, (.ld true 2 (.t 8))⟩, ⟨(some 67), none, (.mv (.t 12))⟩, ⟨(some 68), none, (.call 13 [(.t 66), (.t 67)])⟩, ⟨(some 12), none, (.mv (.t 68))⟩]) (.seq (.seq (.reg [⟨(some 69), none, (.mv (.t 12))⟩, ⟨(some 70), none, (.bin .lss (.t 69) (.c (.int .i64 0)))⟩]) (.cond (.t 70) (.seq (.reg [⟨(some 4), none, (.mv (.c (.bool false)))⟩]) .ret) .skip)) (.seq (.seq (.reg [⟨(some 71), none, (.mv (.t 12))⟩, ⟨(some 72), none, (.mv (.t 11))⟩, ⟨(some 73), none, (.bin .neq (.t 71) (.t 72))⟩]) (.cond (.t 73) (.seq (.reg [⟨(some 4), none, (.mv (.c (.bool false)))⟩]) .ret) .skip)) (.seq (.reg [⟨(some 75), none, (.mv (.t 0))⟩, ⟨(some 76), none, (.mv (.t 1))⟩, ⟨(some 77), none, (.call 7 [(.t 76)])⟩, ⟨(some 78), none, (.call 8 [(.t 75), (.t 77)])⟩, ⟨(some 74), none, (.mv (.t 78))⟩, ⟨(some 79), none, (.ext (.t 74) 0)⟩, ⟨(some 80), none, (.ext (.t 74) 1)⟩, ⟨(some 13), none, (.alloc [(.int .i64 0), .nilS])⟩, ⟨none, none, (.st 2 (.t 13) (.t 79))⟩, ⟨(some 14), none, (.mv (.t 80))⟩]) (.seq (.seq (.reg [⟨(some 81), none, (.ld true 2 (.t 13))⟩, ⟨(some 82), none, (.ld true 2 (.t 5))⟩, ⟨(some 83), none, (.call 9 [(.t 81), (.t 82)])⟩, ⟨(some 84), none, (.un .not (.t 83))⟩, ⟨(some 85), none, (.mv (.t 84))⟩, ⟨(some 86), (some (85, false)), (.mv (.t 14))⟩, ⟨(some 87), (some (85, false)), (.mv (.t 6))⟩, ⟨(some 88), (some (85, false)), (.bool2 true (.t 86) (.t 87))⟩, ⟨(some 89), none, (.pick (.t 85) (.c (.bool true)) (.t 88))⟩]) (.cond (.t 89) (.seq (.reg [⟨(some 4), none, (.mv (.c (.bool false)))⟩]) .ret) .skip)) (.seq (.reg [⟨(some 12), none, (.mv (.c (.int .i64 1)))⟩]) (.seq (.reg [⟨(some 90), none, (.ld true 2 (.t 8))⟩, ⟨(some 91), none, (.mv (.t 12))⟩, ⟨(some 92), none, (.call 13 [(.t 90), (.t 91)])⟩, ⟨(some 12), none, (.mv (.t 92))⟩]) (.seq (.seq (.reg [⟨(some 93), none, (.mv (.t 12))⟩, ⟨(some 94), none, (.bin .lss (.t 93) (.c (.int .i64 0)))⟩]) (.cond (.t 94) (.seq (.reg [⟨(some 4), none, (.mv (.c (.bool false)))⟩]) .ret) .skip)) (.seq (.seq (.reg [⟨(some 95), none, (.mv (.t 12))⟩, ⟨(some 96), none, (.mv (.t 11))⟩, ⟨(some 97), none, (.bin .neq (.t 95) (.t 96))⟩]) (.cond (.t 97) (.seq (.reg [⟨(some 4), none, (.mv (.c (.bool false)))⟩]) .ret) .skip)) (.seq (.reg [⟨(some 4), none, (.mv (.c (.bool true)))⟩]) .ret)))))))))))))))))))))))
def ro3 : List AOp := [(.mv (.t 4))]
theorem fun3 : Fun Try.prog 3 98 ac3 ro3 := ⟨Try.f3, _, Try.func3, by kernel_rfl, rfl, rfl, by kernel_rfl, by kernel_rfl, by decide⟩
def ac6 : AC := (.seq (.reg [⟨(some 4), none, (.alloc [(.int .i64 0), .nilS])⟩, ⟨(some 5), none, (.mv (.c (.bool false)))⟩]) (.seq (.seq (.reg [⟨(some 7), none, (.mv (.t 0))⟩, ⟨(some 8), none, (.call 27 [(.t 7), (.c (.int .i64 (-20000))), (.c (.int .i64 2100))])⟩, ⟨(some 9), none, (.un .not (.t 8))⟩, ⟨(some 10), none, (.mv (.t 9))⟩, ⟨(some 11), (some (10, false)), (.mv (.t 1))⟩, ⟨(some 12), (some (10, false)), (.len (.t 11))⟩, ⟨(some 13), (some (10, false)), (.bin .gtr (.t 12) (.c (.int .i64 200)))⟩, ⟨(some 14), none, (.pick (.t 10) (.c (.bool true)) (.t 13))⟩]) (.cond (.t 14) (.seq (.reg [⟨(some 15), none, (.build [(.int .i64 0), .nilS] [])⟩, ⟨none, none, (.st 2 (.t 4) (.t 15))⟩, ⟨(some 5), none, (.mv (.c (.bool false)))⟩]) .ret) .skip)) (.seq (.seq (.reg [⟨(some 6), none, (.mv (.c (.int .i64 0)))⟩]) (.blk 0 (.loop (.seq (.seq (.reg [⟨(some 16), none, (.mv (.t 6))⟩, ⟨(some 17), none, (.mv (.t 1))⟩, ⟨(some 18), none, (.len (.t 17))⟩, ⟨(some 19), none, (.bin .lss (.t 16) (.t 18))⟩]) (.cond (.t 19) .skip (.exit 0))) (.seq (.blk 1 (.seq (.reg [⟨(some 22), none, (.mv (.t 1))⟩, ⟨(some 23), none, (.mv (.t 6))⟩, ⟨(some 24), none, (.ia 1 (.t 22) (.t 23))⟩, ⟨(some 25), none, (.ld false 1 (.t 24))⟩, ⟨(some 26), none, (.call 27 [(.t 25), (.c (.int .i64 0)), (.c (.int .i64 1000000000000))])⟩, ⟨(some 27), none, (.un .not (.t 26))⟩]) (.cond (.t 27) (.seq (.reg [⟨(some 28), none, (.build [(.int .i64 0), .nilS] [])⟩, ⟨none, none, (.st 2 (.t 4) (.t 28))⟩, ⟨(some 5), none, (.mv (.c (.bool false)))⟩]) .ret) .skip))) (.reg [⟨(some 20), none, (.mv (.t 6))⟩, ⟨(some 21), none, (.bin .add (.t 20) (.c (.int .i64 1)))⟩, ⟨(some 6), none, (.mv (.t 21))⟩])))))) (.seq (.reg [⟨(some 29), none, (.mv (.t 0))⟩, ⟨(some 30), none, (.mv (.t 1))⟩, ⟨(some 31), none, (.call 28 [(.t 29), (.t 30)])⟩, ⟨(some 32), none, (.ext (.t 31) 0)⟩, ⟨(some 33), none, (.ext (.t 31) 1)⟩, ⟨none, none, (.st 2 (.t 4) (.t 32))⟩, ⟨(some 5), none, (.mv (.t 33))⟩]) .ret))))
def ro6 : List AOp := [(.ld true 2 (.t 4)), (.mv (.t 5))]
theorem fun6 : Fun Try.prog 6 34 ac6 ro6 := ⟨Try.f6, _, Try.func6, by kernel_rfl, rfl, rfl, by kernel_rfl, by kernel_rfl, by decide⟩
def ac8 : AC := (.seq (.reg [⟨(some 4), none, (.alloc [(.int .i64 0), .nilS])⟩, ⟨(some 5), none, (.mv (.c (.bool false)))⟩]) (.seq (.seq (.reg [⟨(some 6), none, (.mv (.t 0))⟩, ⟨(some 7), none, (.call 29 [(.t 6)])⟩, ⟨(some 8), none, (.un .not (.t 7))⟩, ⟨(some 9), none, (.mv (.t 8))⟩, ⟨(some 10), (some (9, false)), (.mv (.t 1))⟩, ⟨(some 11), (some (9, false)), (.len (.t 10))⟩, ⟨(some 12), (some (9, false)), (.bin .gtr (.t 11) (.c (.int .i64 200)))⟩, ⟨(some 13), none, (.pick (.t 9) (.c (.bool true)) (.t 12))⟩, ⟨(some 14), none, (.mv (.t 13))⟩, ⟨(some 15), (some (14, false)), (.mv (.t 1))⟩, ⟨(some 16), (some (14, false)), (.call 30 [(.t 15), (.c (.fn 31 []))])⟩, ⟨(some 17), none, (.pick (.t 14) (.c (.bool true)) (.t 16))⟩]) (.cond (.t 17) (.seq (.reg [⟨(some 18), none, (.build [(.int .i64 0), .nilS] [])⟩, ⟨none, none, (.st 2 (.t 4) (.t 18))⟩, ⟨(some 5), none, (.mv (.c (.bool false)))⟩]) .ret) .skip)) (.seq (.reg [⟨(some 19), none, (.mv (.t 0))⟩, ⟨(some 20), none, (.mv (.t 1))⟩, ⟨(some 21), none, (.call 33 [(.t 19), (.t 20)])⟩, ⟨(some 22), none, (.ext (.t 21) 0)⟩, ⟨(some 23), none, (.ext (.t 21) 1)⟩, ⟨none, none, (.st 2 (.t 4) (.t 22))⟩, ⟨(some 5), none, (.mv (.t 23))⟩]) .ret)))
def ro8 : List AOp := [(.ld true 2 (.t 4)), (.mv (.t 5))]
theorem fun8 : Fun Try.prog 8 24 ac8 ro8 := ⟨Try.f8, _, Try.func8, by kernel_rfl, rfl, rfl, by kernel_rfl, by kernel_rfl, by decide⟩
def ac31 : AC := (.seq (.reg [⟨(some 2), none, (.mv (.c (.bool false)))⟩]) (.seq (.reg [⟨(some 3), none, (.mv (.t 0))⟩, ⟨(some 4), none, (.call 32 [(.t 3), (.c (.int .i64 0)), (.c (.int .i64 1000000000000))])⟩, ⟨(some 5), none, (.un .not (.t 4))⟩, ⟨(some 2), none, (.mv (.t 5))⟩]) .ret))
def ro31 : List AOp := [(.mv (.t 2))]
theorem fun31 : Fun Try.prog 31 6 ac31 ro31 := ⟨Try.f31, _, Try.func31, by kernel_rfl, rfl, rfl, by kernel_rfl, by kernel_rfl, by decide⟩

/-- What a function gives that makes a distribution. -/
def dYes (d : Ds) : AV := .tup [.agg [.int .i64 d.f, .sl 0 1 0 d.ws.length], .bool true]
def dNo : AV := .tup [.agg [.int .i64 0, .nilS], .bool false]
theorem con28_yes (nn : Bool) (first : Int) (ws : List Int) (hlen : ws.length ≤ 100000) {B : Int} (hb : bnd ws B) (hB : B ≤ 9000000000000000000) (hf1 : -1000000 ≤ first) (hf2 : first ≤ 1000000) (h : mkOK first ws) : Con Try.prog 28 true [.int .i64 first, .vw nn (ws.map iRow)] (dYes (mkO first ws)) [(mkO first ws).ws.map iRow] :=
  con28_all nn first ws hlen hb hB hf1 hf2 _ [2] _ rfl (plain_map iRow_plain _) ⟨fun _ => ⟨rfl, rfl, rfl⟩, fun hn => absurd h hn⟩
theorem con28_no (nn : Bool) (first : Int) (ws : List Int) (hlen : ws.length ≤ 100000) {B : Int} (hb : bnd ws B) (hB : B ≤ 9000000000000000000) (hf1 : -1000000 ≤ first) (hf2 : first ≤ 1000000) (h : ¬ mkOK first ws) : Con Try.prog 28 true [.int .i64 first, .vw nn (ws.map iRow)] dNo [] :=
  con28_all nn first ws hlen hb hB hf1 hf2 _ [] _ rfl plain_nil ⟨fun hy => absurd hy h, fun _ => ⟨rfl, rfl, rfl⟩⟩
theorem con33_yes (nn : Bool) (first : Int) (ws : List Int) (hlen : ws.length ≤ 100000) {B : Int} (hb : bnd ws B) (hB : B ≤ 9000000000000000000) (hf1 : -1000000 ≤ first) (hf2 : first ≤ 1000000) (h : mkOK first ws) : Con Try.prog 33 true [.int .i64 first, .vw nn (ws.map iRow)] (dYes (mkO first ws)) [(mkO first ws).ws.map iRow] :=
  con33_all nn first ws hlen hb hB hf1 hf2 _ [2] _ rfl (plain_map iRow_plain _) ⟨fun _ => ⟨rfl, rfl, rfl⟩, fun hn => absurd h hn⟩
theorem con33_no (nn : Bool) (first : Int) (ws : List Int) (hlen : ws.length ≤ 100000) {B : Int} (hb : bnd ws B) (hB : B ≤ 9000000000000000000) (hf1 : -1000000 ≤ first) (hf2 : first ≤ 1000000) (h : ¬ mkOK first ws) : Con Try.prog 33 true [.int .i64 first, .vw nn (ws.map iRow)] dNo [] :=
  con33_all nn first ws hlen hb hB hf1 hf2 _ [] _ rfl plain_nil ⟨fun hy => absurd hy h, fun _ => ⟨rfl, rfl, rfl⟩⟩

def okT (w : Int) : Prop := 0 ≤ w ∧ w ≤ 1000000000000
instance (w : Int) : Decidable (okT w) := by unfold okT; infer_instance
def mdIn (first : Int) (ws : List Int) : Prop := ((-20000 ≤ first ∧ first ≤ 2100) ∧ ws.length ≤ 200) ∧ ∀ j, j < ws.length → okT (ws.getD j default)
theorem mdIn.bnd {first : Int} {ws : List Int} (h : mdIn first ws) : bnd ws 1000000000000 := h.2
def mdOK (first : Int) (ws : List Int) : Prop := mdIn first ws ∧ mkOK first ws
theorem con6_all (nn : Bool) (first : Int) (ws : List Int) (hlen : ws.length ≤ 1048576) (v : AV) (rs : List Nat) (objs : List Ab.Rows) (hv : v.nvf = true) (hp : PlainObjs objs)
    (hend : (mdOK first ws → v = dYes (mkO first ws) ∧ rs = [1] ∧ objs = [(mkO first ws).ws.map iRow]) ∧ (¬ mdOK first ws → v = dNo ∧ rs = [] ∧ objs = [])) :
    Con Try.prog 6 true [.int .i64 first, .vw nn (ws.map iRow)] v objs := by
  suffices key : Con Try.prog 6 v.nvf [.int .i64 first, .vw nn (ws.map iRow)] v objs by rwa [hv] at key
  refine con_of_wp mixed fun6 (by simp) rs hp ?_
  unfold ac6 ro6
  simp only [zipT]
  repeat' (first | refine wG_call (con27 _ _ _) rfl rfl ?_ | (first
    | refine wC_a rfl ?_
    | refine q_s rfl ?_
    | refine q_b rfl ?_
    | refine wG_nil ?_
    | refine wG_g rfl ?_
    | refine wG_pure (o_len_vwm rfl) ?_
    | refine wG_pure (o_not_d rfl) ?_
    | refine wG_p rfl (by first | exact rfl | omega) ?_
    | refine wG_pure (o_not rfl) ?_
    | refine wG_pure (e_ia_vw0 rfl rfl (by omega) rfl) ?_
    | refine wG_pure (e_ia_vwp rfl rfl (by omega) rfl) ?_
    | refine wG_pure (e_ia_vwm rfl rfl (by omega) (by omega) rfl) ?_
    | refine wG_pure (e_ia_vwi rfl rfl (by omega) rfl) ?_
    | refine wG_pure (e_ia_vwn rfl rfl (by omega) (by omega) rfl) ?_
    | refine wG_n rfl rfl ?_
    | refine wG_u rfl rfl ?_
    | refine wG_new (o_mks rfl rfl (by omega) (by decide)) ?_) | (refine wG_gd rfl (fun hgt => ?_) (fun hgf => ?_) <;> (first | simp only [eq_true hgt, decide_true] | simp only [eq_false hgf, decide_false])) | refine wC_cond_d rfl (fun hg => ?_) (fun hg => ?_))
  any_goals (obtain ⟨rfl, rfl, rfl⟩ := hend.2 (fun h => by have h1 := h.1.1; first | exact absurd h1.1 ‹_› | omega)
             exact ret_d0 (.inr rfl) rfl (retV_ldt rfl rfl rfl rfl rfl) (retV_mv rfl))
  have hy : -20000 ≤ first ∧ first ≤ 2100 := Decidable.not_not.1 ‹_›
  have hl : ws.length ≤ 200 := by omega
  refine wC_loop Nat (fun i => ⟨[(0, .int .i64 first), (1, .vw nn (ws.map iRow)), (4, .pt 0 0 0), (6, .int .i64 (i : Int))], [(0, some [[.int .i64 0, .nilS]])], 1⟩) (fun i => i ≤ ws.length ∧ ∀ j, j < i → okT (ws.getD j default)) (fun i => ws.length - i) 0 ⟨Nat.zero_le _, fun j hj => absurd hj (Nat.not_lt_zero _)⟩ ?_ (fun _ _ => Nat.zero_le _) ?_
  · simp [LeP, leT, leH, lk, AV.ltr, ltrL, Ab.hg, upd, -List.getD_eq_getElem?_getD, -Int.default_eq_zero]
  rintro i ⟨hi, hok⟩
  repeat (first
    | refine wC_a rfl ?_
    | refine q_s rfl ?_
    | refine q_b rfl ?_
    | refine wG_nil ?_
    | refine wG_g rfl ?_
    | refine wG_pure (o_len_vwm rfl) ?_
    | refine wG_pure (o_not_d rfl) ?_
    | refine wG_p rfl (by first | exact rfl | omega) ?_
    | refine wG_pure (o_not rfl) ?_
    | refine wG_pure (e_ia_vw0 rfl rfl (by omega) rfl) ?_
    | refine wG_pure (e_ia_vwp rfl rfl (by omega) rfl) ?_
    | refine wG_pure (e_ia_vwm rfl rfl (by omega) (by omega) rfl) ?_
    | refine wG_pure (e_ia_vwi rfl rfl (by omega) rfl) ?_
    | refine wG_pure (e_ia_vwn rfl rfl (by omega) (by omega) rfl) ?_
    | refine wG_n rfl rfl ?_
    | refine wG_u rfl rfl ?_
    | refine wG_new (o_mks rfl rfl (by omega) (by decide)) ?_)
  refine wC_cond_d rfl (fun h2 => ?_) (fun h2 => ?_)
  · have hi2 : i < ws.length := by omega
    repeat' (first | refine wG_call (con27 _ _ _) rfl rfl ?_ | (first
    | refine wC_a rfl ?_
    | refine q_s rfl ?_
    | refine q_b rfl ?_
    | refine wG_nil ?_
    | refine wG_g rfl ?_
    | refine wG_pure (o_len_vwm rfl) ?_
    | refine wG_pure (o_not_d rfl) ?_
    | refine wG_p rfl (by first | exact rfl | omega) ?_
    | refine wG_pure (o_not rfl) ?_
    | refine wG_pure (e_ia_vw0 rfl rfl (by omega) rfl) ?_
    | refine wG_pure (e_ia_vwp rfl rfl (by omega) rfl) ?_
    | refine wG_pure (e_ia_vwm rfl rfl (by omega) (by omega) rfl) ?_
    | refine wG_pure (e_ia_vwi rfl rfl (by omega) rfl) ?_
    | refine wG_pure (e_ia_vwn rfl rfl (by omega) (by omega) rfl) ?_
    | refine wG_n rfl rfl ?_
    | refine wG_u rfl rfl ?_
    | refine wG_new (o_mks rfl rfl (by omega) (by decide)) ?_) | (refine wG_gd rfl (fun hgt => ?_) (fun hgf => ?_) <;> (first | simp only [eq_true hgt, decide_true] | simp only [eq_false hgf, decide_false])) | refine wC_cond_d rfl (fun hg => ?_) (fun hg => ?_))
    · obtain ⟨rfl, rfl, rfl⟩ := hend.2 (fun h => ‹¬ (0 ≤ ws.getD i default ∧ ws.getD i default ≤ 1000000000000)› (h.1.2 i hi2))
      exact ret_d0 (.inr rfl) rfl (retV_ldt rfl rfl rfl rfl rfl) (retV_mv rfl)
    · refine ⟨i + 1, ⟨by omega, fun j hj => ?_⟩, by omega, by simp [LeP, leT, leH, lk, AV.ltr, ltrL, Ab.hg, upd, -List.getD_eq_getElem?_getD, -Int.default_eq_zero]⟩
      rcases Nat.lt_or_ge j i with hji | hji
      · exact hok j hji
      · obtain rfl : j = i := by omega
        exact Decidable.not_not.1 ‹_›
  · have hi3 : i = ws.length := by omega
    subst hi3
    have hin : mdIn first ws := ⟨⟨hy, hl⟩, hok⟩
    by_cases hm : mkOK first ws
    · obtain ⟨rfl, rfl, rfl⟩ := hend.1 ⟨hin, hm⟩
      have c := con28_yes nn first ws (by omega) hin.bnd (by decide) (by omega) (by omega) hm
      unfold dYes at *
      repeat (first | refine wG_call1 c rfl rfl ?_ | (first
    | refine wC_a rfl ?_
    | refine q_s rfl ?_
    | refine q_b rfl ?_
    | refine wG_nil ?_
    | refine wG_g rfl ?_
    | refine wG_pure (o_len_vwm rfl) ?_
    | refine wG_pure (o_not_d rfl) ?_
    | refine wG_p rfl (by first | exact rfl | omega) ?_
    | refine wG_pure (o_not rfl) ?_
    | refine wG_pure (e_ia_vw0 rfl rfl (by omega) rfl) ?_
    | refine wG_pure (e_ia_vwp rfl rfl (by omega) rfl) ?_
    | refine wG_pure (e_ia_vwm rfl rfl (by omega) (by omega) rfl) ?_
    | refine wG_pure (e_ia_vwi rfl rfl (by omega) rfl) ?_
    | refine wG_pure (e_ia_vwn rfl rfl (by omega) (by omega) rfl) ?_
    | refine wG_n rfl rfl ?_
    | refine wG_u rfl rfl ?_
    | refine wG_new (o_mks rfl rfl (by omega) (by decide)) ?_))
      exact ret_db (.inr rfl) rfl (retV_ldt rfl rfl rfl rfl rfl) (retV_mv rfl) rfl
    · obtain ⟨rfl, rfl, rfl⟩ := hend.2 (fun h => hm h.2)
      have c := con28_no nn first ws (by omega) hin.bnd (by decide) (by omega) (by omega) hm
      unfold dNo at *
      repeat (first | refine wG_call c rfl rfl ?_ | (first
    | refine wC_a rfl ?_
    | refine q_s rfl ?_
    | refine q_b rfl ?_
    | refine wG_nil ?_
    | refine wG_g rfl ?_
    | refine wG_pure (o_len_vwm rfl) ?_
    | refine wG_pure (o_not_d rfl) ?_
    | refine wG_p rfl (by first | exact rfl | omega) ?_
    | refine wG_pure (o_not rfl) ?_
    | refine wG_pure (e_ia_vw0 rfl rfl (by omega) rfl) ?_
    | refine wG_pure (e_ia_vwp rfl rfl (by omega) rfl) ?_
    | refine wG_pure (e_ia_vwm rfl rfl (by omega) (by omega) rfl) ?_
    | refine wG_pure (e_ia_vwi rfl rfl (by omega) rfl) ?_
    | refine wG_pure (e_ia_vwn rfl rfl (by omega) (by omega) rfl) ?_
    | refine wG_n rfl rfl ?_
    | refine wG_u rfl rfl ?_
    | refine wG_new (o_mks rfl rfl (by omega) (by decide)) ?_))
      exact ret_d0 (.inr rfl) rfl (retV_ldt rfl rfl rfl rfl rfl) (retV_mv rfl)

theorem con31 (w : Int) : Con Try.prog 31 true [.int .i64 w] (.bool (!decide (okT w))) [] := by
  refine con_of_wp mixed fun31 (by simp) [] plain_nil ?_
  unfold ac31 ro31
  simp only [zipT]
  repeat (first | refine wG_call (con32 _ _ _) rfl rfl ?_ | (first
    | refine wC_a rfl ?_
    | refine q_s rfl ?_
    | refine q_b rfl ?_
    | refine wG_nil ?_
    | refine wG_g rfl ?_
    | refine wG_pure (o_len_vwm rfl) ?_
    | refine wG_pure (o_not_d rfl) ?_
    | refine wG_p rfl (by first | exact rfl | omega) ?_
    | refine wG_pure (o_not rfl) ?_
    | refine wG_pure (e_ia_vw0 rfl rfl (by omega) rfl) ?_
    | refine wG_pure (e_ia_vwp rfl rfl (by omega) rfl) ?_
    | refine wG_pure (e_ia_vwm rfl rfl (by omega) (by omega) rfl) ?_
    | refine wG_pure (e_ia_vwi rfl rfl (by omega) rfl) ?_
    | refine wG_pure (e_ia_vwn rfl rfl (by omega) (by omega) rfl) ?_
    | refine wG_n rfl rfl ?_
    | refine wG_u rfl rfl ?_
    | refine wG_new (o_mks rfl rfl (by omega) (by decide)) ?_))
  refine ret_boolE (.inr rfl) ⟨_, retV_mv rfl, ?_⟩
  unfold okT
  by_cases h : 0 ≤ w ∧ w ≤ 1000000000000 <;> simp [h]
theorem any_not (p : Int → Prop) [DecidablePred p] (ws : List Int) : ws.any (fun w => !decide (p w)) = true ↔ ¬ ∀ j, j < ws.length → p (ws.getD j default) := by
  rw [List.any_eq_true]
  constructor
  · rintro ⟨x, hx, hp⟩ hall
    obtain ⟨j, hj, rfl⟩ := List.getElem_of_mem hx
    have := hall j hj
    simp [List.getD_eq_getElem?_getD, List.getElem?_eq_getElem hj] at this
    simp [this] at hp
  · intro h
    refine Classical.byContradiction fun hn => h fun j hj => ?_
    refine Classical.byContradiction fun hk => hn ⟨_, getD_mem' ws hj, by show (!decide (p (ws.getD j default))) = true; rw [decide_eq_false hk]; rfl⟩
theorem con8_all (nn : Bool) (first : Int) (ws : List Int) (hlen : ws.length ≤ 1048576) (v : AV) (rs : List Nat) (objs : List Ab.Rows) (hv : v.nvf = true) (hp : PlainObjs objs)
    (hend : (mdOK first ws → v = dYes (mkO first ws) ∧ rs = [1] ∧ objs = [(mkO first ws).ws.map iRow]) ∧ (¬ mdOK first ws → v = dNo ∧ rs = [] ∧ objs = [])) :
    Con Try.prog 8 true [.int .i64 first, .vw nn (ws.map iRow)] v objs := by
  suffices key : Con Try.prog 8 v.nvf [.int .i64 first, .vw nn (ws.map iRow)] v objs by rwa [hv] at key
  refine con_of_wp mixed fun8 (by simp) rs hp ?_
  unfold ac8 ro8
  simp only [zipT]
  have cany := con30 nn ws hlen (caps := []) (fun w => !decide (okT w)) con31 (fun _ _ => rfl) rfl
  by_cases hin : mdIn first ws
  · have h1 := hin.1
    have ha : ws.any (fun w => !decide (okT w)) = false := by
      rw [← Bool.not_eq_true]
      exact fun h => (any_not okT ws).1 h hin.2
    rw [ha] at cany
    by_cases hm : mkOK first ws
    · obtain ⟨rfl, rfl, rfl⟩ := hend.1 ⟨hin, hm⟩
      have c := con33_yes nn first ws (by omega) hin.bnd (by decide) (by omega) (by omega) hm
      unfold dYes at *
      repeat' (first | refine wG_call (con29 _) rfl rfl ?_ | refine wG_call cany rfl rfl ?_ | refine wG_call1 c rfl rfl ?_ | (first
    | refine wC_a rfl ?_
    | refine q_s rfl ?_
    | refine q_b rfl ?_
    | refine wG_nil ?_
    | refine wG_g rfl ?_
    | refine wG_pure (o_len_vwm rfl) ?_
    | refine wG_pure (o_not_d rfl) ?_
    | refine wG_p rfl (by first | exact rfl | omega) ?_
    | refine wG_pure (o_not rfl) ?_
    | refine wG_pure (e_ia_vw0 rfl rfl (by omega) rfl) ?_
    | refine wG_pure (e_ia_vwp rfl rfl (by omega) rfl) ?_
    | refine wG_pure (e_ia_vwm rfl rfl (by omega) (by omega) rfl) ?_
    | refine wG_pure (e_ia_vwi rfl rfl (by omega) rfl) ?_
    | refine wG_pure (e_ia_vwn rfl rfl (by omega) (by omega) rfl) ?_
    | refine wG_n rfl rfl ?_
    | refine wG_u rfl rfl ?_
    | refine wG_new (o_mks rfl rfl (by omega) (by decide)) ?_) | (refine wG_gd rfl (fun hgt => ?_) (fun hgf => ?_) <;> (first | simp only [eq_true hgt, decide_true] | simp only [eq_false hgf, decide_false])) | refine wC_cond_d rfl (fun hg => ?_) (fun hg => ?_))
      any_goals (exfalso; omega)
      exact ret_db (.inr rfl) rfl (retV_ldt rfl rfl rfl rfl rfl) (retV_mv rfl) rfl
    · obtain ⟨rfl, rfl, rfl⟩ := hend.2 (fun h => hm h.2)
      have c := con33_no nn first ws (by omega) hin.bnd (by decide) (by omega) (by omega) hm
      unfold dNo at *
      repeat' (first | refine wG_call (con29 _) rfl rfl ?_ | refine wG_call cany rfl rfl ?_ | refine wG_call c rfl rfl ?_ | (first
    | refine wC_a rfl ?_
    | refine q_s rfl ?_
    | refine q_b rfl ?_
    | refine wG_nil ?_
    | refine wG_g rfl ?_
    | refine wG_pure (o_len_vwm rfl) ?_
    | refine wG_pure (o_not_d rfl) ?_
    | refine wG_p rfl (by first | exact rfl | omega) ?_
    | refine wG_pure (o_not rfl) ?_
    | refine wG_pure (e_ia_vw0 rfl rfl (by omega) rfl) ?_
    | refine wG_pure (e_ia_vwp rfl rfl (by omega) rfl) ?_
    | refine wG_pure (e_ia_vwm rfl rfl (by omega) (by omega) rfl) ?_
    | refine wG_pure (e_ia_vwi rfl rfl (by omega) rfl) ?_
    | refine wG_pure (e_ia_vwn rfl rfl (by omega) (by omega) rfl) ?_
    | refine wG_n rfl rfl ?_
    | refine wG_u rfl rfl ?_
    | refine wG_new (o_mks rfl rfl (by omega) (by decide)) ?_) | (refine wG_gd rfl (fun hgt => ?_) (fun hgf => ?_) <;> (first | simp only [eq_true hgt, decide_true] | simp only [eq_false hgf, decide_false])) | refine wC_cond_d rfl (fun hg => ?_) (fun hg => ?_))
      any_goals (exfalso; omega)
      exact ret_d0 (.inr rfl) rfl (retV_ldt rfl rfl rfl rfl rfl) (retV_mv rfl)
  · obtain ⟨rfl, rfl, rfl⟩ := hend.2 (fun h => hin h.1)
    by_cases h0 : (-20000 ≤ first ∧ first ≤ 2100) ∧ ws.length ≤ 200
    · have ha : ws.any (fun w => !decide (okT w)) = true := (any_not okT ws).2 (fun h => hin ⟨h0, h⟩)
      rw [ha] at cany
      unfold dNo at *
      repeat' (first | refine wG_call (con29 _) rfl rfl ?_ | refine wG_call cany rfl rfl ?_ | (first
    | refine wC_a rfl ?_
    | refine q_s rfl ?_
    | refine q_b rfl ?_
    | refine wG_nil ?_
    | refine wG_g rfl ?_
    | refine wG_pure (o_len_vwm rfl) ?_
    | refine wG_pure (o_not_d rfl) ?_
    | refine wG_p rfl (by first | exact rfl | omega) ?_
    | refine wG_pure (o_not rfl) ?_
    | refine wG_pure (e_ia_vw0 rfl rfl (by omega) rfl) ?_
    | refine wG_pure (e_ia_vwp rfl rfl (by omega) rfl) ?_
    | refine wG_pure (e_ia_vwm rfl rfl (by omega) (by omega) rfl) ?_
    | refine wG_pure (e_ia_vwi rfl rfl (by omega) rfl) ?_
    | refine wG_pure (e_ia_vwn rfl rfl (by omega) (by omega) rfl) ?_
    | refine wG_n rfl rfl ?_
    | refine wG_u rfl rfl ?_
    | refine wG_new (o_mks rfl rfl (by omega) (by decide)) ?_) | (refine wG_gd rfl (fun hgt => ?_) (fun hgf => ?_) <;> (first | simp only [eq_true hgt, decide_true] | simp only [eq_false hgf, decide_false])) | refine wC_cond_d rfl (fun hg => ?_) (fun hg => ?_))
      any_goals (exfalso; omega)
      all_goals exact ret_d0 (.inr rfl) rfl (retV_ldt rfl rfl rfl rfl rfl) (retV_mv rfl)
    · unfold dNo at *
      repeat' (first | refine wG_call (con29 _) rfl rfl ?_ | (first
    | refine wC_a rfl ?_
    | refine q_s rfl ?_
    | refine q_b rfl ?_
    | refine wG_nil ?_
    | refine wG_g rfl ?_
    | refine wG_pure (o_len_vwm rfl) ?_
    | refine wG_pure (o_not_d rfl) ?_
    | refine wG_p rfl (by first | exact rfl | omega) ?_
    | refine wG_pure (o_not rfl) ?_
    | refine wG_pure (e_ia_vw0 rfl rfl (by omega) rfl) ?_
    | refine wG_pure (e_ia_vwp rfl rfl (by omega) rfl) ?_
    | refine wG_pure (e_ia_vwm rfl rfl (by omega) (by omega) rfl) ?_
    | refine wG_pure (e_ia_vwi rfl rfl (by omega) rfl) ?_
    | refine wG_pure (e_ia_vwn rfl rfl (by omega) (by omega) rfl) ?_
    | refine wG_n rfl rfl ?_
    | refine wG_u rfl rfl ?_
    | refine wG_new (o_mks rfl rfl (by omega) (by decide)) ?_) | (refine wG_gd rfl (fun hgt => ?_) (fun hgf => ?_) <;> (first | simp only [eq_true hgt, decide_true] | simp only [eq_false hgf, decide_false])) | refine wC_cond_d rfl (fun hg => ?_) (fun hg => ?_))
      any_goals (exfalso; omega)
      all_goals exact ret_d0 (.inr rfl) rfl (retV_ldt rfl rfl rfl rfl rfl) (retV_mv rfl)
theorem con6_yes (nn : Bool) (first : Int) (ws : List Int) (hlen : ws.length ≤ 1048576) (h : mdOK first ws) : Con Try.prog 6 true [.int .i64 first, .vw nn (ws.map iRow)] (dYes (mkO first ws)) [(mkO first ws).ws.map iRow] :=
  con6_all nn first ws hlen _ [1] _ rfl (plain_map iRow_plain _) ⟨fun _ => ⟨rfl, rfl, rfl⟩, fun hn => absurd h hn⟩
theorem con6_no (nn : Bool) (first : Int) (ws : List Int) (hlen : ws.length ≤ 1048576) (h : ¬ mdOK first ws) : Con Try.prog 6 true [.int .i64 first, .vw nn (ws.map iRow)] dNo [] :=
  con6_all nn first ws hlen _ [] _ rfl plain_nil ⟨fun hy => absurd hy h, fun _ => ⟨rfl, rfl, rfl⟩⟩
theorem con8_yes (nn : Bool) (first : Int) (ws : List Int) (hlen : ws.length ≤ 1048576) (h : mdOK first ws) : Con Try.prog 8 true [.int .i64 first, .vw nn (ws.map iRow)] (dYes (mkO first ws)) [(mkO first ws).ws.map iRow] :=
  con8_all nn first ws hlen _ [1] _ rfl (plain_map iRow_plain _) ⟨fun _ => ⟨rfl, rfl, rfl⟩, fun hn => absurd h hn⟩
theorem con8_no (nn : Bool) (first : Int) (ws : List Int) (hlen : ws.length ≤ 1048576) (h : ¬ mdOK first ws) : Con Try.prog 8 true [.int .i64 first, .vw nn (ws.map iRow)] dNo [] :=
  con8_all nn first ws hlen _ [] _ rfl plain_nil ⟨fun hy => absurd hy h, fun _ => ⟨rfl, rfl, rfl⟩⟩
theorem con12_nil (a : Int) (k : Int) : Con Try.prog 12 true [.agg [.int .i64 a, .nilS], .int .i64 k] (.int .i64 k) [] := by
  refine con_of_wp mixed fun12 (by simp) [] plain_nil ?_
  unfold ac12 ro12
  simp only [zipT]
  have c := con11_nil k
  repeat (first | refine wG_call c rfl rfl ?_ | (first
    | refine wC_a rfl ?_
    | refine q_s rfl ?_
    | refine q_b rfl ?_
    | refine wG_nil ?_
    | refine wG_g rfl ?_
    | refine wG_pure (o_len_vwm rfl) ?_
    | refine wG_pure (o_not_d rfl) ?_
    | refine wG_p rfl (by first | exact rfl | omega) ?_
    | refine wG_pure (o_not rfl) ?_
    | refine wG_pure (e_ia_vw0 rfl rfl (by omega) rfl) ?_
    | refine wG_pure (e_ia_vwp rfl rfl (by omega) rfl) ?_
    | refine wG_pure (e_ia_vwm rfl rfl (by omega) (by omega) rfl) ?_
    | refine wG_pure (e_ia_vwi rfl rfl (by omega) rfl) ?_
    | refine wG_pure (e_ia_vwn rfl rfl (by omega) (by omega) rfl) ?_
    | refine wG_n rfl rfl ?_
    | refine wG_u rfl rfl ?_
    | refine wG_new (o_mks rfl rfl (by omega) (by decide)) ?_))
  exact ret_intE (.inr rfl) ⟨_, retV_mv rfl, rfl⟩
/-- The calls of a law whose result is a distribution. -/
theorem eqD_no : Con Try.prog 9 true [.agg [.int .i64 0, .nilS], .agg [.int .i64 0, .nilS]] (.bool true) [] :=
  con_dnil (con_dnil2 (con9_same false false ⟨0, []⟩ (by decide)))
theorem heldD_no : Con Try.prog 13 true [.agg [.int .i64 0, .nilS], .int .i64 1] (.int .i64 1) [] :=
  con_dnil (con13 false 0 0 1 (by decide) (by decide) (by decide))
theorem GoodD.len {d : Ds} (h : GoodD d) : d.ws.length ≤ 60 := h.1.2
end Go.Proofs.Ytkkcplcgafndgaa.Dst
