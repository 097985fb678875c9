/- Mixed distributions: both sides. -/
import Derived.Test.YtdljklicegcbpaaMixA
import Derived.Test.YtdljklicegcbpaaCmdA
import Derived.Test.YtdljklicegcbpaaAb1
namespace Go.Proofs.Ytdljklicegcbpaa.Dst
open Go Go.Proofs.Ytdljklicegcbpaa.Ab Go.Proofs.Ytdljklicegcbpaa.Il
attribute [local irreducible] wpO wpC wpDr wpQ wpG wpE stepA seqQ blkQ Ret ev
set_option maxRecDepth 10000
set_option maxHeartbeats 8000000
set_option linter.unusedSimpArgs false
set_option linter.unusedVariables false
def ac44 : AC := (.seq (.reg [⟨(some 4), none, (.box 2 true (.t 0))⟩, ⟨(some 5), none, (.box 2 true (.t 1))⟩, ⟨(some 8), none, (.alloc [(.int .i64 0), .nilS])⟩, ⟨(some 9), none, (.mv (.c (.bool false)))⟩]) (.seq (.seq (.reg [⟨(some 16), none, (.ld true 2 (.t 4))⟩, ⟨(some 17), none, (.call 60 [(.t 16)])⟩, ⟨(some 18), none, (.un .not (.t 17))⟩, ⟨(some 19), none, (.mv (.t 18))⟩, ⟨(some 20), (some (19, false)), (.ld true 2 (.t 5))⟩, ⟨(some 21), (some (19, false)), (.call 60 [(.t 20)])⟩, ⟨(some 22), (some (19, false)), (.un .not (.t 21))⟩, ⟨(some 23), none, (.pick (.t 19) (.c (.bool true)) (.t 22))⟩, ⟨(some 24), none, (.mv (.t 23))⟩, ⟨(some 25), (some (24, false)), (.mv (.t 2))⟩, ⟨(some 26), (some (24, false)), (.mv (.t 3))⟩, ⟨(some 27), (some (24, false)), (.call 75 [(.t 25), (.t 26)])⟩, ⟨(some 28), (some (24, false)), (.un .not (.t 27))⟩, ⟨(some 29), none, (.pick (.t 24) (.c (.bool true)) (.t 28))⟩]) (.cond (.t 29) (.seq (.reg [⟨(some 30), none, (.build [(.int .i64 0), .nilS] [])⟩, ⟨none, none, (.st 2 (.t 8) (.t 30))⟩, ⟨(some 9), none, (.mv (.c (.bool false)))⟩]) .ret) .skip)) (.seq (.seq (.reg [⟨(some 31), none, (.mv (.t 2))⟩, ⟨(some 32), none, (.mv (.t 3))⟩, ⟨(some 33), none, (.bin .eql (.t 31) (.t 32))⟩]) (.cond (.t 33) (.seq (.dreg [⟨(some 34), none, (.fa 0 (.t 4))⟩, ⟨(some 35), none, (.ld false 1 (.t 34))⟩, ⟨(some 36), none, (.fa 1 (.t 4))⟩, ⟨(some 37), none, (.ld false 1 (.t 36))⟩, ⟨(some 38), none, (.call 79 [(.t 37)])⟩, ⟨(some 39), none, (.build [(.int .i64 0), .nilS] [(0, (1, (.t 35))), (1, (1, (.t 38)))])⟩, ⟨none, none, (.st 2 (.t 8) (.t 39))⟩, ⟨(some 9), none, (.mv (.c (.bool true)))⟩] [[], [0], [], [2], [2, 3], [0, 1, 2, 3, 4], [0, 1, 2, 3, 4, 5], [0, 1, 2, 3, 4, 5, 6]]) .ret) .skip)) (.seq (.reg [⟨(some 40), none, (.fa 0 (.t 4))⟩, ⟨(some 41), none, (.ld false 1 (.t 40))⟩, ⟨(some 42), none, (.fa 0 (.t 5))⟩, ⟨(some 43), none, (.ld false 1 (.t 42))⟩, ⟨(some 44), none, (.call 88 [(.t 41), (.t 43)])⟩, ⟨(some 10), none, (.mv (.t 44))⟩]) (.seq (.reg [⟨(some 45), none, (.fa 0 (.t 4))⟩, ⟨(some 46), none, (.ld false 1 (.t 45))⟩, ⟨(some 47), none, (.fa 1 (.t 4))⟩, ⟨(some 48), none, (.ld false 1 (.t 47))⟩, ⟨(some 49), none, (.len (.t 48))⟩, ⟨(some 50), none, (.bin .add (.t 46) (.t 49))⟩, ⟨(some 51), none, (.fa 0 (.t 5))⟩, ⟨(some 52), none, (.ld false 1 (.t 51))⟩, ⟨(some 53), none, (.fa 1 (.t 5))⟩, ⟨(some 54), none, (.ld false 1 (.t 53))⟩, ⟨(some 55), none, (.len (.t 54))⟩, ⟨(some 56), none, (.bin .add (.t 52) (.t 55))⟩, ⟨(some 57), none, (.call 89 [(.t 50), (.t 56)])⟩, ⟨(some 58), none, (.bin .sub (.t 57) (.c (.int .i64 1)))⟩, ⟨(some 11), none, (.mv (.t 58))⟩]) (.seq (.seq (.reg [⟨(some 59), none, (.mv (.t 11))⟩, ⟨(some 60), none, (.mv (.t 10))⟩, ⟨(some 61), none, (.bin .sub (.t 59) (.t 60))⟩, ⟨(some 62), none, (.bin .geq (.t 61) (.c (.int .i64 200)))⟩]) (.cond (.t 62) (.seq (.reg [⟨(some 63), none, (.build [(.int .i64 0), .nilS] [])⟩, ⟨none, none, (.st 2 (.t 8) (.t 63))⟩, ⟨(some 9), none, (.mv (.c (.bool false)))⟩]) .ret) .skip)) (.seq (.dreg [⟨(some 64), none, (.fa 1 (.t 4))⟩, ⟨(some 65), none, (.ld false 1 (.t 64))⟩, ⟨(some 66), none, (.call 69 [(.t 65)])⟩, ⟨(some 67), none, (.fa 1 (.t 5))⟩, ⟨(some 68), none, (.ld false 1 (.t 67))⟩, ⟨(some 69), none, (.call 69 [(.t 68)])⟩, ⟨(some 12), none, (.mv (.t 66))⟩, ⟨(some 13), none, (.mv (.t 69))⟩] [[], [0], [0, 1], [], [3], [0, 1, 2, 3, 4], [0, 1, 2, 3, 4, 5], [0, 1, 2, 3, 4, 5, 6]]) (.seq (.reg [⟨(some 70), none, (.bsl 1 [(.int .i64 0)] 0 [])⟩, ⟨(some 14), none, (.mv (.t 70))⟩]) (.seq (.seq (.reg [⟨(some 71), none, (.mv (.t 10))⟩, ⟨(some 15), none, (.mv (.t 71))⟩]) (.blk 0 (.loop (.seq (.seq (.reg [⟨(some 72), none, (.mv (.t 15))⟩, ⟨(some 73), none, (.mv (.t 11))⟩, ⟨(some 74), none, (.bin .leq (.t 72) (.t 73))⟩]) (.cond (.t 74) .skip (.exit 0))) (.seq (.blk 1 (.dreg [⟨(some 77), none, (.mv (.t 14))⟩, ⟨(some 78), none, (.mv (.t 2))⟩, ⟨(some 79), none, (.mv (.t 13))⟩, ⟨(some 80), none, (.bin .mul (.t 78) (.t 79))⟩, ⟨(some 81), none, (.ld true 2 (.t 4))⟩, ⟨(some 82), none, (.mv (.t 15))⟩, ⟨(some 83), none, (.call 68 [(.t 81), (.t 82)])⟩, ⟨(some 84), none, (.bin .mul (.t 80) (.t 83))⟩, ⟨(some 85), none, (.mv (.t 3))⟩, ⟨(some 86), none, (.mv (.t 2))⟩, ⟨(some 87), none, (.bin .sub (.t 85) (.t 86))⟩, ⟨(some 88), none, (.mv (.t 12))⟩, ⟨(some 89), none, (.bin .mul (.t 87) (.t 88))⟩, ⟨(some 90), none, (.ld true 2 (.t 5))⟩, ⟨(some 91), none, (.mv (.t 15))⟩, ⟨(some 92), none, (.call 68 [(.t 90), (.t 91)])⟩, ⟨(some 93), none, (.bin .mul (.t 89) (.t 92))⟩, ⟨(some 94), none, (.bin .add (.t 84) (.t 93))⟩, ⟨(some 95), none, (.bsl 1 [(.int .i64 0)] 1 [(0, (.t 94))])⟩, ⟨(some 96), none, (.app 1 8 [(.int .i64 0)] (.t 77) (.t 95))⟩, ⟨(some 14), none, (.mv (.t 96))⟩] [[], [], [], [1, 2], [], [], [4, 5], [1, 2, 3, 4, 5, 6], [], [], [8, 9], [], [8, 9, 10, 11], [], [], [4, 5, 6, 13, 14], [4, 5, 6, 8, 9, 10, 11, 12, 13, 14, 15], [1, 2, 3, 4, 5, 6, 7, 8, 9, 10, 11, 12, 13, 14, 15, 16], [1, 2, 3, 4, 5, 6, 7, 8, 9, 10, 11, 12, 13, 14, 15, 16, 17], [0, 1, 2, 3, 4, 5, 6, 7, 8, 9, 10, 11, 12, 13, 14, 15, 16, 17, 18], [0, 1, 2, 3, 4, 5, 6, 7, 8, 9, 10, 11, 12, 13, 14, 15, 16, 17, 18, 19]])) (.reg [⟨(some 75), none, (.mv (.t 15))⟩, ⟨(some 76), none, (.bin .add (.t 75) (.c (.int .i64 1)))⟩, ⟨(some 15), none, (.mv (.t 76))⟩])))))) (.seq (.reg [⟨(some 97), none, (.mv (.t 10))⟩, ⟨(some 98), none, (.mv (.t 14))⟩, ⟨(some 99), none, (.call 82 [(.t 97), (.t 98)])⟩, ⟨(some 100), none, (.ext (.t 99) 0)⟩, ⟨(some 101), none, (.ext (.t 99) 1)⟩, ⟨none, none, (.st 2 (.t 8) (.t 100))⟩, ⟨(some 9), none, (.mv (.t 101))⟩]) .ret))))))))))
def ro44 : List AOp := [(.ld true 2 (.t 8)), (.mv (.t 9))]
theorem fun44 : Fun Try.prog 44 102 ac44 ro44 := ⟨Try.f44, _, Try.func44, by kernel_rfl, rfl, rfl, by kernel_rfl, by kernel_rfl, by decide⟩
def ac45 : AC := (.seq (.reg [⟨(some 4), none, (.box 2 true (.t 0))⟩, ⟨(some 5), none, (.box 2 true (.t 1))⟩, ⟨(some 6), none, (.box 1 false (.t 2))⟩, ⟨(some 7), none, (.box 1 false (.t 3))⟩, ⟨(some 8), none, (.alloc [(.int .i64 0), .nilS])⟩, ⟨(some 9), none, (.mv (.c (.bool false)))⟩]) (.seq (.seq (.reg [⟨(some 10), none, (.ld true 2 (.t 4))⟩, ⟨(some 11), none, (.call 19 [(.t 10)])⟩, ⟨(some 12), none, (.un .not (.t 11))⟩, ⟨(some 13), none, (.mv (.t 12))⟩, ⟨(some 14), (some (13, false)), (.ld true 2 (.t 5))⟩, ⟨(some 15), (some (13, false)), (.call 19 [(.t 14)])⟩, ⟨(some 16), (some (13, false)), (.un .not (.t 15))⟩, ⟨(some 17), none, (.pick (.t 13) (.c (.bool true)) (.t 16))⟩, ⟨(some 18), none, (.mv (.t 17))⟩, ⟨(some 19), (some (18, false)), (.ld false 1 (.t 6))⟩, ⟨(some 20), (some (18, false)), (.ld false 1 (.t 7))⟩, ⟨(some 21), (some (18, false)), (.call 76 [(.t 19), (.t 20)])⟩, ⟨(some 22), (some (18, false)), (.un .not (.t 21))⟩, ⟨(some 23), none, (.pick (.t 18) (.c (.bool true)) (.t 22))⟩]) (.cond (.t 23) (.seq (.reg [⟨(some 24), none, (.build [(.int .i64 0), .nilS] [])⟩, ⟨none, none, (.st 2 (.t 8) (.t 24))⟩, ⟨(some 9), none, (.mv (.c (.bool false)))⟩]) .ret) .skip)) (.seq (.dreg [⟨(some 25), none, (.fa 0 (.t 4))⟩, ⟨(some 26), none, (.ld false 1 (.t 25))⟩, ⟨(some 27), none, (.fa 0 (.t 5))⟩, ⟨(some 28), none, (.ld false 1 (.t 27))⟩, ⟨(some 29), none, (.mn (.t 26) (.t 28))⟩, ⟨(some 30), none, (.ld true 2 (.t 4))⟩, ⟨(some 31), none, (.call 62 [(.t 30)])⟩, ⟨(some 32), none, (.ld true 2 (.t 5))⟩, ⟨(some 33), none, (.call 62 [(.t 32)])⟩, ⟨(some 34), none, (.mx (.t 31) (.t 33))⟩, ⟨(some 35), none, (.mkf 90 [(.t 6), (.t 4), (.t 5), (.t 7)])⟩, ⟨(some 36), none, (.call 85 [(.t 29), (.t 34), (.t 35)])⟩, ⟨(some 37), none, (.ext (.t 36) 0)⟩, ⟨(some 38), none, (.ext (.t 36) 1)⟩, ⟨none, none, (.st 2 (.t 8) (.t 37))⟩, ⟨(some 9), none, (.mv (.t 38))⟩] [[], [0], [], [2], [0, 1, 2, 3], [], [5], [], [5, 6, 7], [5, 6, 7, 8], [], [0, 1, 2, 3, 4, 5, 6, 7, 8, 9, 10], [0, 1, 2, 3, 4, 5, 6, 7, 8, 9, 10, 11], [0, 1, 2, 3, 4, 5, 6, 7, 8, 9, 10, 11], [0, 1, 2, 3, 4, 5, 6, 7, 8, 9, 10, 11, 12, 13], [0, 1, 2, 3, 4, 5, 6, 7, 8, 9, 10, 11, 12, 13, 14]]) .ret)))
def ro45 : List AOp := [(.ld true 2 (.t 8)), (.mv (.t 9))]
theorem fun45 : Fun Try.prog 45 39 ac45 ro45 := ⟨Try.f45, _, Try.func45, by kernel_rfl, rfl, rfl, by kernel_rfl, by kernel_rfl, by decide⟩
def ac90 : AC := (.seq (.reg [⟨(some 6), none, (.mv (.c (.int .i64 0)))⟩]) (.seq (.dreg [⟨(some 7), none, (.ld false 1 (.t 1))⟩, ⟨(some 8), none, (.ld true 2 (.t 2))⟩, ⟨(some 9), none, (.mv (.t 0))⟩, ⟨(some 10), none, (.call 70 [(.t 8), (.t 9)])⟩, ⟨(some 11), none, (.bin .mul (.t 7) (.t 10))⟩, ⟨(some 12), none, (.ld true 2 (.t 3))⟩, ⟨(some 13), none, (.call 71 [(.t 12)])⟩, ⟨(some 14), none, (.bin .mul (.t 11) (.t 13))⟩, ⟨(some 15), none, (.ld false 1 (.t 4))⟩, ⟨(some 16), none, (.ld false 1 (.t 1))⟩, ⟨(some 17), none, (.bin .sub (.t 15) (.t 16))⟩, ⟨(some 18), none, (.ld true 2 (.t 3))⟩, ⟨(some 19), none, (.mv (.t 0))⟩, ⟨(some 20), none, (.call 70 [(.t 18), (.t 19)])⟩, ⟨(some 21), none, (.bin .mul (.t 17) (.t 20))⟩, ⟨(some 22), none, (.ld true 2 (.t 2))⟩, ⟨(some 23), none, (.call 71 [(.t 22)])⟩, ⟨(some 24), none, (.bin .mul (.t 21) (.t 23))⟩, ⟨(some 25), none, (.bin .add (.t 14) (.t 24))⟩, ⟨(some 6), none, (.mv (.t 25))⟩] [[], [], [], [1, 2], [0, 1, 2, 3], [], [1, 2, 3, 5], [0, 1, 2, 3, 4, 5, 6], [], [], [8, 9], [], [], [1, 2, 3, 5, 6, 11, 12], [1, 2, 3, 5, 6, 8, 9, 10, 11, 12, 13], [], [1, 2, 3, 5, 6, 11, 12, 13, 15], [1, 2, 3, 5, 6, 8, 9, 10, 11, 12, 13, 14, 15, 16], [0, 1, 2, 3, 4, 5, 6, 7, 8, 9, 10, 11, 12, 13, 14, 15, 16, 17], [0, 1, 2, 3, 4, 5, 6, 7, 8, 9, 10, 11, 12, 13, 14, 15, 16, 17, 18]]) .ret))
def ro90 : List AOp := [(.mv (.t 6))]
theorem fun90 : Fun Try.prog 90 26 ac90 ro90 := ⟨Try.f90, _, Try.func90, by kernel_rfl, rfl, rfl, by kernel_rfl, by kernel_rfl, by decide⟩
theorem con90 (nn mm : Bool) (a b : Ds) (hA : GoodD a) (hB : GoodD b) (num den : Int) (hF : frac num den) (y : Int) : Con Try.prog 90 true [.int .i64 y, .vp [.int .i64 num], .vp (dRow nn a), .vp (dRow mm b), .vp [.int .i64 den]] (.int .i64 (mixW a b num den y)) [] := by
  refine con_of_wp mixed fun90 (by simp) [] plain_nil ?_
  unfold ac90 ro90 mixW
  simp only [zipT]
  have c1 := con70 nn a hA y
  have c2 := con70 mm b hB y
  have c3 := con71 nn a hA
  have c4 := con71 mm b hB
  have h1 := hF.1
  have h2 := hF.2
  have q1 := mulB (x := num) (X := 1000) (by omega) (hA.at_b y)
  have q2 := mulB (x := den - num) (X := 1000) (by omega) (hB.at_b y)
  have p1 := mulB q1 hB.total_b
  have p2 := mulB q2 hA.total_b
  unfold dRow at *
  repeat (first | refine wG_call c1 rfl rfl ?_ | refine wG_call c2 rfl rfl ?_ | refine wG_call c3 rfl rfl ?_ | refine wG_call c4 rfl rfl ?_ | (first
    | refine wC_a rfl ?_
    | refine q_s rfl ?_
    | refine q_b rfl ?_
    | refine wG_nil ?_
    | refine wG_g rfl ?_
    | refine wG_pure (o_len_vwm rfl) ?_
    | refine wG_pure (o_not_d rfl) ?_
    | refine wG_p rfl (by first | exact rfl | omega) ?_
    | refine wG_pure (o_not rfl) ?_
    | refine wG_pure (e_ia_vw0 rfl rfl (by omega) rfl) ?_
    | refine wG_pure (e_ia_vwp rfl rfl (by omega) rfl) ?_
    | refine wG_pure (e_ia_vwm rfl rfl (by omega) (by omega) rfl) ?_
    | refine wG_pure (e_ia_vwi rfl rfl (by omega) rfl) ?_
    | refine wG_pure (e_ia_vwn rfl rfl (by omega) (by omega) rfl) ?_
    | refine wG_n rfl rfl ?_
    | refine wG_u rfl rfl ?_
    | refine wG_new (o_mks rfl rfl (by omega) (by decide)) ?_))
  exact ret_intE (.inr rfl) ⟨_, retV_mv rfl, rfl⟩
theorem con45_all (nn mm : Bool) (a b : Ds) (h1 : a.ws.length ≤ 1048576) (h2 : b.ws.length ≤ 1048576) (num den : Int) (v : AV) (rs : List Nat) (objs : List Ab.Rows) (hv : v.nvf = true) (hp : PlainObjs objs)
    (hend : (mixOK a b num den → v = dYes (mkO (mixF a b) (mixL a b num den)) ∧ rs = [5] ∧ objs = [(mkO (mixF a b) (mixL a b num den)).ws.map iRow]) ∧ (¬ mixOK a b num den → v = dNo ∧ rs = [] ∧ objs = [])) :
    Con Try.prog 45 true [.agg (dRow nn a), .agg (dRow mm b), .int .i64 num, .int .i64 den] v objs := by
  classical
  suffices key : Con Try.prog 45 v.nvf [.agg (dRow nn a), .agg (dRow mm b), .int .i64 num, .int .i64 den] v objs by rwa [hv] at key
  refine con_of_wp mixed fun45 (by simp) rs hp ?_
  unfold ac45 ro45
  simp only [zipT]
  have c1 := con19 nn a h1
  have c2 := con19 mm b h2
  have c0 := con76 num den
  by_cases hA : GoodD a
  · rw [decide_eq_true hA] at c1
    by_cases hB : GoodD b
    · rw [decide_eq_true hB] at c2
      by_cases hF : frac num den
      · rw [decide_eq_true hF] at c0
        have hf := hA.2.1
        have h60 := hA.1
        have hfb := hB.2.1
        have h6b := hB.1
        have c3 := con62 nn a h1 (by omega) (by omega)
        have c3b := con62 mm b h2 (by omega) (by omega)
        have hmf : mixF a b = min a.f b.f := rfl
        have hme : mixE a b = max (a.f + a.ws.length - 1) (b.f + b.ws.length - 1) := rfl
        have hN : nY (mixF a b) (mixE a b) = mixN a b := rfl
        have hln : mixN a b ≤ 100000 := by unfold mixN nY; omega
        have hcl : mixL a b num den = tab (mixF a b) (mixW a b num den) (mixN a b) := rfl
        have ct := fun v rs objs hv hp hend => con85_all (mixF a b) (mixE a b) (by omega) (by omega) hln (mixW a b num den) (fun y _ _ => con90 nn mm a b hA hB num den hF y) (fun _ _ => rfl) rfl (fun _ => rfl) (fun _ => rfl) (B := 200000000000000000) (by decide) (fun i _ => mixW_b hA hB hF _) v rs objs hv hp hend
        rw [hN, ← hcl] at ct
        by_cases hm : mkOK (mixF a b) (mixL a b num den)
        · obtain ⟨rfl, rfl, rfl⟩ := hend.1 ⟨⟨⟨hA, hB⟩, hF⟩, hm⟩
          have c4 := ct (dYes (mkO (mixF a b) (mixL a b num den))) [2] [(mkO (mixF a b) (mixL a b num den)).ws.map iRow] rfl (plain_map iRow_plain _) ⟨fun _ => ⟨rfl, rfl, rfl⟩, fun h => absurd hm h⟩
          generalize mkO (mixF a b) (mixL a b num den) = out at *
          rw [hmf, hme] at c4
          unfold dRow dYes at *
          repeat (first | refine wG_call c1 rfl rfl ?_ | refine wG_call c2 rfl rfl ?_ | refine wG_call c0 rfl rfl ?_ | refine wE_call c3 rfl rfl rfl ?_ | refine wE_call c3b rfl rfl rfl ?_ | refine wE_call1 c4 (ag_int rfl (ag_int rfl (ag_any rfl ag_nil))) rfl rfl ?_ | (first
    | refine wC_a rfl ?_
    | refine q_s rfl ?_
    | refine q_b rfl ?_
    | refine wG_nil ?_
    | refine wG_g rfl ?_
    | refine wG_pure (o_len_vwm rfl) ?_
    | refine wG_pure (o_not_d rfl) ?_
    | refine wG_p rfl (by first | exact rfl | omega) ?_
    | refine wG_pure (o_not rfl) ?_
    | refine wG_pure (e_ia_vw0 rfl rfl (by omega) rfl) ?_
    | refine wG_pure (e_ia_vwp rfl rfl (by omega) rfl) ?_
    | refine wG_pure (e_ia_vwm rfl rfl (by omega) (by omega) rfl) ?_
    | refine wG_pure (e_ia_vwi rfl rfl (by omega) rfl) ?_
    | refine wG_pure (e_ia_vwn rfl rfl (by omega) (by omega) rfl) ?_
    | refine wG_n rfl rfl ?_
    | refine wG_u rfl rfl ?_
    | refine wG_new (o_mks rfl rfl (by omega) (by decide)) ?_) | (first
    | refine wE_nil rfl ?_
    | refine wE_gy rfl ?_
    | refine wE_gn rfl rfl rfl ?_
    | refine wE_gu rfl rfl ?_
    | refine wE_gnn rfl rfl rfl ?_
    | refine wE_v (o_len_vwm rfl) rfl ?_
    | refine wE_v (o_not_d rfl) rfl ?_
    | refine wE_p rfl (by first | exact rfl | omega) rfl ?_
    | refine wE_v (o_not rfl) rfl ?_
    | refine wE_v (e_ia_vw0 rfl rfl (by omega) rfl) rfl ?_
    | refine wE_v (e_ia_vwp rfl rfl (by omega) rfl) rfl ?_
    | refine wE_v (e_ia_vwm rfl rfl (by omega) (by omega) rfl) rfl ?_
    | refine wE_v (e_ia_vwi rfl rfl (by omega) rfl) rfl ?_
    | refine wE_v (e_ia_vwn rfl rfl (by omega) (by omega) rfl) rfl ?_
    | refine wE_n rfl rfl rfl ?_
    | refine wE_u rfl rfl rfl ?_
    | refine wE_new (o_mks rfl rfl (by omega) (by decide)) rfl ?_))
          exact ret_db (.inr rfl) rfl (retV_ldt rfl rfl rfl rfl rfl) (retV_mv rfl) rfl
        · obtain ⟨rfl, rfl, rfl⟩ := hend.2 (fun h => hm h.2)
          have c4 := ct dNo [] [] rfl plain_nil ⟨fun h => absurd h hm, fun _ => ⟨rfl, rfl, rfl⟩⟩
          rw [hmf, hme] at c4
          unfold dRow dNo at *
          repeat (first | refine wG_call c1 rfl rfl ?_ | refine wG_call c2 rfl rfl ?_ | refine wG_call c0 rfl rfl ?_ | refine wE_call c3 rfl rfl rfl ?_ | refine wE_call c3b rfl rfl rfl ?_ | refine wE_call c4 (ag_int rfl (ag_int rfl (ag_any rfl ag_nil))) rfl rfl ?_ | (first
    | refine wC_a rfl ?_
    | refine q_s rfl ?_
    | refine q_b rfl ?_
    | refine wG_nil ?_
    | refine wG_g rfl ?_
    | refine wG_pure (o_len_vwm rfl) ?_
    | refine wG_pure (o_not_d rfl) ?_
    | refine wG_p rfl (by first | exact rfl | omega) ?_
    | refine wG_pure (o_not rfl) ?_
    | refine wG_pure (e_ia_vw0 rfl rfl (by omega) rfl) ?_
    | refine wG_pure (e_ia_vwp rfl rfl (by omega) rfl) ?_
    | refine wG_pure (e_ia_vwm rfl rfl (by omega) (by omega) rfl) ?_
    | refine wG_pure (e_ia_vwi rfl rfl (by omega) rfl) ?_
    | refine wG_pure (e_ia_vwn rfl rfl (by omega) (by omega) rfl) ?_
    | refine wG_n rfl rfl ?_
    | refine wG_u rfl rfl ?_
    | refine wG_new (o_mks rfl rfl (by omega) (by decide)) ?_) | (first
    | refine wE_nil rfl ?_
    | refine wE_gy rfl ?_
    | refine wE_gn rfl rfl rfl ?_
    | refine wE_gu rfl rfl ?_
    | refine wE_gnn rfl rfl rfl ?_
    | refine wE_v (o_len_vwm rfl) rfl ?_
    | refine wE_v (o_not_d rfl) rfl ?_
    | refine wE_p rfl (by first | exact rfl | omega) rfl ?_
    | refine wE_v (o_not rfl) rfl ?_
    | refine wE_v (e_ia_vw0 rfl rfl (by omega) rfl) rfl ?_
    | refine wE_v (e_ia_vwp rfl rfl (by omega) rfl) rfl ?_
    | refine wE_v (e_ia_vwm rfl rfl (by omega) (by omega) rfl) rfl ?_
    | refine wE_v (e_ia_vwi rfl rfl (by omega) rfl) rfl ?_
    | refine wE_v (e_ia_vwn rfl rfl (by omega) (by omega) rfl) rfl ?_
    | refine wE_n rfl rfl rfl ?_
    | refine wE_u rfl rfl rfl ?_
    | refine wE_new (o_mks rfl rfl (by omega) (by decide)) rfl ?_))
          exact ret_d0 (.inr rfl) rfl (retV_ldt rfl rfl rfl rfl rfl) (retV_mv rfl)
      · rw [decide_eq_false hF] at c0
        obtain ⟨rfl, rfl, rfl⟩ := hend.2 (fun h => hF h.1.2)
        unfold dRow dNo at *
        repeat (first | refine wG_call c1 rfl rfl ?_ | refine wG_call c2 rfl rfl ?_ | refine wG_call c0 rfl rfl ?_ | (first
    | refine wC_a rfl ?_
    | refine q_s rfl ?_
    | refine q_b rfl ?_
    | refine wG_nil ?_
    | refine wG_g rfl ?_
    | refine wG_pure (o_len_vwm rfl) ?_
    | refine wG_pure (o_not_d rfl) ?_
    | refine wG_p rfl (by first | exact rfl | omega) ?_
    | refine wG_pure (o_not rfl) ?_
    | refine wG_pure (e_ia_vw0 rfl rfl (by omega) rfl) ?_
    | refine wG_pure (e_ia_vwp rfl rfl (by omega) rfl) ?_
    | refine wG_pure (e_ia_vwm rfl rfl (by omega) (by omega) rfl) ?_
    | refine wG_pure (e_ia_vwi rfl rfl (by omega) rfl) ?_
    | refine wG_pure (e_ia_vwn rfl rfl (by omega) (by omega) rfl) ?_
    | refine wG_n rfl rfl ?_
    | refine wG_u rfl rfl ?_
    | refine wG_new (o_mks rfl rfl (by omega) (by decide)) ?_))
        exact ret_d0 (.inr rfl) rfl (retV_ldt rfl rfl rfl rfl rfl) (retV_mv rfl)
    · rw [decide_eq_false hB] at c2
      obtain ⟨rfl, rfl, rfl⟩ := hend.2 (fun h => hB h.1.1.2)
      unfold dRow dNo at *
      repeat (first | refine wG_call c1 rfl rfl ?_ | refine wG_call c2 rfl rfl ?_ | (first
    | refine wC_a rfl ?_
    | refine q_s rfl ?_
    | refine q_b rfl ?_
    | refine wG_nil ?_
    | refine wG_g rfl ?_
    | refine wG_pure (o_len_vwm rfl) ?_
    | refine wG_pure (o_not_d rfl) ?_
    | refine wG_p rfl (by first | exact rfl | omega) ?_
    | refine wG_pure (o_not rfl) ?_
    | refine wG_pure (e_ia_vw0 rfl rfl (by omega) rfl) ?_
    | refine wG_pure (e_ia_vwp rfl rfl (by omega) rfl) ?_
    | refine wG_pure (e_ia_vwm rfl rfl (by omega) (by omega) rfl) ?_
    | refine wG_pure (e_ia_vwi rfl rfl (by omega) rfl) ?_
    | refine wG_pure (e_ia_vwn rfl rfl (by omega) (by omega) rfl) ?_
    | refine wG_n rfl rfl ?_
    | refine wG_u rfl rfl ?_
    | refine wG_new (o_mks rfl rfl (by omega) (by decide)) ?_))
      exact ret_d0 (.inr rfl) rfl (retV_ldt rfl rfl rfl rfl rfl) (retV_mv rfl)
  · rw [decide_eq_false hA] at c1
    obtain ⟨rfl, rfl, rfl⟩ := hend.2 (fun h => hA h.1.1.1)
    unfold dRow dNo at *
    repeat (first | refine wG_call c1 rfl rfl ?_ | (first
    | refine wC_a rfl ?_
    | refine q_s rfl ?_
    | refine q_b rfl ?_
    | refine wG_nil ?_
    | refine wG_g rfl ?_
    | refine wG_pure (o_len_vwm rfl) ?_
    | refine wG_pure (o_not_d rfl) ?_
    | refine wG_p rfl (by first | exact rfl | omega) ?_
    | refine wG_pure (o_not rfl) ?_
    | refine wG_pure (e_ia_vw0 rfl rfl (by omega) rfl) ?_
    | refine wG_pure (e_ia_vwp rfl rfl (by omega) rfl) ?_
    | refine wG_pure (e_ia_vwm rfl rfl (by omega) (by omega) rfl) ?_
    | refine wG_pure (e_ia_vwi rfl rfl (by omega) rfl) ?_
    | refine wG_pure (e_ia_vwn rfl rfl (by omega) (by omega) rfl) ?_
    | refine wG_n rfl rfl ?_
    | refine wG_u rfl rfl ?_
    | refine wG_new (o_mks rfl rfl (by omega) (by decide)) ?_))
    exact ret_d0 (.inr rfl) rfl (retV_ldt rfl rfl rfl rfl rfl) (retV_mv rfl)

theorem con44_all (nn mm : Bool) (a b : Ds) (h1 : a.ws.length ≤ 1048576) (h2 : b.ws.length ≤ 1048576) (num den : Int) (v : AV) (rs : List Nat) (objs : List Ab.Rows) (hv : v.nvf = true) (hp : PlainObjs objs)
    (hend : (mixOK a b num den → v = dYes (mkO (mixF a b) (mixL a b num den)) ∧ rs = (if num = den then [3] else [4]) ∧ objs = [(mkO (mixF a b) (mixL a b num den)).ws.map iRow]) ∧ (¬ mixOK a b num den → v = dNo ∧ rs = [] ∧ objs = [])) :
    Con Try.prog 44 true [.agg (dRow nn a), .agg (dRow mm b), .int .i64 num, .int .i64 den] v objs := by
  classical
  suffices key : Con Try.prog 44 v.nvf [.agg (dRow nn a), .agg (dRow mm b), .int .i64 num, .int .i64 den] v objs by rwa [hv] at key
  refine con_of_wp mixed fun44 (by simp) rs hp ?_
  unfold ac44 ro44
  simp only [zipT]
  have c1 := con60 nn a h1
  have c2 := con60 mm b h2
  have c0 := con75 num den
  by_cases hA : GoodD a
  · rw [decide_eq_true hA] at c1
    by_cases hB : GoodD b
    · rw [decide_eq_true hB] at c2
      by_cases hF : frac num den
      · rw [decide_eq_true hF] at c0
        have hf := hA.2.1
        have h60 := hA.1
        have hfb := hB.2.1
        have h6b := hB.1
        have hF1 := hF.1
        have hF2 := hF.2
        by_cases hnd : num = den
        · subst hnd
          obtain ⟨m1, m2⟩ := mix_all hA hB hF2.1 (by omega)
          obtain ⟨rfl, rfl, rfl⟩ := hend.1 ⟨⟨⟨hA, hB⟩, hF⟩, m1⟩
          have co := con79 nn a.ws h1
          rw [m2, if_pos rfl]
          unfold dRow dYes at *
          repeat' (first | refine wG_call c1 rfl rfl ?_ | refine wG_call c2 rfl rfl ?_ | refine wG_call c0 rfl rfl ?_ | refine wE_call1 co rfl rfl rfl ?_ | (first
    | refine wC_a rfl ?_
    | refine q_s rfl ?_
    | refine q_b rfl ?_
    | refine wG_nil ?_
    | refine wG_g rfl ?_
    | refine wG_pure (o_len_vwm rfl) ?_
    | refine wG_pure (o_not_d rfl) ?_
    | refine wG_p rfl (by first | exact rfl | omega) ?_
    | refine wG_pure (o_not rfl) ?_
    | refine wG_pure (e_ia_vw0 rfl rfl (by omega) rfl) ?_
    | refine wG_pure (e_ia_vwp rfl rfl (by omega) rfl) ?_
    | refine wG_pure (e_ia_vwm rfl rfl (by omega) (by omega) rfl) ?_
    | refine wG_pure (e_ia_vwi rfl rfl (by omega) rfl) ?_
    | refine wG_pure (e_ia_vwn rfl rfl (by omega) (by omega) rfl) ?_
    | refine wG_n rfl rfl ?_
    | refine wG_u rfl rfl ?_
    | refine wG_new (o_mks rfl rfl (by omega) (by decide)) ?_) | (first
    | refine wE_nil rfl ?_
    | refine wE_gy rfl ?_
    | refine wE_gn rfl rfl rfl ?_
    | refine wE_gu rfl rfl ?_
    | refine wE_gnn rfl rfl rfl ?_
    | refine wE_v (o_len_vwm rfl) rfl ?_
    | refine wE_v (o_not_d rfl) rfl ?_
    | refine wE_p rfl (by first | exact rfl | omega) rfl ?_
    | refine wE_v (o_not rfl) rfl ?_
    | refine wE_v (e_ia_vw0 rfl rfl (by omega) rfl) rfl ?_
    | refine wE_v (e_ia_vwp rfl rfl (by omega) rfl) rfl ?_
    | refine wE_v (e_ia_vwm rfl rfl (by omega) (by omega) rfl) rfl ?_
    | refine wE_v (e_ia_vwi rfl rfl (by omega) rfl) rfl ?_
    | refine wE_v (e_ia_vwn rfl rfl (by omega) (by omega) rfl) rfl ?_
    | refine wE_n rfl rfl rfl ?_
    | refine wE_u rfl rfl rfl ?_
    | refine wE_new (o_mks rfl rfl (by omega) (by decide)) rfl ?_) | (refine wG_gd rfl (fun hgt => ?_) (fun hgf => ?_) <;> (first | simp only [eq_true hgt, decide_true] | simp only [eq_false hgf, decide_false])) | refine wC_cond_d rfl (fun hg => ?_) (fun hg => ?_))
          all_goals (first | exact ret_db (.inr rfl) rfl (retV_ldt rfl rfl rfl rfl rfl) (retV_mv rfl) rfl | contradiction)
        · have hmf : mixF a b = min a.f b.f := rfl
          have hme : mixE a b = max (a.f + a.ws.length - 1) (b.f + b.ws.length - 1) := rfl
          by_cases hfar : mixE a b - mixF a b ≥ 200
          · obtain ⟨rfl, rfl, rfl⟩ := hend.2 (fun h => mix_far hA hB hF2.1 (by omega) hfar h.2)
            unfold dRow dNo at *
            repeat' (first | refine wG_call c1 rfl rfl ?_ | refine wG_call c2 rfl rfl ?_ | refine wG_call c0 rfl rfl ?_ | refine wG_call (con88 _ _) rfl rfl ?_ | refine wG_call (con89 _ _) rfl rfl ?_ | (first
    | refine wC_a rfl ?_
    | refine q_s rfl ?_
    | refine q_b rfl ?_
    | refine wG_nil ?_
    | refine wG_g rfl ?_
    | refine wG_pure (o_len_vwm rfl) ?_
    | refine wG_pure (o_not_d rfl) ?_
    | refine wG_p rfl (by first | exact rfl | omega) ?_
    | refine wG_pure (o_not rfl) ?_
    | refine wG_pure (e_ia_vw0 rfl rfl (by omega) rfl) ?_
    | refine wG_pure (e_ia_vwp rfl rfl (by omega) rfl) ?_
    | refine wG_pure (e_ia_vwm rfl rfl (by omega) (by omega) rfl) ?_
    | refine wG_pure (e_ia_vwi rfl rfl (by omega) rfl) ?_
    | refine wG_pure (e_ia_vwn rfl rfl (by omega) (by omega) rfl) ?_
    | refine wG_n rfl rfl ?_
    | refine wG_u rfl rfl ?_
    | refine wG_new (o_mks rfl rfl (by omega) (by decide)) ?_) | (refine wG_gd rfl (fun hgt => ?_) (fun hgf => ?_) <;> (first | simp only [eq_true hgt, decide_true] | simp only [eq_false hgf, decide_false])) | refine wC_cond_d rfl (fun hg => ?_) (fun hg => ?_))
            any_goals (exfalso; omega)
            all_goals exact ret_d0 (.inr rfl) rfl (retV_ldt rfl rfl rfl rfl rfl) (retV_mv rfl)
          · have hN : mixN a b = (mixE a b - mixF a b + 1).toNat := rfl
            have hbd : bnd (mixL a b num den) 200000000000000000 := tab_bnd (fun i _ => mixW_b hA hB hF _)
            have hlc : (mixL a b num den).length = mixN a b := tab_len _ _ _
            have hcl : mixL a b num den = tab (mixF a b) (mixW a b num den) (mixN a b) := rfl
            have cy := fun h => con82_yes true (mixF a b) (mixL a b num den) (by omega) hbd (by decide) (by omega) (by omega) h
            have cn := fun h => con82_no true (mixF a b) (mixL a b num den) (by omega) hbd (by decide) (by omega) (by omega) h
            have hok : mixOK a b num den ↔ mkOK (mixF a b) (mixL a b num den) := ⟨fun h => h.2, fun h => ⟨⟨⟨hA, hB⟩, hF⟩, h⟩⟩
            have cs1 := con69 nn a.ws (by omega) hA.bnd (by decide) (by omega)
            have cs2 := con69 mm b.ws (by omega) hB.bnd (by decide) (by omega)
            have ca := fun y => con68 nn a hA y
            have cb := fun y => con68 mm b hB y
            have t1 := hA.total_b
            have t2 := hB.total_b
            have wb := fun y => mixW_b hA hB hF y
            have we : ∀ y, num * total b * atY a y + (den - num) * total a * atY b y = mixW a b num den y := fun y => by
              unfold mixW; rw [Int.mul_right_comm num, Int.mul_right_comm (den - num)]
            have q1 := mulB (x := num) (X := 1000) (by omega) t2
            have q2 := mulB (x := den - num) (X := 1000) (by omega) t1
            have q3 := fun y => mulB q1 (hA.at_b y)
            have q4 := fun y => mulB q2 (hB.at_b y)
            rw [hcl] at hend hbd hlc cy cn hok
            change Con _ _ _ _ (.int .i64 (total a)) _ at cs1
            change Con _ _ _ _ (.int .i64 (total b)) _ at cs2
            generalize mixW a b num den = wt at *
            generalize hFv : mixF a b = F at *
            generalize hEv : mixE a b = E at *
            generalize mixN a b = N at *
            have eE : max (a.f + (a.ws.length : Int)) (b.f + (b.ws.length : Int)) - 1 = E := by omega
            generalize total a = ta at *
            generalize total b = tb at *
            unfold dRow dYes dNo at *
            repeat' (first | refine wG_call c1 rfl rfl ?_ | refine wG_call c2 rfl rfl ?_ | refine wG_call c0 rfl rfl ?_ | refine wG_call (con88 _ _) rfl rfl ?_ | refine wG_call (con89 _ _) rfl rfl ?_ | refine wG_call cs1 rfl rfl ?_ | refine wG_call cs2 rfl rfl ?_ | simp only [eE, ← hmf] | (first
    | refine wC_a rfl ?_
    | refine q_s rfl ?_
    | refine q_b rfl ?_
    | refine wG_nil ?_
    | refine wG_g rfl ?_
    | refine wG_pure (o_len_vwm rfl) ?_
    | refine wG_pure (o_not_d rfl) ?_
    | refine wG_p rfl (by first | exact rfl | omega) ?_
    | refine wG_pure (o_not rfl) ?_
    | refine wG_pure (e_ia_vw0 rfl rfl (by omega) rfl) ?_
    | refine wG_pure (e_ia_vwp rfl rfl (by omega) rfl) ?_
    | refine wG_pure (e_ia_vwm rfl rfl (by omega) (by omega) rfl) ?_
    | refine wG_pure (e_ia_vwi rfl rfl (by omega) rfl) ?_
    | refine wG_pure (e_ia_vwn rfl rfl (by omega) (by omega) rfl) ?_
    | refine wG_n rfl rfl ?_
    | refine wG_u rfl rfl ?_
    | refine wG_new (o_mks rfl rfl (by omega) (by decide)) ?_) | (refine wG_gd rfl (fun hgt => ?_) (fun hgf => ?_) <;> (first | simp only [eq_true hgt, decide_true] | simp only [eq_false hgf, decide_false])) | refine wC_cond_d rfl (fun hg => ?_) (fun hg => ?_))
            any_goals (exfalso; omega)
            have hFE : F ≤ E := by omega
            rw [if_neg hnd] at hend
            refine wC_loopR Nat (fun i => ⟨[(4, .pt 0 0 0), (5, .pt 1 0 0), (8, .pt 2 0 0), (2, .int .i64 num), (3, .int .i64 den), (10, .int .i64 F), (11, .int .i64 E), (12, .int .i64 ta), (13, .int .i64 tb), (14, .sl 3 1 0 (tab F wt i).length), (15, .int .i64 (F + (i : Int)))], [(3, some ((tab F wt i).map iRow)), (2, some [[.int .i64 0, .nilS]]), (1, some [[.int .i64 b.f, .vw mm (b.ws.map iRow)]]), (0, some [[.int .i64 a.f, .vw nn (a.ws.map iRow)]])], 4⟩) (fun i => i ≤ N) (fun i => N - i) 0 (Nat.zero_le _) ⟨[0, 1, 2, 3], ?_⟩ ?_
            · have e15 : F = F + ((0 : Nat) : Int) := by simp
              refine ⟨⟨⟨rfl, rfl⟩, ⟨rfl, rfl⟩, ⟨rfl, rfl⟩, ⟨rfl, rfl⟩, ⟨rfl, rfl⟩, ⟨rfl, rfl⟩, ⟨rfl, rfl⟩, ⟨rfl, rfl⟩, ⟨rfl, rfl⟩, ⟨rfl, rfl⟩, ⟨congrArg (AV.int .i64) e15, rfl⟩, trivial⟩, ⟨⟨⟨_, rfl, rfl⟩, (by show 3 < 4; decide), ltrI _ _⟩, ⟨⟨_, rfl, rfl⟩, (by show 2 < 4; decide), by simp [AV.ltr]⟩, ⟨⟨_, rfl, rfl⟩, (by show 1 < 4; decide), by simp [AV.ltr]⟩, ⟨⟨_, rfl, rfl⟩, (by show 0 < 4; decide), by simp [AV.ltr]⟩, trivial⟩, rfl, by decide⟩
            intro i hi
            have hl := tab_len F wt i
            repeat (first
    | refine wC_a rfl ?_
    | refine q_s rfl ?_
    | refine q_b rfl ?_
    | refine wG_nil ?_
    | refine wG_g rfl ?_
    | refine wG_pure (o_len_vwm rfl) ?_
    | refine wG_pure (o_not_d rfl) ?_
    | refine wG_p rfl (by first | exact rfl | omega) ?_
    | refine wG_pure (o_not rfl) ?_
    | refine wG_pure (e_ia_vw0 rfl rfl (by omega) rfl) ?_
    | refine wG_pure (e_ia_vwp rfl rfl (by omega) rfl) ?_
    | refine wG_pure (e_ia_vwm rfl rfl (by omega) (by omega) rfl) ?_
    | refine wG_pure (e_ia_vwi rfl rfl (by omega) rfl) ?_
    | refine wG_pure (e_ia_vwn rfl rfl (by omega) (by omega) rfl) ?_
    | refine wG_n rfl rfl ?_
    | refine wG_u rfl rfl ?_
    | refine wG_new (o_mks rfl rfl (by omega) (by decide)) ?_)
            refine wC_cond_d rfl (fun h3 => ?_) (fun h3 => ?_)
            · have hi2 : i < N := by omega
              have z3 := q3 (F + (i : Int))
              have z4 := q4 (F + (i : Int))
              have zb := wb (F + (i : Int))
              have zw := we (F + (i : Int))
              have za := ca (F + (i : Int))
              have zc := cb (F + (i : Int))
              have e15 : F + (i : Int) + 1 = F + ((i + 1 : Nat) : Int) := by omega
              generalize atY a (F + (i : Int)) = va at *
              generalize atY b (F + (i : Int)) = vb at *
              repeat (first | refine wE_call za rfl rfl rfl ?_ | refine wE_call zc rfl rfl rfl ?_ | refine wE_app rfl rfl (by simp) (rows_sl rfl rfl rfl) (by simp) (by simp; omega) (by decide) rfl ?_ | (first
    | refine wC_a rfl ?_
    | refine q_s rfl ?_
    | refine q_b rfl ?_
    | refine wG_nil ?_
    | refine wG_g rfl ?_
    | refine wG_pure (o_len_vwm rfl) ?_
    | refine wG_pure (o_not_d rfl) ?_
    | refine wG_p rfl (by first | exact rfl | omega) ?_
    | refine wG_pure (o_not rfl) ?_
    | refine wG_pure (e_ia_vw0 rfl rfl (by omega) rfl) ?_
    | refine wG_pure (e_ia_vwp rfl rfl (by omega) rfl) ?_
    | refine wG_pure (e_ia_vwm rfl rfl (by omega) (by omega) rfl) ?_
    | refine wG_pure (e_ia_vwi rfl rfl (by omega) rfl) ?_
    | refine wG_pure (e_ia_vwn rfl rfl (by omega) (by omega) rfl) ?_
    | refine wG_n rfl rfl ?_
    | refine wG_u rfl rfl ?_
    | refine wG_new (o_mks rfl rfl (by omega) (by decide)) ?_) | (first
    | refine wE_nil rfl ?_
    | refine wE_gy rfl ?_
    | refine wE_gn rfl rfl rfl ?_
    | refine wE_gu rfl rfl ?_
    | refine wE_gnn rfl rfl rfl ?_
    | refine wE_v (o_len_vwm rfl) rfl ?_
    | refine wE_v (o_not_d rfl) rfl ?_
    | refine wE_p rfl (by first | exact rfl | omega) rfl ?_
    | refine wE_v (o_not rfl) rfl ?_
    | refine wE_v (e_ia_vw0 rfl rfl (by omega) rfl) rfl ?_
    | refine wE_v (e_ia_vwp rfl rfl (by omega) rfl) rfl ?_
    | refine wE_v (e_ia_vwm rfl rfl (by omega) (by omega) rfl) rfl ?_
    | refine wE_v (e_ia_vwi rfl rfl (by omega) rfl) rfl ?_
    | refine wE_v (e_ia_vwn rfl rfl (by omega) (by omega) rfl) rfl ?_
    | refine wE_n rfl rfl rfl ?_
    | refine wE_u rfl rfl rfl ?_
    | refine wE_new (o_mks rfl rfl (by omega) (by decide)) rfl ?_))
              refine ⟨i + 1, hi2, by omega, [0, 1, 2, 5], ?_⟩
              simp only [tab, zw, e15]
              refine ⟨⟨⟨rfl, rfl⟩, ⟨rfl, rfl⟩, ⟨rfl, rfl⟩, ⟨rfl, rfl⟩, ⟨rfl, rfl⟩, ⟨rfl, rfl⟩, ⟨rfl, rfl⟩, ⟨rfl, rfl⟩, ⟨rfl, rfl⟩, ⟨by simp [lk, rn, πof], rfl⟩, ⟨rfl, rfl⟩, trivial⟩, ⟨⟨⟨_, rfl, ?_⟩, (by show 3 < 4; decide), ltrI _ _⟩, ⟨⟨_, rfl, rfl⟩, (by show 2 < 4; decide), by simp [AV.ltr]⟩, ⟨⟨_, rfl, rfl⟩, (by show 1 < 4; decide), by simp [AV.ltr]⟩, ⟨⟨_, rfl, rfl⟩, (by show 0 < 4; decide), by simp [AV.ltr]⟩, trivial⟩, rfl, by decide⟩
              rw [← rn_rows (rowsP _), List.map_append]; rfl
            · have hi3 : i = N := by omega
              subst hi3
              by_cases hm : mkOK F (tab F wt i)
              · obtain ⟨rfl, rfl, rfl⟩ := hend.1 (hok.2 hm)
                have c := cy hm
                repeat (first | refine wG_call1 c (ag_int rfl (ag_sl rfl rfl rfl iRow_plain ag_nil)) rfl ?_ | (first
    | refine wC_a rfl ?_
    | refine q_s rfl ?_
    | refine q_b rfl ?_
    | refine wG_nil ?_
    | refine wG_g rfl ?_
    | refine wG_pure (o_len_vwm rfl) ?_
    | refine wG_pure (o_not_d rfl) ?_
    | refine wG_p rfl (by first | exact rfl | omega) ?_
    | refine wG_pure (o_not rfl) ?_
    | refine wG_pure (e_ia_vw0 rfl rfl (by omega) rfl) ?_
    | refine wG_pure (e_ia_vwp rfl rfl (by omega) rfl) ?_
    | refine wG_pure (e_ia_vwm rfl rfl (by omega) (by omega) rfl) ?_
    | refine wG_pure (e_ia_vwi rfl rfl (by omega) rfl) ?_
    | refine wG_pure (e_ia_vwn rfl rfl (by omega) (by omega) rfl) ?_
    | refine wG_n rfl rfl ?_
    | refine wG_u rfl rfl ?_
    | refine wG_new (o_mks rfl rfl (by omega) (by decide)) ?_))
                exact ret_db (.inr rfl) rfl (retV_ldt rfl rfl rfl rfl rfl) (retV_mv rfl) rfl
              · obtain ⟨rfl, rfl, rfl⟩ := hend.2 (fun h => hm (hok.1 h))
                have c := cn hm
                repeat (first | refine wG_call c (ag_int rfl (ag_sl rfl rfl rfl iRow_plain ag_nil)) rfl ?_ | (first
    | refine wC_a rfl ?_
    | refine q_s rfl ?_
    | refine q_b rfl ?_
    | refine wG_nil ?_
    | refine wG_g rfl ?_
    | refine wG_pure (o_len_vwm rfl) ?_
    | refine wG_pure (o_not_d rfl) ?_
    | refine wG_p rfl (by first | exact rfl | omega) ?_
    | refine wG_pure (o_not rfl) ?_
    | refine wG_pure (e_ia_vw0 rfl rfl (by omega) rfl) ?_
    | refine wG_pure (e_ia_vwp rfl rfl (by omega) rfl) ?_
    | refine wG_pure (e_ia_vwm rfl rfl (by omega) (by omega) rfl) ?_
    | refine wG_pure (e_ia_vwi rfl rfl (by omega) rfl) ?_
    | refine wG_pure (e_ia_vwn rfl rfl (by omega) (by omega) rfl) ?_
    | refine wG_n rfl rfl ?_
    | refine wG_u rfl rfl ?_
    | refine wG_new (o_mks rfl rfl (by omega) (by decide)) ?_))
                exact ret_d0 (.inr rfl) rfl (retV_ldt rfl rfl rfl rfl rfl) (retV_mv rfl)
      · rw [decide_eq_false hF] at c0
        obtain ⟨rfl, rfl, rfl⟩ := hend.2 (fun h => hF h.1.2)
        unfold dRow dNo at *
        repeat (first | refine wG_call c1 rfl rfl ?_ | refine wG_call c2 rfl rfl ?_ | refine wG_call c0 rfl rfl ?_ | (first
    | refine wC_a rfl ?_
    | refine q_s rfl ?_
    | refine q_b rfl ?_
    | refine wG_nil ?_
    | refine wG_g rfl ?_
    | refine wG_pure (o_len_vwm rfl) ?_
    | refine wG_pure (o_not_d rfl) ?_
    | refine wG_p rfl (by first | exact rfl | omega) ?_
    | refine wG_pure (o_not rfl) ?_
    | refine wG_pure (e_ia_vw0 rfl rfl (by omega) rfl) ?_
    | refine wG_pure (e_ia_vwp rfl rfl (by omega) rfl) ?_
    | refine wG_pure (e_ia_vwm rfl rfl (by omega) (by omega) rfl) ?_
    | refine wG_pure (e_ia_vwi rfl rfl (by omega) rfl) ?_
    | refine wG_pure (e_ia_vwn rfl rfl (by omega) (by omega) rfl) ?_
    | refine wG_n rfl rfl ?_
    | refine wG_u rfl rfl ?_
    | refine wG_new (o_mks rfl rfl (by omega) (by decide)) ?_))
        exact ret_d0 (.inr rfl) rfl (retV_ldt rfl rfl rfl rfl rfl) (retV_mv rfl)
    · rw [decide_eq_false hB] at c2
      obtain ⟨rfl, rfl, rfl⟩ := hend.2 (fun h => hB h.1.1.2)
      unfold dRow dNo at *
      repeat (first | refine wG_call c1 rfl rfl ?_ | refine wG_call c2 rfl rfl ?_ | (first
    | refine wC_a rfl ?_
    | refine q_s rfl ?_
    | refine q_b rfl ?_
    | refine wG_nil ?_
    | refine wG_g rfl ?_
    | refine wG_pure (o_len_vwm rfl) ?_
    | refine wG_pure (o_not_d rfl) ?_
    | refine wG_p rfl (by first | exact rfl | omega) ?_
    | refine wG_pure (o_not rfl) ?_
    | refine wG_pure (e_ia_vw0 rfl rfl (by omega) rfl) ?_
    | refine wG_pure (e_ia_vwp rfl rfl (by omega) rfl) ?_
    | refine wG_pure (e_ia_vwm rfl rfl (by omega) (by omega) rfl) ?_
    | refine wG_pure (e_ia_vwi rfl rfl (by omega) rfl) ?_
    | refine wG_pure (e_ia_vwn rfl rfl (by omega) (by omega) rfl) ?_
    | refine wG_n rfl rfl ?_
    | refine wG_u rfl rfl ?_
    | refine wG_new (o_mks rfl rfl (by omega) (by decide)) ?_))
      exact ret_d0 (.inr rfl) rfl (retV_ldt rfl rfl rfl rfl rfl) (retV_mv rfl)
  · rw [decide_eq_false hA] at c1
    obtain ⟨rfl, rfl, rfl⟩ := hend.2 (fun h => hA h.1.1.1)
    unfold dRow dNo at *
    repeat (first | refine wG_call c1 rfl rfl ?_ | (first
    | refine wC_a rfl ?_
    | refine q_s rfl ?_
    | refine q_b rfl ?_
    | refine wG_nil ?_
    | refine wG_g rfl ?_
    | refine wG_pure (o_len_vwm rfl) ?_
    | refine wG_pure (o_not_d rfl) ?_
    | refine wG_p rfl (by first | exact rfl | omega) ?_
    | refine wG_pure (o_not rfl) ?_
    | refine wG_pure (e_ia_vw0 rfl rfl (by omega) rfl) ?_
    | refine wG_pure (e_ia_vwp rfl rfl (by omega) rfl) ?_
    | refine wG_pure (e_ia_vwm rfl rfl (by omega) (by omega) rfl) ?_
    | refine wG_pure (e_ia_vwi rfl rfl (by omega) rfl) ?_
    | refine wG_pure (e_ia_vwn rfl rfl (by omega) (by omega) rfl) ?_
    | refine wG_n rfl rfl ?_
    | refine wG_u rfl rfl ?_
    | refine wG_new (o_mks rfl rfl (by omega) (by decide)) ?_))
    exact ret_d0 (.inr rfl) rfl (retV_ldt rfl rfl rfl rfl rfl) (retV_mv rfl)
end Go.Proofs.Ytdljklicegcbpaa.Dst
