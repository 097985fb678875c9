/- By how many years one date is later: both sides. -/
import Derived.Test.YtdljklicegcbpaaCmdA
import Derived.Test.YtdljklicegcbpaaDpaA
import Derived.Test.YtdljklicegcbpaaAb1
namespace Go.Proofs.Ytdljklicegcbpaa.Dst
open Go Go.Proofs.Ytdljklicegcbpaa.Ab Go.Proofs.Ytdljklicegcbpaa.Il
attribute [local irreducible] wpO wpC wpDr wpQ wpG wpE stepA seqQ blkQ Ret ev
set_option maxRecDepth 10000
set_option maxHeartbeats 8000000
set_option linter.unusedSimpArgs false
set_option linter.unusedVariables false
def ac42 : AC := (.seq (.reg [⟨(some 2), none, (.box 2 true (.t 0))⟩, ⟨(some 3), none, (.box 2 true (.t 1))⟩, ⟨(some 4), none, (.alloc [(.int .i64 0), .nilS])⟩, ⟨(some 5), none, (.mv (.c (.bool false)))⟩]) (.seq (.seq (.reg [⟨(some 12), none, (.ld true 2 (.t 2))⟩, ⟨(some 13), none, (.call 60 [(.t 12)])⟩, ⟨(some 14), none, (.un .not (.t 13))⟩, ⟨(some 15), none, (.mv (.t 14))⟩, ⟨(some 16), (some (15, false)), (.ld true 2 (.t 3))⟩, ⟨(some 17), (some (15, false)), (.call 60 [(.t 16)])⟩, ⟨(some 18), (some (15, false)), (.un .not (.t 17))⟩, ⟨(some 19), none, (.pick (.t 15) (.c (.bool true)) (.t 18))⟩]) (.cond (.t 19) (.seq (.reg [⟨(some 20), none, (.build [(.int .i64 0), .nilS] [])⟩, ⟨none, none, (.st 2 (.t 4) (.t 20))⟩, ⟨(some 5), none, (.mv (.c (.bool false)))⟩]) .ret) .skip)) (.seq (.dreg [⟨(some 21), none, (.fa 1 (.t 2))⟩, ⟨(some 22), none, (.ld false 1 (.t 21))⟩, ⟨(some 23), none, (.len (.t 22))⟩, ⟨(some 24), none, (.fa 1 (.t 3))⟩, ⟨(some 25), none, (.ld false 1 (.t 24))⟩, ⟨(some 26), none, (.len (.t 25))⟩, ⟨(some 6), none, (.mv (.t 23))⟩, ⟨(some 7), none, (.mv (.t 26))⟩] [[], [0], [0, 1], [], [3], [3, 4], [0, 1, 2], [0, 1, 2, 3, 4, 5, 6]]) (.seq (.reg [⟨(some 27), none, (.mv (.t 6))⟩, ⟨(some 28), none, (.mv (.t 7))⟩, ⟨(some 29), none, (.bin .add (.t 27) (.t 28))⟩, ⟨(some 30), none, (.bin .sub (.t 29) (.c (.int .i64 1)))⟩, ⟨(some 31), none, (.mks 1 8 [(.int .i64 0)] (.t 30) (.t 30))⟩, ⟨(some 8), none, (.mv (.t 31))⟩]) (.seq (.seq (.reg [⟨(some 9), none, (.mv (.c (.int .i64 0)))⟩]) (.blk 0 (.loop (.seq (.seq (.reg [⟨(some 32), none, (.mv (.t 9))⟩, ⟨(some 33), none, (.mv (.t 6))⟩, ⟨(some 34), none, (.bin .lss (.t 32) (.t 33))⟩]) (.cond (.t 34) .skip (.exit 0))) (.seq (.blk 1 (.seq (.reg [⟨(some 10), none, (.mv (.c (.int .i64 0)))⟩]) (.blk 2 (.loop (.seq (.seq (.reg [⟨(some 37), none, (.mv (.t 10))⟩, ⟨(some 38), none, (.mv (.t 7))⟩, ⟨(some 39), none, (.bin .lss (.t 37) (.t 38))⟩]) (.cond (.t 39) .skip (.exit 2))) (.seq (.blk 3 (.seq (.reg [⟨(some 42), none, (.mv (.t 10))⟩, ⟨(some 43), none, (.mv (.t 9))⟩, ⟨(some 44), none, (.bin .sub (.t 42) (.t 43))⟩, ⟨(some 45), none, (.mv (.t 6))⟩, ⟨(some 46), none, (.bin .add (.t 44) (.t 45))⟩, ⟨(some 47), none, (.bin .sub (.t 46) (.c (.int .i64 1)))⟩, ⟨(some 11), none, (.mv (.t 47))⟩]) (.dreg [⟨(some 48), none, (.mv (.t 8))⟩, ⟨(some 49), none, (.mv (.t 11))⟩, ⟨(some 50), none, (.mv (.t 8))⟩, ⟨(some 51), none, (.mv (.t 11))⟩, ⟨(some 52), none, (.ia 1 (.t 50) (.t 51))⟩, ⟨(some 53), none, (.ld false 1 (.t 52))⟩, ⟨(some 54), none, (.fa 1 (.t 2))⟩, ⟨(some 55), none, (.ld false 1 (.t 54))⟩, ⟨(some 56), none, (.mv (.t 9))⟩, ⟨(some 57), none, (.ia 1 (.t 55) (.t 56))⟩, ⟨(some 58), none, (.ld false 1 (.t 57))⟩, ⟨(some 59), none, (.fa 1 (.t 3))⟩, ⟨(some 60), none, (.ld false 1 (.t 59))⟩, ⟨(some 61), none, (.mv (.t 10))⟩, ⟨(some 62), none, (.ia 1 (.t 60) (.t 61))⟩, ⟨(some 63), none, (.ld false 1 (.t 62))⟩, ⟨(some 64), none, (.bin .mul (.t 58) (.t 63))⟩, ⟨(some 65), none, (.bin .add (.t 53) (.t 64))⟩, ⟨(some 66), none, (.ia 1 (.t 48) (.t 49))⟩, ⟨none, none, (.st 1 (.t 66) (.t 65))⟩] [[], [], [], [], [2, 3], [2, 3, 4], [], [6], [], [6, 7, 8], [6, 7, 8, 9], [], [11], [], [11, 12, 13], [11, 12, 13, 14], [6, 7, 8, 9, 10, 11, 12, 13, 14, 15], [2, 3, 4, 5, 6, 7, 8, 9, 10, 11, 12, 13, 14, 15, 16], [0, 1, 2, 3, 4, 5, 6, 7, 8, 9, 10, 11, 12, 13, 14, 15, 16, 17], [0, 1, 2, 3, 4, 5, 6, 7, 8, 9, 10, 11, 12, 13, 14, 15, 16, 17, 18]]))) (.reg [⟨(some 40), none, (.mv (.t 10))⟩, ⟨(some 41), none, (.bin .add (.t 40) (.c (.int .i64 1)))⟩, ⟨(some 10), none, (.mv (.t 41))⟩]))))))) (.reg [⟨(some 35), none, (.mv (.t 9))⟩, ⟨(some 36), none, (.bin .add (.t 35) (.c (.int .i64 1)))⟩, ⟨(some 9), none, (.mv (.t 36))⟩])))))) (.seq (.reg [⟨(some 67), none, (.fa 0 (.t 3))⟩, ⟨(some 68), none, (.ld false 1 (.t 67))⟩, ⟨(some 69), none, (.fa 0 (.t 2))⟩, ⟨(some 70), none, (.ld false 1 (.t 69))⟩, ⟨(some 71), none, (.bin .sub (.t 68) (.t 70))⟩, ⟨(some 72), none, (.mv (.t 6))⟩, ⟨(some 73), none, (.bin .sub (.t 71) (.t 72))⟩, ⟨(some 74), none, (.bin .add (.t 73) (.c (.int .i64 1)))⟩, ⟨(some 75), none, (.mv (.t 8))⟩, ⟨(some 76), none, (.call 82 [(.t 74), (.t 75)])⟩, ⟨(some 77), none, (.ext (.t 76) 0)⟩, ⟨(some 78), none, (.ext (.t 76) 1)⟩, ⟨none, none, (.st 2 (.t 4) (.t 77))⟩, ⟨(some 5), none, (.mv (.t 78))⟩]) .ret))))))
def ro42 : List AOp := [(.ld true 2 (.t 4)), (.mv (.t 5))]
theorem fun42 : Fun Try.prog 42 79 ac42 ro42 := ⟨Try.f42, _, Try.func42, by kernel_rfl, rfl, rfl, by kernel_rfl, by kernel_rfl, by decide⟩
def ac43 : AC := (.seq (.reg [⟨(some 2), none, (.box 2 true (.t 0))⟩, ⟨(some 3), none, (.box 2 true (.t 1))⟩, ⟨(some 4), none, (.alloc [(.int .i64 0), .nilS])⟩, ⟨(some 5), none, (.mv (.c (.bool false)))⟩]) (.seq (.seq (.reg [⟨(some 6), none, (.ld true 2 (.t 2))⟩, ⟨(some 7), none, (.call 19 [(.t 6)])⟩, ⟨(some 8), none, (.un .not (.t 7))⟩, ⟨(some 9), none, (.mv (.t 8))⟩, ⟨(some 10), (some (9, false)), (.ld true 2 (.t 3))⟩, ⟨(some 11), (some (9, false)), (.call 19 [(.t 10)])⟩, ⟨(some 12), (some (9, false)), (.un .not (.t 11))⟩, ⟨(some 13), none, (.pick (.t 9) (.c (.bool true)) (.t 12))⟩]) (.cond (.t 13) (.seq (.reg [⟨(some 14), none, (.build [(.int .i64 0), .nilS] [])⟩, ⟨none, none, (.st 2 (.t 4) (.t 14))⟩, ⟨(some 5), none, (.mv (.c (.bool false)))⟩]) .ret) .skip)) (.seq (.dreg [⟨(some 15), none, (.fa 0 (.t 3))⟩, ⟨(some 16), none, (.ld false 1 (.t 15))⟩, ⟨(some 17), none, (.ld true 2 (.t 2))⟩, ⟨(some 18), none, (.call 62 [(.t 17)])⟩, ⟨(some 19), none, (.bin .sub (.t 16) (.t 18))⟩, ⟨(some 20), none, (.ld true 2 (.t 3))⟩, ⟨(some 21), none, (.call 62 [(.t 20)])⟩, ⟨(some 22), none, (.fa 0 (.t 2))⟩, ⟨(some 23), none, (.ld false 1 (.t 22))⟩, ⟨(some 24), none, (.bin .sub (.t 21) (.t 23))⟩, ⟨(some 25), none, (.mkf 87 [(.t 2), (.t 3)])⟩, ⟨(some 26), none, (.call 85 [(.t 19), (.t 24), (.t 25)])⟩, ⟨(some 27), none, (.ext (.t 26) 0)⟩, ⟨(some 28), none, (.ext (.t 26) 1)⟩, ⟨none, none, (.st 2 (.t 4) (.t 27))⟩, ⟨(some 5), none, (.mv (.t 28))⟩] [[], [0], [], [2], [0, 1, 2, 3], [], [2, 3, 5], [], [7], [2, 3, 5, 6, 7, 8], [], [0, 1, 2, 3, 4, 5, 6, 7, 8, 9, 10], [0, 1, 2, 3, 4, 5, 6, 7, 8, 9, 10, 11], [0, 1, 2, 3, 4, 5, 6, 7, 8, 9, 10, 11], [0, 1, 2, 3, 4, 5, 6, 7, 8, 9, 10, 11, 12, 13], [0, 1, 2, 3, 4, 5, 6, 7, 8, 9, 10, 11, 12, 13, 14]]) .ret)))
def ro43 : List AOp := [(.ld true 2 (.t 4)), (.mv (.t 5))]
theorem fun43 : Fun Try.prog 43 29 ac43 ro43 := ⟨Try.f43, _, Try.func43, by kernel_rfl, rfl, rfl, by kernel_rfl, by kernel_rfl, by decide⟩
def ac87 : AC := (.seq (.reg [⟨(some 4), none, (.mv (.c (.int .i64 0)))⟩]) (.seq (.reg [⟨(some 5), none, (.mv (.c (.int .i64 0)))⟩]) (.seq (.seq (.reg [⟨(some 8), none, (.fa 1 (.t 1))⟩, ⟨(some 9), none, (.ld false 1 (.t 8))⟩, ⟨(some 10), none, (.len (.t 9))⟩, ⟨(some 11), none, (.mv (.c (.int .i64 0)))⟩]) (.blk 0 (.loop (.seq (.reg [⟨(some 12), none, (.bin .lss (.t 11) (.t 10))⟩]) (.seq (.cond (.t 12) .skip (.exit 0)) (.seq (.blk 1 (.seq (.reg [⟨(some 13), none, (.mv (.t 11))⟩, ⟨(some 14), none, (.ia 1 (.t 9) (.t 11))⟩, ⟨(some 15), none, (.ld false 1 (.t 14))⟩, ⟨(some 6), none, (.mv (.t 13))⟩, ⟨(some 7), none, (.mv (.t 15))⟩]) (.reg [⟨(some 16), none, (.mv (.t 5))⟩, ⟨(some 17), none, (.mv (.t 7))⟩, ⟨(some 18), none, (.ld true 2 (.t 2))⟩, ⟨(some 19), none, (.fa 0 (.t 1))⟩, ⟨(some 20), none, (.ld false 1 (.t 19))⟩, ⟨(some 21), none, (.mv (.t 6))⟩, ⟨(some 22), none, (.bin .add (.t 20) (.t 21))⟩, ⟨(some 23), none, (.mv (.t 0))⟩, ⟨(some 24), none, (.bin .add (.t 22) (.t 23))⟩, ⟨(some 25), none, (.call 70 [(.t 18), (.t 24)])⟩, ⟨(some 26), none, (.bin .mul (.t 17) (.t 25))⟩, ⟨(some 27), none, (.bin .add (.t 16) (.t 26))⟩, ⟨(some 5), none, (.mv (.t 27))⟩]))) (.reg [⟨(some 28), none, (.bin .add (.t 11) (.c (.int .i64 1)))⟩, ⟨(some 11), none, (.mv (.t 28))⟩]))))))) (.seq (.reg [⟨(some 29), none, (.mv (.t 5))⟩, ⟨(some 4), none, (.mv (.t 29))⟩]) .ret))))
def ro87 : List AOp := [(.mv (.t 4))]
theorem fun87 : Fun Try.prog 87 30 ac87 ro87 := ⟨Try.f87, _, Try.func87, by kernel_rfl, rfl, rfl, by kernel_rfl, by kernel_rfl, by decide⟩

/-- The sum of the products for the first elements, at a distance. -/
def ls (a b : Ds) (t : Int) : Nat → Int
  | 0 => 0
  | i + 1 => ls a b t i + a.ws.getD i default * atY b (a.f + (i : Int) + t)
theorem ls_b {a b : Ds} (ha : GoodD a) (hb : GoodD b) (t : Int) : ∀ i, i ≤ a.ws.length → 0 ≤ ls a b t i ∧ ls a b t i ≤ 1000000000000 * i
  | 0, _ => by simp [ls]
  | i + 1, h => by
    have h1 := ls_b ha hb t i (by omega)
    have h2 := mul_w (ha.bnd i (by omega)) (hb.at_b (a.f + (i : Int) + t))
    simp only [ls]
    omega
theorem ls_c {a b : Ds} (ha : GoodD a) (hb : GoodD b) (t : Int) {i : Nat} (h : i ≤ a.ws.length) : 0 ≤ ls a b t i ∧ ls a b t i ≤ 60000000000000 := by
  have := ls_b ha hb t i h
  have := ha.1.2
  omega
def laF (a b : Ds) : Int := b.f - (a.f + a.ws.length - 1)
def laN (a b : Ds) : Nat := a.ws.length + b.ws.length - 1
def laL (a b : Ds) : List Int := tab (laF a b) (fun t => ls a b t a.ws.length) (laN a b)
def laOK (a b : Ds) : Prop := (GoodD a ∧ GoodD b) ∧ mkOK (laF a b) (laL a b)

theorem con87 (nn mm : Bool) (a b : Ds) (ha : GoodD a) (hb : GoodD b) (t : Int) (ht1 : -1000000 ≤ t) (ht2 : t ≤ 1000000) : Con Try.prog 87 true [.int .i64 t, .vp (dRow nn a), .vp (dRow mm b)] (.int .i64 (ls a b t a.ws.length)) [] := by
  refine con_of_wp mixed fun87 (by simp) [] plain_nil ?_
  unfold ac87 ro87
  simp only [zipT]
  have h60 := ha.1
  have hf := ha.2.1
  have hls := fun i (h : i ≤ a.ws.length) => ls_c ha hb t h
  have hbw := fun i (h : i < a.ws.length) => ha.bnd i h
  have hat := fun y => hb.at_b y
  have c := fun y => con70 mm b hb y
  obtain ⟨f, ws⟩ := a
  unfold dRow at *
  simp only at *
  repeat (first
    | refine wC_a rfl ?_
    | refine q_s rfl ?_
    | refine q_b rfl ?_
    | refine wG_nil ?_
    | refine wG_g rfl ?_
    | refine wG_pure (o_len_vwm rfl) ?_
    | refine wG_pure (o_not_d rfl) ?_
    | refine wG_p rfl (by first | exact rfl | omega) ?_
    | refine wG_pure (o_not rfl) ?_
    | refine wG_pure (e_ia_vw0 rfl rfl (by omega) rfl) ?_
    | refine wG_pure (e_ia_vwp rfl rfl (by omega) rfl) ?_
    | refine wG_pure (e_ia_vwm rfl rfl (by omega) (by omega) rfl) ?_
    | refine wG_pure (e_ia_vwi rfl rfl (by omega) rfl) ?_
    | refine wG_pure (e_ia_vwn rfl rfl (by omega) (by omega) rfl) ?_
    | refine wG_n rfl rfl ?_
    | refine wG_u rfl rfl ?_
    | refine wG_new (o_mks rfl rfl (by omega) (by decide)) ?_)
  refine wC_loop Nat (fun i => ⟨[(0, .int .i64 t), (1, .vp [.int .i64 f, .vw nn (ws.map iRow)]), (2, .vp [.int .i64 b.f, .vw mm (b.ws.map iRow)]), (9, .vw nn (ws.map iRow)), (10, .int .i64 (ws.length : Int)), (11, .int .i64 (i : Int)), (5, .int .i64 (ls ⟨f, ws⟩ b t i))], [], 0⟩) (fun i => i ≤ ws.length) (fun i => ws.length - i) 0 (Nat.zero_le _) ?_ (fun _ _ => Nat.zero_le _) ?_
  · simp [LeP, leT, leH, lk, AV.ltr, ltrL, Ab.hg, upd, -List.getD_eq_getElem?_getD, -Int.default_eq_zero]
    rfl
  intro i hi
  have s0 := hls i hi
  repeat (first
    | refine wC_a rfl ?_
    | refine q_s rfl ?_
    | refine q_b rfl ?_
    | refine wG_nil ?_
    | refine wG_g rfl ?_
    | refine wG_pure (o_len_vwm rfl) ?_
    | refine wG_pure (o_not_d rfl) ?_
    | refine wG_p rfl (by first | exact rfl | omega) ?_
    | refine wG_pure (o_not rfl) ?_
    | refine wG_pure (e_ia_vw0 rfl rfl (by omega) rfl) ?_
    | refine wG_pure (e_ia_vwp rfl rfl (by omega) rfl) ?_
    | refine wG_pure (e_ia_vwm rfl rfl (by omega) (by omega) rfl) ?_
    | refine wG_pure (e_ia_vwi rfl rfl (by omega) rfl) ?_
    | refine wG_pure (e_ia_vwn rfl rfl (by omega) (by omega) rfl) ?_
    | refine wG_n rfl rfl ?_
    | refine wG_u rfl rfl ?_
    | refine wG_new (o_mks rfl rfl (by omega) (by decide)) ?_)
  refine wC_cond_d rfl (fun h2 => ?_) (fun h2 => ?_)
  · have hi2 : i < ws.length := by omega
    have s1 := hls (i + 1) hi2
    have es : ls ⟨f, ws⟩ b t (i + 1) = ls ⟨f, ws⟩ b t i + ws.getD i default * atY b (f + (i : Int) + t) := rfl
    rw [es] at s1
    have m1 := mul_w (hbw i hi2) (hat (f + (i : Int) + t))
    have ci := c (f + (i : Int) + t)
    repeat (first | refine wG_call ci rfl rfl ?_ | (first
    | refine wC_a rfl ?_
    | refine q_s rfl ?_
    | refine q_b rfl ?_
    | refine wG_nil ?_
    | refine wG_g rfl ?_
    | refine wG_pure (o_len_vwm rfl) ?_
    | refine wG_pure (o_not_d rfl) ?_
    | refine wG_p rfl (by first | exact rfl | omega) ?_
    | refine wG_pure (o_not rfl) ?_
    | refine wG_pure (e_ia_vw0 rfl rfl (by omega) rfl) ?_
    | refine wG_pure (e_ia_vwp rfl rfl (by omega) rfl) ?_
    | refine wG_pure (e_ia_vwm rfl rfl (by omega) (by omega) rfl) ?_
    | refine wG_pure (e_ia_vwi rfl rfl (by omega) rfl) ?_
    | refine wG_pure (e_ia_vwn rfl rfl (by omega) (by omega) rfl) ?_
    | refine wG_n rfl rfl ?_
    | refine wG_u rfl rfl ?_
    | refine wG_new (o_mks rfl rfl (by omega) (by decide)) ?_))
    refine ⟨i + 1, by omega, by omega, ?_⟩
    simp [LeP, leT, leH, lk, AV.ltr, ltrL, Ab.hg, upd, -List.getD_eq_getElem?_getD, -Int.default_eq_zero]
    rfl
  · have hi3 : i = ws.length := by omega
    subst hi3
    repeat (first
    | refine wC_a rfl ?_
    | refine q_s rfl ?_
    | refine q_b rfl ?_
    | refine wG_nil ?_
    | refine wG_g rfl ?_
    | refine wG_pure (o_len_vwm rfl) ?_
    | refine wG_pure (o_not_d rfl) ?_
    | refine wG_p rfl (by first | exact rfl | omega) ?_
    | refine wG_pure (o_not rfl) ?_
    | refine wG_pure (e_ia_vw0 rfl rfl (by omega) rfl) ?_
    | refine wG_pure (e_ia_vwp rfl rfl (by omega) rfl) ?_
    | refine wG_pure (e_ia_vwm rfl rfl (by omega) (by omega) rfl) ?_
    | refine wG_pure (e_ia_vwi rfl rfl (by omega) rfl) ?_
    | refine wG_pure (e_ia_vwn rfl rfl (by omega) (by omega) rfl) ?_
    | refine wG_n rfl rfl ?_
    | refine wG_u rfl rfl ?_
    | refine wG_new (o_mks rfl rfl (by omega) (by decide)) ?_)
    exact ret_intE (.inr rfl) ⟨_, retV_mv rfl, rfl⟩
theorem con43_all (nn mm : Bool) (a b : Ds) (h1 : a.ws.length ≤ 1048576) (h2 : b.ws.length ≤ 1048576) (v : AV) (rs : List Nat) (objs : List Ab.Rows) (hv : v.nvf = true) (hp : PlainObjs objs)
    (hend : (laOK a b → v = dYes (mkO (laF a b) (laL a b)) ∧ rs = [3] ∧ objs = [(mkO (laF a b) (laL a b)).ws.map iRow]) ∧ (¬ laOK a b → v = dNo ∧ rs = [] ∧ objs = [])) :
    Con Try.prog 43 true [.agg (dRow nn a), .agg (dRow mm b)] v objs := by
  classical
  suffices key : Con Try.prog 43 v.nvf [.agg (dRow nn a), .agg (dRow mm b)] v objs by rwa [hv] at key
  refine con_of_wp mixed fun43 (by simp) rs hp ?_
  unfold ac43 ro43
  simp only [zipT]
  have c1 := con19 nn a h1
  have c2 := con19 mm b h2
  by_cases hA : GoodD a
  · rw [decide_eq_true hA] at c1
    by_cases hB : GoodD b
    · rw [decide_eq_true hB] at c2
      have hf := hA.2.1
      have h60 := hA.1
      have hfb := hB.2.1
      have h6b := hB.1
      have c3 := con62 nn a h1 (by omega) (by omega)
      have c3b := con62 mm b h2 (by omega) (by omega)
      have hlf : laF a b = b.f - (a.f + a.ws.length - 1) := rfl
      have hN : nY (laF a b) (b.f + b.ws.length - 1 - a.f) = laN a b := by unfold nY laF laN; omega
      have hln : laN a b ≤ 200 := by unfold laN; omega
      have hcl : laL a b = tab (laF a b) (fun t => ls a b t a.ws.length) (laN a b) := rfl
      have ct := fun v rs objs hv hp hend => con85_all (laF a b) (b.f + b.ws.length - 1 - a.f) (by omega) (by omega) (by omega) (fun t => ls a b t a.ws.length) (fun y hy1 hy2 => con87 nn mm a b hA hB y (by omega) (by omega)) (fun _ _ => rfl) rfl (fun _ => rfl) (fun _ => rfl) (B := 60000000000000) (by decide) (fun i _ => ls_c hA hB _ (Nat.le_refl _)) v rs objs hv hp hend
      rw [hN, ← hcl] at ct
      by_cases hm : mkOK (laF a b) (laL a b)
      · obtain ⟨rfl, rfl, rfl⟩ := hend.1 ⟨⟨hA, hB⟩, hm⟩
        have c4 := ct (dYes (mkO (laF a b) (laL a b))) [2] [(mkO (laF a b) (laL a b)).ws.map iRow] rfl (plain_map iRow_plain _) ⟨fun _ => ⟨rfl, rfl, rfl⟩, fun h => absurd hm h⟩
        rw [hlf] at c4
        unfold dRow dYes at *
        repeat (first | refine wG_call c1 rfl rfl ?_ | refine wG_call c2 rfl rfl ?_ | refine wE_call c3 rfl rfl rfl ?_ | refine wE_call c3b rfl rfl rfl ?_ | refine wE_call1 c4 (ag_int rfl (ag_int rfl (ag_any rfl ag_nil))) rfl rfl ?_ | (first
    | refine wC_a rfl ?_
    | refine q_s rfl ?_
    | refine q_b rfl ?_
    | refine wG_nil ?_
    | refine wG_g rfl ?_
    | refine wG_pure (o_len_vwm rfl) ?_
    | refine wG_pure (o_not_d rfl) ?_
    | refine wG_p rfl (by first | exact rfl | omega) ?_
    | refine wG_pure (o_not rfl) ?_
    | refine wG_pure (e_ia_vw0 rfl rfl (by omega) rfl) ?_
    | refine wG_pure (e_ia_vwp rfl rfl (by omega) rfl) ?_
    | refine wG_pure (e_ia_vwm rfl rfl (by omega) (by omega) rfl) ?_
    | refine wG_pure (e_ia_vwi rfl rfl (by omega) rfl) ?_
    | refine wG_pure (e_ia_vwn rfl rfl (by omega) (by omega) rfl) ?_
    | refine wG_n rfl rfl ?_
    | refine wG_u rfl rfl ?_
    | refine wG_new (o_mks rfl rfl (by omega) (by decide)) ?_) | (first
    | refine wE_nil rfl ?_
    | refine wE_gy rfl ?_
    | refine wE_gn rfl rfl rfl ?_
    | refine wE_gu rfl rfl ?_
    | refine wE_gnn rfl rfl rfl ?_
    | refine wE_v (o_len_vwm rfl) rfl ?_
    | refine wE_v (o_not_d rfl) rfl ?_
    | refine wE_p rfl (by first | exact rfl | omega) rfl ?_
    | refine wE_v (o_not rfl) rfl ?_
    | refine wE_v (e_ia_vw0 rfl rfl (by omega) rfl) rfl ?_
    | refine wE_v (e_ia_vwp rfl rfl (by omega) rfl) rfl ?_
    | refine wE_v (e_ia_vwm rfl rfl (by omega) (by omega) rfl) rfl ?_
    | refine wE_v (e_ia_vwi rfl rfl (by omega) rfl) rfl ?_
    | refine wE_v (e_ia_vwn rfl rfl (by omega) (by omega) rfl) rfl ?_
    | refine wE_n rfl rfl rfl ?_
    | refine wE_u rfl rfl rfl ?_
    | refine wE_new (o_mks rfl rfl (by omega) (by decide)) rfl ?_))
        exact ret_db (.inr rfl) rfl (retV_ldt rfl rfl rfl rfl rfl) (retV_mv rfl) rfl
      · obtain ⟨rfl, rfl, rfl⟩ := hend.2 (fun h => hm h.2)
        have c4 := ct dNo [] [] rfl plain_nil ⟨fun h => absurd h hm, fun _ => ⟨rfl, rfl, rfl⟩⟩
        rw [hlf] at c4
        unfold dRow dNo at *
        repeat (first | refine wG_call c1 rfl rfl ?_ | refine wG_call c2 rfl rfl ?_ | refine wE_call c3 rfl rfl rfl ?_ | refine wE_call c3b rfl rfl rfl ?_ | refine wE_call c4 (ag_int rfl (ag_int rfl (ag_any rfl ag_nil))) rfl rfl ?_ | (first
    | refine wC_a rfl ?_
    | refine q_s rfl ?_
    | refine q_b rfl ?_
    | refine wG_nil ?_
    | refine wG_g rfl ?_
    | refine wG_pure (o_len_vwm rfl) ?_
    | refine wG_pure (o_not_d rfl) ?_
    | refine wG_p rfl (by first | exact rfl | omega) ?_
    | refine wG_pure (o_not rfl) ?_
    | refine wG_pure (e_ia_vw0 rfl rfl (by omega) rfl) ?_
    | refine wG_pure (e_ia_vwp rfl rfl (by omega) rfl) ?_
    | refine wG_pure (e_ia_vwm rfl rfl (by omega) (by omega) rfl) ?_
    | refine wG_pure (e_ia_vwi rfl rfl (by omega) rfl) ?_
    | refine wG_pure (e_ia_vwn rfl rfl (by omega) (by omega) rfl) ?_
    | refine wG_n rfl rfl ?_
    | refine wG_u rfl rfl ?_
    | refine wG_new (o_mks rfl rfl (by omega) (by decide)) ?_) | (first
    | refine wE_nil rfl ?_
    | refine wE_gy rfl ?_
    | refine wE_gn rfl rfl rfl ?_
    | refine wE_gu rfl rfl ?_
    | refine wE_gnn rfl rfl rfl ?_
    | refine wE_v (o_len_vwm rfl) rfl ?_
    | refine wE_v (o_not_d rfl) rfl ?_
    | refine wE_p rfl (by first | exact rfl | omega) rfl ?_
    | refine wE_v (o_not rfl) rfl ?_
    | refine wE_v (e_ia_vw0 rfl rfl (by omega) rfl) rfl ?_
    | refine wE_v (e_ia_vwp rfl rfl (by omega) rfl) rfl ?_
    | refine wE_v (e_ia_vwm rfl rfl (by omega) (by omega) rfl) rfl ?_
    | refine wE_v (e_ia_vwi rfl rfl (by omega) rfl) rfl ?_
    | refine wE_v (e_ia_vwn rfl rfl (by omega) (by omega) rfl) rfl ?_
    | refine wE_n rfl rfl rfl ?_
    | refine wE_u rfl rfl rfl ?_
    | refine wE_new (o_mks rfl rfl (by omega) (by decide)) rfl ?_))
        exact ret_d0 (.inr rfl) rfl (retV_ldt rfl rfl rfl rfl rfl) (retV_mv rfl)
    · rw [decide_eq_false hB] at c2
      obtain ⟨rfl, rfl, rfl⟩ := hend.2 (fun h => hB h.1.2)
      unfold dRow dNo at *
      repeat (first | refine wG_call c1 rfl rfl ?_ | refine wG_call c2 rfl rfl ?_ | (first
    | refine wC_a rfl ?_
    | refine q_s rfl ?_
    | refine q_b rfl ?_
    | refine wG_nil ?_
    | refine wG_g rfl ?_
    | refine wG_pure (o_len_vwm rfl) ?_
    | refine wG_pure (o_not_d rfl) ?_
    | refine wG_p rfl (by first | exact rfl | omega) ?_
    | refine wG_pure (o_not rfl) ?_
    | refine wG_pure (e_ia_vw0 rfl rfl (by omega) rfl) ?_
    | refine wG_pure (e_ia_vwp rfl rfl (by omega) rfl) ?_
    | refine wG_pure (e_ia_vwm rfl rfl (by omega) (by omega) rfl) ?_
    | refine wG_pure (e_ia_vwi rfl rfl (by omega) rfl) ?_
    | refine wG_pure (e_ia_vwn rfl rfl (by omega) (by omega) rfl) ?_
    | refine wG_n rfl rfl ?_
    | refine wG_u rfl rfl ?_
    | refine wG_new (o_mks rfl rfl (by omega) (by decide)) ?_))
      exact ret_d0 (.inr rfl) rfl (retV_ldt rfl rfl rfl rfl rfl) (retV_mv rfl)
  · rw [decide_eq_false hA] at c1
    obtain ⟨rfl, rfl, rfl⟩ := hend.2 (fun h => hA h.1.1)
    unfold dRow dNo at *
    repeat (first | refine wG_call c1 rfl rfl ?_ | (first
    | refine wC_a rfl ?_
    | refine q_s rfl ?_
    | refine q_b rfl ?_
    | refine wG_nil ?_
    | refine wG_g rfl ?_
    | refine wG_pure (o_len_vwm rfl) ?_
    | refine wG_pure (o_not_d rfl) ?_
    | refine wG_p rfl (by first | exact rfl | omega) ?_
    | refine wG_pure (o_not rfl) ?_
    | refine wG_pure (e_ia_vw0 rfl rfl (by omega) rfl) ?_
    | refine wG_pure (e_ia_vwp rfl rfl (by omega) rfl) ?_
    | refine wG_pure (e_ia_vwm rfl rfl (by omega) (by omega) rfl) ?_
    | refine wG_pure (e_ia_vwi rfl rfl (by omega) rfl) ?_
    | refine wG_pure (e_ia_vwn rfl rfl (by omega) (by omega) rfl) ?_
    | refine wG_n rfl rfl ?_
    | refine wG_u rfl rfl ?_
    | refine wG_new (o_mks rfl rfl (by omega) (by decide)) ?_))
    exact ret_d0 (.inr rfl) rfl (retV_ldt rfl rfl rfl rfl rfl) (retV_mv rfl)

/-! ### The weights, filled in product by product -/
def el (a b : Ds) (i k t : Nat) : Int := ls a b (laF a b + (t : Int)) i + (if a.ws.length ≤ t + i + 1 ∧ t + i + 1 < a.ws.length + k then a.ws.getD i default * b.ws.getD (t + i + 1 - a.ws.length) default else 0)
def gen (a b : Ds) (i k : Nat) : List Int := (List.range (laN a b)).map (el a b i k)
theorem gen_len (a b : Ds) (i k : Nat) : (gen a b i k).length = laN a b := by simp [gen]
theorem gen_get {a b : Ds} {i k t : Nat} (h : t < laN a b) : ((gen a b i k).map iRow)[t]? = some (iRow (el a b i k t)) := by simp [gen, h]
theorem el_at (a b : Ds) {i k t : Nat} (hk : t + i + 1 = a.ws.length + k) : el a b i (k + 1) t = el a b i k t + a.ws.getD i default * b.ws.getD k default := by
  unfold el
  rw [if_pos (by omega), if_neg (by omega), show t + i + 1 - a.ws.length = k by omega]
  omega
theorem el_ne (a b : Ds) {i k t : Nat} (hk : t + i + 1 ≠ a.ws.length + k) : el a b i (k + 1) t = el a b i k t := by
  unfold el
  by_cases h : a.ws.length ≤ t + i + 1 ∧ t + i + 1 < a.ws.length + k
  · rw [if_pos h, if_pos (by omega)]
  · rw [if_neg h, if_neg (by omega)]
theorem gen_set {a b : Ds} {i k t : Nat} (hk : t + i + 1 = a.ws.length + k) : (gen a b i k).set t (el a b i k t + a.ws.getD i default * b.ws.getD k default) = gen a b i (k + 1) := by
  refine List.ext_getElem (by simp [gen]) fun j h1 h2 => ?_
  rw [List.getElem_set]
  split
  · rename_i e; subst e
    simp only [gen, List.getElem_map, List.getElem_range]
    rw [el_at a b hk]
  · rename_i e
    simp only [gen, List.getElem_map, List.getElem_range]
    rw [el_ne a b (by omega)]
theorem el_row (a b : Ds) {i t : Nat} (hi : i < a.ws.length) : el a b i b.ws.length t = el a b (i + 1) 0 t := by
  unfold el
  simp only [ls]
  rw [if_neg (show ¬ (a.ws.length ≤ t + (i + 1) + 1 ∧ t + (i + 1) + 1 < a.ws.length + 0) by omega)]
  have hq : a.f + (i : Int) + (laF a b + (t : Int)) = b.f + ((t : Int) + i + 1 - a.ws.length) := by unfold laF; omega
  rw [hq]
  by_cases h : a.ws.length ≤ t + i + 1 ∧ t + i + 1 < a.ws.length + b.ws.length
  · rw [if_pos h]
    have : ((t : Int) + i + 1 - a.ws.length) = ((t + i + 1 - a.ws.length : Nat) : Int) := by omega
    rw [this, show atY b (b.f + ((t + i + 1 - a.ws.length : Nat) : Int)) = b.ws.getD (t + i + 1 - a.ws.length) default from atY_i (f := b.f) (ws := b.ws) (by omega)]
    omega
  · rw [if_neg h]
    have : atY b (b.f + ((t : Int) + i + 1 - a.ws.length)) = 0 := (atY_no (f := b.f) (ws := b.ws) (by omega)).symm
    rw [this]
    simp
theorem gen_row (a b : Ds) {i : Nat} (hi : i < a.ws.length) : gen a b i b.ws.length = gen a b (i + 1) 0 := by
  unfold gen
  refine List.map_congr_left fun t _ => el_row a b hi
theorem gen_zero (a b : Ds) : gen a b 0 0 = List.replicate (laN a b) 0 := by
  refine List.ext_getElem (by simp [gen]) fun j h1 h2 => ?_
  simp only [gen, List.getElem_map, List.getElem_range, List.getElem_replicate]
  unfold el
  rw [if_neg (by omega)]
  simp [ls]
theorem gen_end (a b : Ds) : gen a b a.ws.length 0 = laL a b := by
  refine List.ext_getElem (by simp [gen, laL, tab_len]) fun j h1 h2 => ?_
  have hj : j < laN a b := by simpa [gen] using h1
  have := tab_get (laF a b) (fun t => ls a b t a.ws.length) (laN a b) hj
  have h3 : j < (tab (laF a b) (fun t => ls a b t a.ws.length) (laN a b)).length := by rw [tab_len]; exact hj
  rw [List.getD_eq_getElem?_getD, List.getElem?_eq_getElem h3] at this
  simp only [Option.getD_some] at this
  show _ = (tab (laF a b) (fun t => ls a b t a.ws.length) (laN a b))[j]
  rw [this]
  simp only [gen, List.getElem_map, List.getElem_range]
  unfold el
  rw [if_neg (by omega)]
  omega
theorem el_b {a b : Ds} (ha : GoodD a) (hb : GoodD b) {i k t : Nat} (hi : i < a.ws.length) (hk : k ≤ b.ws.length) : 0 ≤ el a b i k t ∧ el a b i k t ≤ 70000000000000 := by
  have h1 := ls_c ha hb (laF a b + (t : Int)) (i := i) (by omega)
  unfold el
  split
  · rename_i h
    have := mul_w (ha.bnd i hi) (hb.bnd (t + i + 1 - a.ws.length) (by omega))
    omega
  · omega
end Go.Proofs.Ytdljklicegcbpaa.Dst
