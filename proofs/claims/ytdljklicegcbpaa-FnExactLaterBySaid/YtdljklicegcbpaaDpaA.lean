/- Sums over pairs of years: what they are, and what the implementation's function gives. -/
import Derived.Test.YtdljklicegcbpaaDwaA
import Derived.Test.YtdljklicegcbpaaAb1
namespace Go.Proofs.Ytdljklicegcbpaa.Dst
open Go Go.Proofs.Ytdljklicegcbpaa.Ab Go.Proofs.Ytdljklicegcbpaa.Il
attribute [local irreducible] wpO wpC wpDr wpQ wpG wpE stepA seqQ blkQ Ret ev
set_option maxRecDepth 10000
set_option maxHeartbeats 4000000
set_option linter.unusedSimpArgs false
set_option linter.unusedVariables false
def ac72 : AC := (.seq (.reg [⟨(some 3), none, (.box 2 true (.t 0))⟩, ⟨(some 4), none, (.box 2 true (.t 1))⟩, ⟨(some 6), none, (.mv (.c (.int .i64 0)))⟩]) (.seq (.reg [⟨(some 7), none, (.mv (.c (.int .i64 0)))⟩]) (.seq (.seq (.reg [⟨(some 12), none, (.fa 1 (.t 3))⟩, ⟨(some 13), none, (.ld false 1 (.t 12))⟩, ⟨(some 14), none, (.len (.t 13))⟩, ⟨(some 15), none, (.mv (.c (.int .i64 0)))⟩]) (.blk 0 (.loop (.seq (.reg [⟨(some 16), none, (.bin .lss (.t 15) (.t 14))⟩]) (.seq (.cond (.t 16) .skip (.exit 0)) (.seq (.blk 1 (.seq (.reg [⟨(some 17), none, (.mv (.t 15))⟩, ⟨(some 18), none, (.ia 1 (.t 13) (.t 15))⟩, ⟨(some 19), none, (.ld false 1 (.t 18))⟩, ⟨(some 8), none, (.mv (.t 17))⟩, ⟨(some 9), none, (.mv (.t 19))⟩]) (.seq (.reg [⟨(some 20), none, (.fa 1 (.t 4))⟩, ⟨(some 21), none, (.ld false 1 (.t 20))⟩, ⟨(some 22), none, (.len (.t 21))⟩, ⟨(some 23), none, (.mv (.c (.int .i64 0)))⟩]) (.blk 2 (.loop (.seq (.reg [⟨(some 24), none, (.bin .lss (.t 23) (.t 22))⟩]) (.seq (.cond (.t 24) .skip (.exit 2)) (.seq (.blk 3 (.seq (.reg [⟨(some 25), none, (.mv (.t 23))⟩, ⟨(some 26), none, (.ia 1 (.t 21) (.t 23))⟩, ⟨(some 27), none, (.ld false 1 (.t 26))⟩, ⟨(some 10), none, (.mv (.t 25))⟩, ⟨(some 11), none, (.mv (.t 27))⟩]) (.seq (.reg [⟨(some 28), none, (.mv (.t 2))⟩, ⟨(some 29), none, (.fa 0 (.t 3))⟩, ⟨(some 30), none, (.ld false 1 (.t 29))⟩, ⟨(some 31), none, (.mv (.t 8))⟩, ⟨(some 32), none, (.bin .add (.t 30) (.t 31))⟩, ⟨(some 33), none, (.fa 0 (.t 4))⟩, ⟨(some 34), none, (.ld false 1 (.t 33))⟩, ⟨(some 35), none, (.mv (.t 10))⟩, ⟨(some 36), none, (.bin .add (.t 34) (.t 35))⟩, ⟨(some 37), none, (.callv (.t 28) [(.t 32), (.t 36)])⟩]) (.cond (.t 37) (.reg [⟨(some 38), none, (.mv (.t 7))⟩, ⟨(some 39), none, (.mv (.t 9))⟩, ⟨(some 40), none, (.mv (.t 11))⟩, ⟨(some 41), none, (.bin .mul (.t 39) (.t 40))⟩, ⟨(some 42), none, (.bin .add (.t 38) (.t 41))⟩, ⟨(some 7), none, (.mv (.t 42))⟩]) .skip)))) (.reg [⟨(some 43), none, (.bin .add (.t 23) (.c (.int .i64 1)))⟩, ⟨(some 23), none, (.mv (.t 43))⟩]))))))))) (.reg [⟨(some 44), none, (.bin .add (.t 15) (.c (.int .i64 1)))⟩, ⟨(some 15), none, (.mv (.t 44))⟩]))))))) (.seq (.reg [⟨(some 45), none, (.mv (.t 7))⟩, ⟨(some 6), none, (.mv (.t 45))⟩]) .ret))))
def ro72 : List AOp := [(.mv (.t 6))]
theorem fun72 : Fun Try.prog 72 46 ac72 ro72 := ⟨Try.f72, _, Try.func72, by kernel_rfl, rfl, rfl, by kernel_rfl, by kernel_rfl, by decide⟩
def ac73 : AC := (.seq (.reg [⟨(some 4), none, (.mv (.c (.bool false)))⟩]) (.seq (.reg [⟨(some 5), none, (.mv (.t 0))⟩, ⟨(some 6), none, (.mv (.t 1))⟩, ⟨(some 7), none, (.bin .lss (.t 5) (.t 6))⟩, ⟨(some 4), none, (.mv (.t 7))⟩]) .ret))
def ro73 : List AOp := [(.mv (.t 4))]
theorem fun73 : Fun Try.prog 73 8 ac73 ro73 := ⟨Try.f73, _, Try.func73, by kernel_rfl, rfl, rfl, by kernel_rfl, by kernel_rfl, by decide⟩
def ac74 : AC := (.seq (.reg [⟨(some 4), none, (.mv (.c (.bool false)))⟩]) (.seq (.reg [⟨(some 5), none, (.mv (.t 0))⟩, ⟨(some 6), none, (.mv (.t 1))⟩, ⟨(some 7), none, (.bin .leq (.t 5) (.t 6))⟩, ⟨(some 4), none, (.mv (.t 7))⟩]) .ret))
def ro74 : List AOp := [(.mv (.t 4))]
theorem fun74 : Fun Try.prog 74 8 ac74 ro74 := ⟨Try.f74, _, Try.func74, by kernel_rfl, rfl, rfl, by kernel_rfl, by kernel_rfl, by decide⟩
def ac78 : AC := (.seq (.reg [⟨(some 4), none, (.mv (.c (.bool false)))⟩]) (.seq (.reg [⟨(some 5), none, (.mv (.t 0))⟩, ⟨(some 6), none, (.mv (.t 1))⟩, ⟨(some 7), none, (.bin .lss (.t 5) (.t 6))⟩, ⟨(some 4), none, (.mv (.t 7))⟩]) .ret))
def ro78 : List AOp := [(.mv (.t 4))]
theorem fun78 : Fun Try.prog 78 8 ac78 ro78 := ⟨Try.f78, _, Try.func78, by kernel_rfl, rfl, rfl, by kernel_rfl, by kernel_rfl, by decide⟩

def pr (p : Int → Int → Bool) (a b : Ds) (i k : Nat) : Int := if p (a.f + i) (b.f + k) = true then a.ws.getD i default * b.ws.getD k default else 0
def rs (p : Int → Int → Bool) (a b : Ds) (i : Nat) : Nat → Int
  | 0 => 0
  | k + 1 => rs p a b i k + pr p a b i k
def ps (p : Int → Int → Bool) (a b : Ds) : Nat → Int
  | 0 => 0
  | i + 1 => ps p a b i + rs p a b i b.ws.length
def pairs (p : Int → Int → Bool) (a b : Ds) : Int := ps p a b a.ws.length
theorem pr_yes {p : Int → Int → Bool} {a b : Ds} {i k : Nat} (h : p (a.f + i) (b.f + k) = true) : pr p a b i k = a.ws.getD i default * b.ws.getD k default := if_pos h
theorem pr_no {p : Int → Int → Bool} {a b : Ds} {i k : Nat} (h : p (a.f + i) (b.f + k) = false) : pr p a b i k = 0 := if_neg (by rw [h]; decide)
theorem mul_w {x y : Int} (hx : 0 ≤ x ∧ x ≤ 1000000) (hy : 0 ≤ y ∧ y ≤ 1000000) : 0 ≤ x * y ∧ x * y ≤ 1000000000000 :=
  ⟨Int.mul_nonneg hx.1 hy.1, Int.le_trans (Int.mul_le_mul hx.2 hy.2 hy.1 (by decide)) (by decide)⟩
theorem pr_b {p : Int → Int → Bool} {a b : Ds} (ha : GoodD a) (hb : GoodD b) {i k : Nat} (hi : i < a.ws.length) (hk : k < b.ws.length) : 0 ≤ pr p a b i k ∧ pr p a b i k ≤ 1000000000000 := by
  unfold pr
  split
  · exact mul_w (ha.bnd i hi) (hb.bnd k hk)
  · decide
theorem rs_b {p : Int → Int → Bool} {a b : Ds} (ha : GoodD a) (hb : GoodD b) {i : Nat} (hi : i < a.ws.length) : ∀ k, k ≤ b.ws.length → 0 ≤ rs p a b i k ∧ rs p a b i k ≤ 1000000000000 * k
  | 0, _ => by simp [rs]
  | k + 1, h => by
    have h1 := rs_b (p := p) ha hb hi k (by omega)
    have h2 := pr_b (p := p) ha hb hi (show k < b.ws.length by omega)
    simp only [rs]
    omega
theorem ps_b {p : Int → Int → Bool} {a b : Ds} (ha : GoodD a) (hb : GoodD b) : ∀ i, i ≤ a.ws.length → 0 ≤ ps p a b i ∧ ps p a b i ≤ 60000000000000 * i
  | 0, _ => by simp [ps]
  | i + 1, h => by
    have h1 := ps_b (p := p) ha hb i (by omega)
    have h2 := rs_b (p := p) ha hb (show i < a.ws.length by omega) b.ws.length (Nat.le_refl _)
    have h3 := hb.1.2
    simp only [ps]
    omega
def ltB (x y : Int) : Bool := decide (x < y)
def leB (x y : Int) : Bool := decide (x ≤ y)
theorem con73 (x y : Int) : Con Try.prog 73 true [.int .i64 x, .int .i64 y] (.bool (ltB x y)) [] := by
  refine con_of_wp mixed fun73 (by simp) [] plain_nil ?_
  unfold ac73 ro73
  simp only [zipT]
  repeat (first
    | refine wC_a rfl ?_
    | refine q_s rfl ?_
    | refine q_b rfl ?_
    | refine wG_nil ?_
    | refine wG_g rfl ?_
    | refine wG_pure (o_len_vwm rfl) ?_
    | refine wG_pure (o_not_d rfl) ?_
    | refine wG_p rfl (by first | exact rfl | omega) ?_
    | refine wG_pure (o_not rfl) ?_
    | refine wG_pure (e_ia_vw0 rfl rfl (by omega) rfl) ?_
    | refine wG_pure (e_ia_vwp rfl rfl (by omega) rfl) ?_
    | refine wG_pure (e_ia_vwm rfl rfl (by omega) (by omega) rfl) ?_
    | refine wG_pure (e_ia_vwi rfl rfl (by omega) rfl) ?_
    | refine wG_pure (e_ia_vwn rfl rfl (by omega) (by omega) rfl) ?_
    | refine wG_n rfl rfl ?_
    | refine wG_u rfl rfl ?_
    | refine wG_new (o_mks rfl rfl (by omega) (by decide)) ?_)
  exact ret_boolE (.inr rfl) ⟨_, retV_mv rfl, rfl⟩
theorem con74 (x y : Int) : Con Try.prog 74 true [.int .i64 x, .int .i64 y] (.bool (leB x y)) [] := by
  refine con_of_wp mixed fun74 (by simp) [] plain_nil ?_
  unfold ac74 ro74
  simp only [zipT]
  repeat (first
    | refine wC_a rfl ?_
    | refine q_s rfl ?_
    | refine q_b rfl ?_
    | refine wG_nil ?_
    | refine wG_g rfl ?_
    | refine wG_pure (o_len_vwm rfl) ?_
    | refine wG_pure (o_not_d rfl) ?_
    | refine wG_p rfl (by first | exact rfl | omega) ?_
    | refine wG_pure (o_not rfl) ?_
    | refine wG_pure (e_ia_vw0 rfl rfl (by omega) rfl) ?_
    | refine wG_pure (e_ia_vwp rfl rfl (by omega) rfl) ?_
    | refine wG_pure (e_ia_vwm rfl rfl (by omega) (by omega) rfl) ?_
    | refine wG_pure (e_ia_vwi rfl rfl (by omega) rfl) ?_
    | refine wG_pure (e_ia_vwn rfl rfl (by omega) (by omega) rfl) ?_
    | refine wG_n rfl rfl ?_
    | refine wG_u rfl rfl ?_
    | refine wG_new (o_mks rfl rfl (by omega) (by decide)) ?_)
  exact ret_boolE (.inr rfl) ⟨_, retV_mv rfl, rfl⟩
theorem con78 (x y : Int) : Con Try.prog 78 true [.int .i64 x, .int .i64 y] (.bool (ltB x y)) [] := by
  refine con_of_wp mixed fun78 (by simp) [] plain_nil ?_
  unfold ac78 ro78
  simp only [zipT]
  repeat (first
    | refine wC_a rfl ?_
    | refine q_s rfl ?_
    | refine q_b rfl ?_
    | refine wG_nil ?_
    | refine wG_g rfl ?_
    | refine wG_pure (o_len_vwm rfl) ?_
    | refine wG_pure (o_not_d rfl) ?_
    | refine wG_p rfl (by first | exact rfl | omega) ?_
    | refine wG_pure (o_not rfl) ?_
    | refine wG_pure (e_ia_vw0 rfl rfl (by omega) rfl) ?_
    | refine wG_pure (e_ia_vwp rfl rfl (by omega) rfl) ?_
    | refine wG_pure (e_ia_vwm rfl rfl (by omega) (by omega) rfl) ?_
    | refine wG_pure (e_ia_vwi rfl rfl (by omega) rfl) ?_
    | refine wG_pure (e_ia_vwn rfl rfl (by omega) (by omega) rfl) ?_
    | refine wG_n rfl rfl ?_
    | refine wG_u rfl rfl ?_
    | refine wG_new (o_mks rfl rfl (by omega) (by decide)) ?_)
  exact ret_boolE (.inr rfl) ⟨_, retV_mv rfl, rfl⟩
theorem con72 (nn mm : Bool) (a b : Ds) (ha : GoodD a) (hb : GoodD b) {f : Nat} (p : Int → Int → Bool) (hf : ∀ x y, Con Try.prog f true [.int .i64 x, .int .i64 y] (.bool (p x y)) []) : Con Try.prog 72 true [.agg (dRow nn a), .agg (dRow mm b), .fn f []] (.int .i64 (pairs p a b)) [] := by
  obtain ⟨fa, wa⟩ := a
  obtain ⟨fb, wb⟩ := b
  have hA := ha
  have hB := hb
  have la := ha.1
  have lb := hb.1
  have ya := ha.2.1
  have yb := hb.2.1
  simp only at la lb ya yb
  refine con_of_wp mixed fun72 (by simp) [] plain_nil ?_
  unfold ac72 ro72 dRow
  simp only [zipT]
  repeat (first
    | refine wC_a rfl ?_
    | refine q_s rfl ?_
    | refine q_b rfl ?_
    | refine wG_nil ?_
    | refine wG_g rfl ?_
    | refine wG_pure (o_len_vwm rfl) ?_
    | refine wG_pure (o_not_d rfl) ?_
    | refine wG_p rfl (by first | exact rfl | omega) ?_
    | refine wG_pure (o_not rfl) ?_
    | refine wG_pure (e_ia_vw0 rfl rfl (by omega) rfl) ?_
    | refine wG_pure (e_ia_vwp rfl rfl (by omega) rfl) ?_
    | refine wG_pure (e_ia_vwm rfl rfl (by omega) (by omega) rfl) ?_
    | refine wG_pure (e_ia_vwi rfl rfl (by omega) rfl) ?_
    | refine wG_pure (e_ia_vwn rfl rfl (by omega) (by omega) rfl) ?_
    | refine wG_n rfl rfl ?_
    | refine wG_u rfl rfl ?_
    | refine wG_new (o_mks rfl rfl (by omega) (by decide)) ?_)
  refine wC_loop Nat (fun i => ⟨[(2, .fn f []), (3, .pt 0 0 0), (4, .pt 1 0 0), (13, .vw nn (wa.map iRow)), (14, .int .i64 (wa.length : Int)), (15, .int .i64 (i : Int)), (7, .int .i64 (ps p ⟨fa, wa⟩ ⟨fb, wb⟩ i))], [(1, some [[.int .i64 fb, .vw mm (wb.map iRow)]]), (0, some [[.int .i64 fa, .vw nn (wa.map iRow)]])], 2⟩) (fun i => i ≤ wa.length) (fun i => wa.length - i) 0 (Nat.zero_le _) ?_ (fun _ _ => Nat.zero_le _) ?_
  · simp [LeP, leT, leH, lk, AV.ltr, ltrL, Ab.hg, upd, -List.getD_eq_getElem?_getD, -Int.default_eq_zero]
    rfl
  intro i hi
  have sb := ps_b (p := p) hA hB i hi
  repeat (first
    | refine wC_a rfl ?_
    | refine q_s rfl ?_
    | refine q_b rfl ?_
    | refine wG_nil ?_
    | refine wG_g rfl ?_
    | refine wG_pure (o_len_vwm rfl) ?_
    | refine wG_pure (o_not_d rfl) ?_
    | refine wG_p rfl (by first | exact rfl | omega) ?_
    | refine wG_pure (o_not rfl) ?_
    | refine wG_pure (e_ia_vw0 rfl rfl (by omega) rfl) ?_
    | refine wG_pure (e_ia_vwp rfl rfl (by omega) rfl) ?_
    | refine wG_pure (e_ia_vwm rfl rfl (by omega) (by omega) rfl) ?_
    | refine wG_pure (e_ia_vwi rfl rfl (by omega) rfl) ?_
    | refine wG_pure (e_ia_vwn rfl rfl (by omega) (by omega) rfl) ?_
    | refine wG_n rfl rfl ?_
    | refine wG_u rfl rfl ?_
    | refine wG_new (o_mks rfl rfl (by omega) (by decide)) ?_)
  refine wC_cond_d rfl (fun h2 => ?_) (fun h2 => ?_)
  · have hi2 : i < wa.length := by omega
    repeat (first
    | refine wC_a rfl ?_
    | refine q_s rfl ?_
    | refine q_b rfl ?_
    | refine wG_nil ?_
    | refine wG_g rfl ?_
    | refine wG_pure (o_len_vwm rfl) ?_
    | refine wG_pure (o_not_d rfl) ?_
    | refine wG_p rfl (by first | exact rfl | omega) ?_
    | refine wG_pure (o_not rfl) ?_
    | refine wG_pure (e_ia_vw0 rfl rfl (by omega) rfl) ?_
    | refine wG_pure (e_ia_vwp rfl rfl (by omega) rfl) ?_
    | refine wG_pure (e_ia_vwm rfl rfl (by omega) (by omega) rfl) ?_
    | refine wG_pure (e_ia_vwi rfl rfl (by omega) rfl) ?_
    | refine wG_pure (e_ia_vwn rfl rfl (by omega) (by omega) rfl) ?_
    | refine wG_n rfl rfl ?_
    | refine wG_u rfl rfl ?_
    | refine wG_new (o_mks rfl rfl (by omega) (by decide)) ?_)
    refine wC_loop Nat (fun k => ⟨[(8, .int .i64 (i : Int)), (9, .int .i64 (wa.getD i default)), (21, .vw mm (wb.map iRow)), (22, .int .i64 (wb.length : Int)), (23, .int .i64 (k : Int)), (2, .fn f []), (3, .pt 0 0 0), (4, .pt 1 0 0), (13, .vw nn (wa.map iRow)), (14, .int .i64 (wa.length : Int)), (15, .int .i64 (i : Int)), (7, .int .i64 (ps p ⟨fa, wa⟩ ⟨fb, wb⟩ i + rs p ⟨fa, wa⟩ ⟨fb, wb⟩ i k))], [(1, some [[.int .i64 fb, .vw mm (wb.map iRow)]]), (0, some [[.int .i64 fa, .vw nn (wa.map iRow)]])], 2⟩) (fun k => k ≤ wb.length) (fun k => wb.length - k) 0 (Nat.zero_le _) ?_ (fun _ _ => Nat.zero_le _) ?_
    · simp [LeP, leT, leH, lk, AV.ltr, ltrL, Ab.hg, upd, -List.getD_eq_getElem?_getD, -Int.default_eq_zero]
      simp [rs]
    intro k hk
    have rb := rs_b (p := p) hA hB (i := i) hi2 k hk
    repeat (first
    | refine wC_a rfl ?_
    | refine q_s rfl ?_
    | refine q_b rfl ?_
    | refine wG_nil ?_
    | refine wG_g rfl ?_
    | refine wG_pure (o_len_vwm rfl) ?_
    | refine wG_pure (o_not_d rfl) ?_
    | refine wG_p rfl (by first | exact rfl | omega) ?_
    | refine wG_pure (o_not rfl) ?_
    | refine wG_pure (e_ia_vw0 rfl rfl (by omega) rfl) ?_
    | refine wG_pure (e_ia_vwp rfl rfl (by omega) rfl) ?_
    | refine wG_pure (e_ia_vwm rfl rfl (by omega) (by omega) rfl) ?_
    | refine wG_pure (e_ia_vwi rfl rfl (by omega) rfl) ?_
    | refine wG_pure (e_ia_vwn rfl rfl (by omega) (by omega) rfl) ?_
    | refine wG_n rfl rfl ?_
    | refine wG_u rfl rfl ?_
    | refine wG_new (o_mks rfl rfl (by omega) (by decide)) ?_)
    refine wC_cond_d rfl (fun h3 => ?_) (fun h3 => ?_)
    · have hk2 : k < wb.length := by omega
      have wab := ha.bnd i hi2
      have wbb := hb.bnd k hk2
      simp only at wab wbb
      have mb := mul_w wab wbb
      have c := hf (fa + (i : Int)) (fb + (k : Int))
      cases hp : p (fa + (i : Int)) (fb + (k : Int)) with
      | true =>
        rw [hp] at c
        have e := pr_yes (p := p) (a := ⟨fa, wa⟩) (b := ⟨fb, wb⟩) (i := i) (k := k) hp
        simp only at e
        repeat (first | refine wG_callv rfl c rfl rfl ?_ | (first
    | refine wC_a rfl ?_
    | refine q_s rfl ?_
    | refine q_b rfl ?_
    | refine wG_nil ?_
    | refine wG_g rfl ?_
    | refine wG_pure (o_len_vwm rfl) ?_
    | refine wG_pure (o_not_d rfl) ?_
    | refine wG_p rfl (by first | exact rfl | omega) ?_
    | refine wG_pure (o_not rfl) ?_
    | refine wG_pure (e_ia_vw0 rfl rfl (by omega) rfl) ?_
    | refine wG_pure (e_ia_vwp rfl rfl (by omega) rfl) ?_
    | refine wG_pure (e_ia_vwm rfl rfl (by omega) (by omega) rfl) ?_
    | refine wG_pure (e_ia_vwi rfl rfl (by omega) rfl) ?_
    | refine wG_pure (e_ia_vwn rfl rfl (by omega) (by omega) rfl) ?_
    | refine wG_n rfl rfl ?_
    | refine wG_u rfl rfl ?_
    | refine wG_new (o_mks rfl rfl (by omega) (by decide)) ?_))
        refine ⟨k + 1, by omega, by omega, ?_⟩
        simp [LeP, leT, leH, lk, AV.ltr, ltrL, Ab.hg, upd, -List.getD_eq_getElem?_getD, -Int.default_eq_zero]
        simp [rs, e]; omega
      | false =>
        rw [hp] at c
        have e := pr_no (p := p) (a := ⟨fa, wa⟩) (b := ⟨fb, wb⟩) (i := i) (k := k) hp
        repeat (first | refine wG_callv rfl c rfl rfl ?_ | (first
    | refine wC_a rfl ?_
    | refine q_s rfl ?_
    | refine q_b rfl ?_
    | refine wG_nil ?_
    | refine wG_g rfl ?_
    | refine wG_pure (o_len_vwm rfl) ?_
    | refine wG_pure (o_not_d rfl) ?_
    | refine wG_p rfl (by first | exact rfl | omega) ?_
    | refine wG_pure (o_not rfl) ?_
    | refine wG_pure (e_ia_vw0 rfl rfl (by omega) rfl) ?_
    | refine wG_pure (e_ia_vwp rfl rfl (by omega) rfl) ?_
    | refine wG_pure (e_ia_vwm rfl rfl (by omega) (by omega) rfl) ?_
    | refine wG_pure (e_ia_vwi rfl rfl (by omega) rfl) ?_
    | refine wG_pure (e_ia_vwn rfl rfl (by omega) (by omega) rfl) ?_
    | refine wG_n rfl rfl ?_
    | refine wG_u rfl rfl ?_
    | refine wG_new (o_mks rfl rfl (by omega) (by decide)) ?_))
        refine ⟨k + 1, by omega, by omega, ?_⟩
        simp [LeP, leT, leH, lk, AV.ltr, ltrL, Ab.hg, upd, -List.getD_eq_getElem?_getD, -Int.default_eq_zero]
        simp [rs, e]
    · have hk3 : k = wb.length := by omega
      subst hk3
      repeat (first
    | refine wC_a rfl ?_
    | refine q_s rfl ?_
    | refine q_b rfl ?_
    | refine wG_nil ?_
    | refine wG_g rfl ?_
    | refine wG_pure (o_len_vwm rfl) ?_
    | refine wG_pure (o_not_d rfl) ?_
    | refine wG_p rfl (by first | exact rfl | omega) ?_
    | refine wG_pure (o_not rfl) ?_
    | refine wG_pure (e_ia_vw0 rfl rfl (by omega) rfl) ?_
    | refine wG_pure (e_ia_vwp rfl rfl (by omega) rfl) ?_
    | refine wG_pure (e_ia_vwm rfl rfl (by omega) (by omega) rfl) ?_
    | refine wG_pure (e_ia_vwi rfl rfl (by omega) rfl) ?_
    | refine wG_pure (e_ia_vwn rfl rfl (by omega) (by omega) rfl) ?_
    | refine wG_n rfl rfl ?_
    | refine wG_u rfl rfl ?_
    | refine wG_new (o_mks rfl rfl (by omega) (by decide)) ?_)
      refine ⟨i + 1, by omega, by omega, ?_⟩
      simp [LeP, leT, leH, lk, AV.ltr, ltrL, Ab.hg, upd, -List.getD_eq_getElem?_getD, -Int.default_eq_zero]
      simp [ps]
  · have hi3 : i = wa.length := by omega
    subst hi3
    repeat (first
    | refine wC_a rfl ?_
    | refine q_s rfl ?_
    | refine q_b rfl ?_
    | refine wG_nil ?_
    | refine wG_g rfl ?_
    | refine wG_pure (o_len_vwm rfl) ?_
    | refine wG_pure (o_not_d rfl) ?_
    | refine wG_p rfl (by first | exact rfl | omega) ?_
    | refine wG_pure (o_not rfl) ?_
    | refine wG_pure (e_ia_vw0 rfl rfl (by omega) rfl) ?_
    | refine wG_pure (e_ia_vwp rfl rfl (by omega) rfl) ?_
    | refine wG_pure (e_ia_vwm rfl rfl (by omega) (by omega) rfl) ?_
    | refine wG_pure (e_ia_vwi rfl rfl (by omega) rfl) ?_
    | refine wG_pure (e_ia_vwn rfl rfl (by omega) (by omega) rfl) ?_
    | refine wG_n rfl rfl ?_
    | refine wG_u rfl rfl ?_
    | refine wG_new (o_mks rfl rfl (by omega) (by decide)) ?_)
    exact ret_intE (.inr rfl) ⟨_, retV_mv rfl, rfl⟩
end Go.Proofs.Ytdljklicegcbpaa.Dst
