/- The chance of an outlier: both sides. -/
import Derived.Test.YtnohaclnpbpjbaaUndG
import Derived.Test.YtnohaclnpbpjbaaUndF
namespace Go.Proofs.Ytnohaclnpbpjbaa.Dst
open Go Go.Proofs.Ytnohaclnpbpjbaa.Ab Go.Proofs.Ytnohaclnpbpjbaa.Il
attribute [local irreducible] wpO wpC wpDr wpQ wpG wpE stepA seqQ blkQ Ret RetG ev
set_option maxRecDepth 10000
set_option maxHeartbeats 8000000
set_option linter.unusedSimpArgs false
set_option linter.unusedVariables false

def ac29 : AC := (.seq (.reg [⟨(some 2), none, (.box 4 true (.t 0))⟩, ⟨(some 4), none, (.mv (.c (.int .i64 0)))⟩, ⟨(some 5), none, (.mv (.c (.bool false)))⟩]) (.seq (.seq (.reg [⟨(some 11), none, (.ld true 4 (.t 2))⟩, ⟨(some 12), none, (.call 39 [(.t 11)])⟩, ⟨(some 13), none, (.un .not (.t 12))⟩, ⟨(some 14), none, (.mv (.t 13))⟩, ⟨(some 15), (some (14, false)), (.mv (.t 1))⟩, ⟨(some 16), (some (14, false)), (.fa 3 (.t 2))⟩, ⟨(some 17), (some (14, false)), (.ld false 1 (.t 16))⟩, ⟨(some 18), (some (14, false)), (.len (.t 17))⟩, ⟨(some 19), (some (14, false)), (.bin .sub (.t 18) (.c (.int .i64 1)))⟩, ⟨(some 20), (some (14, false)), (.call 47 [(.t 15), (.c (.int .i64 0)), (.t 19)])⟩, ⟨(some 21), (some (14, false)), (.un .not (.t 20))⟩, ⟨(some 22), none, (.pick (.t 14) (.c (.bool true)) (.t 21))⟩]) (.cond (.t 22) (.seq (.reg [⟨(some 4), none, (.mv (.c (.int .i64 0)))⟩, ⟨(some 5), none, (.mv (.c (.bool false)))⟩]) .ret) .skip)) (.seq (.reg [⟨(some 23), none, (.ld true 4 (.t 2))⟩, ⟨(some 24), none, (.call 63 [(.t 23)])⟩, ⟨(some 6), none, (.mv (.t 24))⟩]) (.seq (.reg [⟨(some 26), none, (.ld true 4 (.t 2))⟩, ⟨(some 27), none, (.mv (.t 6))⟩, ⟨(some 28), none, (.call 62 [(.t 26), (.t 27)])⟩, ⟨(some 25), none, (.mv (.t 28))⟩, ⟨(some 29), none, (.ext (.t 25) 0)⟩, ⟨(some 30), none, (.ext (.t 25) 1)⟩, ⟨(some 7), none, (.mv (.t 29))⟩, ⟨(some 8), none, (.mv (.t 30))⟩]) (.seq (.seq (.reg [⟨(some 31), none, (.mv (.t 7))⟩, ⟨(some 32), none, (.bin .eql (.t 31) (.c (.int .i64 0)))⟩]) (.cond (.t 32) (.seq (.reg [⟨(some 4), none, (.mv (.c (.int .i64 0)))⟩, ⟨(some 5), none, (.mv (.c (.bool false)))⟩]) .ret) .skip)) (.seq (.reg [⟨(some 33), none, (.mv (.t 6))⟩, ⟨(some 34), none, (.mv (.t 1))⟩, ⟨(some 35), none, (.ld true 4 (.t 2))⟩, ⟨(some 36), none, (.mv (.t 1))⟩, ⟨(some 37), none, (.call 67 [(.t 35), (.t 36), (.c (.bool true))])⟩, ⟨(some 38), none, (.ia 1 (.t 33) (.t 34))⟩, ⟨none, none, (.st 1 (.t 38) (.t 37))⟩]) (.seq (.reg [⟨(some 40), none, (.ld true 4 (.t 2))⟩, ⟨(some 41), none, (.mv (.t 6))⟩, ⟨(some 42), none, (.call 62 [(.t 40), (.t 41)])⟩, ⟨(some 39), none, (.mv (.t 42))⟩, ⟨(some 43), none, (.ext (.t 39) 0)⟩, ⟨(some 44), none, (.ext (.t 39) 1)⟩, ⟨(some 9), none, (.mv (.t 43))⟩, ⟨(some 10), none, (.mv (.t 44))⟩]) (.seq (.reg [⟨(some 45), none, (.mv (.t 9))⟩, ⟨(some 46), none, (.mv (.t 7))⟩, ⟨(some 47), none, (.call 68 [(.t 45), (.t 46)])⟩, ⟨(some 4), none, (.mv (.t 47))⟩, ⟨(some 5), none, (.mv (.c (.bool true)))⟩]) .ret))))))))
def ro29 : List AOp := [(.mv (.t 4)), (.mv (.t 5))]
theorem fun29 : Fun Try.prog 29 48 ac29 ro29 := ⟨Try.f29, _, Try.func29, by kernel_rfl, rfl, rfl, by kernel_rfl, by kernel_rfl, by decide⟩
def ac30 : AC := (.seq (.reg [⟨(some 2), none, (.box 4 true (.t 0))⟩, ⟨(some 3), none, (.box 1 false (.t 1))⟩, ⟨(some 4), none, (.mv (.c (.int .i64 0)))⟩, ⟨(some 5), none, (.mv (.c (.bool false)))⟩]) (.seq (.seq (.reg [⟨(some 13), none, (.ld true 4 (.t 2))⟩, ⟨(some 14), none, (.call 14 [(.t 13)])⟩, ⟨(some 15), none, (.un .not (.t 14))⟩, ⟨(some 16), none, (.mv (.t 15))⟩, ⟨(some 17), (some (16, false)), (.ld false 1 (.t 3))⟩, ⟨(some 18), (some (16, false)), (.fa 3 (.t 2))⟩, ⟨(some 19), (some (16, false)), (.ld false 1 (.t 18))⟩, ⟨(some 20), (some (16, false)), (.len (.t 19))⟩, ⟨(some 21), (some (16, false)), (.bin .sub (.t 20) (.c (.int .i64 1)))⟩, ⟨(some 22), (some (16, false)), (.call 42 [(.t 17), (.c (.int .i64 0)), (.t 21)])⟩, ⟨(some 23), (some (16, false)), (.un .not (.t 22))⟩, ⟨(some 24), none, (.pick (.t 16) (.c (.bool true)) (.t 23))⟩]) (.cond (.t 24) (.seq (.reg [⟨(some 4), none, (.mv (.c (.int .i64 0)))⟩, ⟨(some 5), none, (.mv (.c (.bool false)))⟩]) .ret) .skip)) (.seq (.reg [⟨(some 25), none, (.fa 3 (.t 2))⟩, ⟨(some 26), none, (.ld false 1 (.t 25))⟩, ⟨(some 27), none, (.ld false 1 (.t 3))⟩, ⟨(some 28), none, (.ia 4 (.t 26) (.t 27))⟩, ⟨(some 29), none, (.ld true 4 (.t 28))⟩, ⟨(some 6), none, (.alloc [(.int .i64 0), (.int .i64 0), .nilS, (.int .i64 0)])⟩, ⟨none, none, (.st 4 (.t 6) (.t 29))⟩]) (.seq (.reg [⟨(some 7), none, (.alloc [(.int .i64 0)])⟩, ⟨(some 8), none, (.alloc [(.int .i64 0)])⟩, ⟨none, none, (.st 1 (.t 7) (.c (.int .i64 0)))⟩, ⟨none, none, (.st 1 (.t 8) (.c (.int .i64 0)))⟩]) (.seq (.reg [⟨(some 30), none, (.ld true 4 (.t 2))⟩, ⟨(some 31), none, (.mkf 69 [(.t 2), (.t 3), (.t 7), (.t 6), (.t 8)])⟩, ⟨(some 32), none, (.call 64 [(.t 30), (.t 31)])⟩]) (.seq (.seq (.reg [⟨(some 33), none, (.ld false 1 (.t 8))⟩, ⟨(some 34), none, (.bin .eql (.t 33) (.c (.int .i64 0)))⟩]) (.cond (.t 34) (.seq (.reg [⟨(some 4), none, (.mv (.c (.int .i64 0)))⟩, ⟨(some 5), none, (.mv (.c (.bool false)))⟩]) .ret) .skip)) (.seq (.reg [⟨(some 36), none, (.ld false 1 (.t 7))⟩, ⟨(some 37), none, (.cv .u64 (.t 36))⟩, ⟨(some 38), none, (.call 71 [(.t 37), (.c (.int .u64 1000))])⟩, ⟨(some 35), none, (.mv (.t 38))⟩, ⟨(some 39), none, (.ext (.t 35) 0)⟩, ⟨(some 40), none, (.ext (.t 35) 1)⟩, ⟨(some 9), none, (.mv (.t 39))⟩, ⟨(some 10), none, (.mv (.t 40))⟩]) (.seq (.reg [⟨(some 42), none, (.mv (.t 9))⟩, ⟨(some 43), none, (.mv (.t 10))⟩, ⟨(some 44), none, (.ld false 1 (.t 8))⟩, ⟨(some 45), none, (.cv .u64 (.t 44))⟩, ⟨(some 46), none, (.call 72 [(.t 42), (.t 43), (.t 45)])⟩, ⟨(some 41), none, (.mv (.t 46))⟩, ⟨(some 47), none, (.ext (.t 41) 0)⟩, ⟨(some 48), none, (.ext (.t 41) 1)⟩, ⟨(some 11), none, (.mv (.t 47))⟩, ⟨(some 12), none, (.mv (.t 48))⟩]) (.seq (.reg [⟨(some 49), none, (.mv (.t 11))⟩, ⟨(some 50), none, (.cv .i64 (.t 49))⟩, ⟨(some 4), none, (.mv (.t 50))⟩, ⟨(some 5), none, (.mv (.c (.bool true)))⟩]) .ret)))))))))
def ro30 : List AOp := [(.mv (.t 4)), (.mv (.t 5))]
theorem fun30 : Fun Try.prog 30 51 ac30 ro30 := ⟨Try.f30, _, Try.func30, by kernel_rfl, rfl, rfl, by kernel_rfl, by kernel_rfl, by decide⟩
def ac69 : AC := (.seq (.reg [⟨(some 8), none, (.ld true 4 (.t 1))⟩, ⟨(some 9), none, (.mv (.t 0))⟩, ⟨(some 10), none, (.ld false 1 (.t 2))⟩, ⟨(some 11), none, (.call 66 [(.t 8), (.t 9), (.t 10)])⟩, ⟨(some 7), none, (.mv (.t 11))⟩]) (.seq (.dreg [⟨(some 12), none, (.ld false 1 (.t 3))⟩, ⟨(some 13), none, (.mv (.t 7))⟩, ⟨(some 14), none, (.ld true 4 (.t 1))⟩, ⟨(some 15), none, (.ld true 4 (.t 4))⟩, ⟨(some 16), none, (.mv (.t 0))⟩, ⟨(some 17), none, (.fa 0 (.t 4))⟩, ⟨(some 18), none, (.ld false 1 (.t 17))⟩, ⟨(some 19), none, (.ia 1 (.t 16) (.t 18))⟩, ⟨(some 20), none, (.ld false 1 (.t 19))⟩, ⟨(some 21), none, (.mv (.t 0))⟩, ⟨(some 22), none, (.fa 0 (.t 4))⟩, ⟨(some 23), none, (.ld false 1 (.t 22))⟩, ⟨(some 24), none, (.bin .add (.t 23) (.c (.int .i64 1)))⟩, ⟨(some 25), none, (.ia 1 (.t 21) (.t 24))⟩, ⟨(some 26), none, (.ld false 1 (.t 25))⟩, ⟨(some 27), none, (.build [(.bool false), (.bool false)] [(0, (1, (.c (.bool false)))), (1, (1, (.c (.bool true))))])⟩, ⟨(some 28), none, (.call 70 [(.t 14), (.t 15), (.t 20), (.t 26), (.t 27)])⟩, ⟨(some 29), none, (.bin .mul (.t 13) (.t 28))⟩, ⟨(some 30), none, (.bin .add (.t 12) (.t 29))⟩, ⟨none, none, (.st 1 (.t 3) (.t 30))⟩] [[], [], [], [], [], [], [5], [4, 5, 6], [4, 5, 6, 7], [], [], [10], [10, 11], [9, 10, 11, 12], [9, 10, 11, 12, 13], [], [2, 3, 4, 5, 6, 7, 8, 9, 10, 11, 12, 13, 14, 15], [1, 2, 3, 4, 5, 6, 7, 8, 9, 10, 11, 12, 13, 14, 15, 16], [0, 1, 2, 3, 4, 5, 6, 7, 8, 9, 10, 11, 12, 13, 14, 15, 16, 17], [0, 1, 2, 3, 4, 5, 6, 7, 8, 9, 10, 11, 12, 13, 14, 15, 16, 17, 18]]) (.dreg [⟨(some 31), none, (.ld false 1 (.t 5))⟩, ⟨(some 32), none, (.mv (.t 7))⟩, ⟨(some 33), none, (.ld true 4 (.t 1))⟩, ⟨(some 34), none, (.ld true 4 (.t 4))⟩, ⟨(some 35), none, (.mv (.t 0))⟩, ⟨(some 36), none, (.fa 0 (.t 4))⟩, ⟨(some 37), none, (.ld false 1 (.t 36))⟩, ⟨(some 38), none, (.ia 1 (.t 35) (.t 37))⟩, ⟨(some 39), none, (.ld false 1 (.t 38))⟩, ⟨(some 40), none, (.mv (.t 0))⟩, ⟨(some 41), none, (.fa 0 (.t 4))⟩, ⟨(some 42), none, (.ld false 1 (.t 41))⟩, ⟨(some 43), none, (.bin .add (.t 42) (.c (.int .i64 1)))⟩, ⟨(some 44), none, (.ia 1 (.t 40) (.t 43))⟩, ⟨(some 45), none, (.ld false 1 (.t 44))⟩, ⟨(some 46), none, (.build [(.bool false), (.bool false)] [(0, (1, (.c (.bool true)))), (1, (1, (.c (.bool true))))])⟩, ⟨(some 47), none, (.call 70 [(.t 33), (.t 34), (.t 39), (.t 45), (.t 46)])⟩, ⟨(some 48), none, (.bin .mul (.t 32) (.t 47))⟩, ⟨(some 49), none, (.bin .add (.t 31) (.t 48))⟩, ⟨none, none, (.st 1 (.t 5) (.t 49))⟩] [[], [], [], [], [], [], [5], [4, 5, 6], [4, 5, 6, 7], [], [], [10], [10, 11], [9, 10, 11, 12], [9, 10, 11, 12, 13], [], [2, 3, 4, 5, 6, 7, 8, 9, 10, 11, 12, 13, 14, 15], [1, 2, 3, 4, 5, 6, 7, 8, 9, 10, 11, 12, 13, 14, 15, 16], [0, 1, 2, 3, 4, 5, 6, 7, 8, 9, 10, 11, 12, 13, 14, 15, 16, 17], [0, 1, 2, 3, 4, 5, 6, 7, 8, 9, 10, 11, 12, 13, 14, 15, 16, 17, 18]])))
def ro69 : List AOp := []
theorem fun69 : Fun Try.prog 69 50 ac69 ro69 := ⟨Try.f69, _, Try.func69, by kernel_rfl, rfl, rfl, by kernel_rfl, by kernel_rfl, by decide⟩

theorem o_cvs {T : Nat → AV} {H : Nat → Option Ab.Rows} {nr : Nat} {x : AX} {k : IntKind} {n : Nat} (h1 : gT T x = .int k (n : Int)) (hn : n ≤ 9223372036854775807) : Ab.ev (gT T) H nr (.cv .i64 x) = some (.int .i64 (n : Int), [], 0) := by
  simp only [Ab.ev, h1, Option.bind_some, pureR]
  have e : IntKind.i64.wrap (n : Int) = (n : Int) := by rw [IntKind.wrap_i64]; omega
  rw [e]
theorem dr_LL {H : Nat → Option Ab.Rows} {q : Nat} {rows : Ab.Rows} (L : List (List Int)) (g : Nat → Nat) (h1 : H q = some rows) (hl : rows.length = L.length) (hr : ∀ i, i < L.length → rows[i]? = some [.sl (g i) 1 0 (L.getD i default).length]) (h2 : ∀ i, i < L.length → H (g i) = some ((L.getD i default).map iRow)) {n : Nat} (hn : n = L.length) : Ab.dr H 6 (.sl q 1 0 n) = .vw true (L.map nI) := by
  subst hn
  have hl2 : (rows.drop 0).take L.length = rows := by rw [List.drop_zero, List.take_of_length_le (by omega)]
  rw [show (6 : Nat) = 5 + 1 from rfl, Ab.dr, h1]
  dsimp only
  rw [hl2]
  congr 1
  refine List.ext_getElem? fun i => ?_
  by_cases hi : i < L.length
  · rw [List.getElem?_map, hr i hi, List.getElem?_map, List.getElem?_eq_getElem hi]
    have e : L.getD i default = L[i] := by simp [List.getD_eq_getElem?_getD, List.getElem?_eq_getElem hi]
    have h3 := h2 i hi
    rw [e] at h3 ⊢
    simp only [Option.map_some, List.map_cons, List.map_nil]
    rw [dr_rows (m := 3) h3 rfl iRow_plain]
    rfl
  · rw [List.getElem?_eq_none (by rw [List.length_map]; omega), List.getElem?_eq_none (by simp; omega)]
theorem hQ_te' {q : Nat} {L : List (List Int)} {h : List (Nat × Option Ab.Rows)} {i : Nat} {rows : Ab.Rows} (hi : (teL L)[i]? = some rows) : hg (hQ q (q + 1) L h) (q + i) = some (shR q rows) := by
  rw [← hT_eq]
  exact shOget hi
def okO (m : Md) (xs : List Ev) (k : Int) : Prop := GoodM m xs ∧ 0 ≤ k ∧ k ≤ (xs.length : Int) - 1
theorem con29_no (c : Bool) (m : Md) (xs : List Ev) (x : Int) (h3 : xs.length ≤ 1048576) (hL : LenE xs 1048576) (hk : ¬ okO m xs x) : Con Try.prog 29 true [.agg (mdR c m xs), .int .i64 x] (.tup [.int .i64 0, .bool false]) [] := by
  classical
  refine con_of_wp mixed fun29 (by simp) [] plain_nil ?_
  unfold ac29 ro29
  simp only [zipT]
  have c1 := con39 c m xs h3 hL
  by_cases hG : GoodM m xs
  · rw [decide_eq_true hG] at c1
    have hn4 := hG.2.2.2.1
    have c2 := con47 x 0 ((xs.length : Int) - 1)
    rw [decide_eq_false (fun h => hk ⟨hG, h⟩)] at c2
    repeat (first | refine wG_call c1 rfl rfl ?_ | refine wG_call c2 rfl rfl ?_ | (first
    | refine wC_a rfl ?_
    | refine q_s rfl ?_
    | refine q_b rfl ?_
    | refine wG_nil ?_
    | refine wG_g rfl ?_
    | refine wG_pure (o_len_vwm rfl) ?_
    | refine wG_pure (o_not_d rfl) ?_
    | refine wG_p rfl (by first | exact rfl | omega) ?_
    | refine wG_pure (o_str2 rfl rfl rfl) ?_
    | refine wG_pure (e_istr rfl rfl (by omega)) ?_
    | refine wG_pure (e_istr0 rfl rfl (by omega)) ?_
    | refine wG_pure (o_not rfl) ?_
    | refine wG_pure (e_ia_vw0 rfl rfl (by omega) rfl) ?_
    | refine wG_pure (e_ia_vwp rfl rfl (by omega) rfl) ?_
    | refine wG_pure (e_ia_vwm rfl rfl (by omega) (by omega) rfl) ?_
    | refine wG_pure (e_ia_vwi rfl rfl (by omega) rfl) ?_
    | refine wG_pure (e_ia_vwn rfl rfl (by omega) (by omega) rfl) ?_
    | refine wG_n rfl rfl ?_
    | refine wG_u rfl rfl ?_
    | refine wG_new (o_mks rfl rfl (by omega) (by decide)) ?_))
    exact ret_pl (.inr rfl) (retVs_2 (retV_mv rfl) (retV_mv rfl)) rfl rfl (by simp)
  · rw [decide_eq_false hG] at c1
    repeat (first | refine wG_call c1 rfl rfl ?_ | (first
    | refine wC_a rfl ?_
    | refine q_s rfl ?_
    | refine q_b rfl ?_
    | refine wG_nil ?_
    | refine wG_g rfl ?_
    | refine wG_pure (o_len_vwm rfl) ?_
    | refine wG_pure (o_not_d rfl) ?_
    | refine wG_p rfl (by first | exact rfl | omega) ?_
    | refine wG_pure (o_str2 rfl rfl rfl) ?_
    | refine wG_pure (e_istr rfl rfl (by omega)) ?_
    | refine wG_pure (e_istr0 rfl rfl (by omega)) ?_
    | refine wG_pure (o_not rfl) ?_
    | refine wG_pure (e_ia_vw0 rfl rfl (by omega) rfl) ?_
    | refine wG_pure (e_ia_vwp rfl rfl (by omega) rfl) ?_
    | refine wG_pure (e_ia_vwm rfl rfl (by omega) (by omega) rfl) ?_
    | refine wG_pure (e_ia_vwi rfl rfl (by omega) rfl) ?_
    | refine wG_pure (e_ia_vwn rfl rfl (by omega) (by omega) rfl) ?_
    | refine wG_n rfl rfl ?_
    | refine wG_u rfl rfl ?_
    | refine wG_new (o_mks rfl rfl (by omega) (by decide)) ?_))
    exact ret_pl (.inr rfl) (retVs_2 (retV_mv rfl) (retV_mv rfl)) rfl rfl (by simp)
theorem con30_no (c : Bool) (m : Md) (xs : List Ev) (x : Int) (h3 : xs.length ≤ 1048576) (hL : LenE xs 1048576) (hk : ¬ okO m xs x) : Con Try.prog 30 true [.agg (mdR c m xs), .int .i64 x] (.tup [.int .i64 0, .bool false]) [] := by
  classical
  refine con_of_wp mixed fun30 (by simp) [] plain_nil ?_
  unfold ac30 ro30
  simp only [zipT]
  have c1 := con14 c m xs h3 hL
  by_cases hG : GoodM m xs
  · rw [decide_eq_true hG] at c1
    have hn4 := hG.2.2.2.1
    have c2 := con42 x 0 ((xs.length : Int) - 1)
    rw [decide_eq_false (fun h => hk ⟨hG, h⟩)] at c2
    repeat (first | refine wG_call c1 rfl rfl ?_ | refine wG_call c2 rfl rfl ?_ | (first
    | refine wC_a rfl ?_
    | refine q_s rfl ?_
    | refine q_b rfl ?_
    | refine wG_nil ?_
    | refine wG_g rfl ?_
    | refine wG_pure (o_len_vwm rfl) ?_
    | refine wG_pure (o_not_d rfl) ?_
    | refine wG_p rfl (by first | exact rfl | omega) ?_
    | refine wG_pure (o_str2 rfl rfl rfl) ?_
    | refine wG_pure (e_istr rfl rfl (by omega)) ?_
    | refine wG_pure (e_istr0 rfl rfl (by omega)) ?_
    | refine wG_pure (o_not rfl) ?_
    | refine wG_pure (e_ia_vw0 rfl rfl (by omega) rfl) ?_
    | refine wG_pure (e_ia_vwp rfl rfl (by omega) rfl) ?_
    | refine wG_pure (e_ia_vwm rfl rfl (by omega) (by omega) rfl) ?_
    | refine wG_pure (e_ia_vwi rfl rfl (by omega) rfl) ?_
    | refine wG_pure (e_ia_vwn rfl rfl (by omega) (by omega) rfl) ?_
    | refine wG_n rfl rfl ?_
    | refine wG_u rfl rfl ?_
    | refine wG_new (o_mks rfl rfl (by omega) (by decide)) ?_))
    exact ret_pl (.inr rfl) (retVs_2 (retV_mv rfl) (retV_mv rfl)) rfl rfl (by simp)
  · rw [decide_eq_false hG] at c1
    repeat (first | refine wG_call c1 rfl rfl ?_ | (first
    | refine wC_a rfl ?_
    | refine q_s rfl ?_
    | refine q_b rfl ?_
    | refine wG_nil ?_
    | refine wG_g rfl ?_
    | refine wG_pure (o_len_vwm rfl) ?_
    | refine wG_pure (o_not_d rfl) ?_
    | refine wG_p rfl (by first | exact rfl | omega) ?_
    | refine wG_pure (o_str2 rfl rfl rfl) ?_
    | refine wG_pure (e_istr rfl rfl (by omega)) ?_
    | refine wG_pure (e_istr0 rfl rfl (by omega)) ?_
    | refine wG_pure (o_not rfl) ?_
    | refine wG_pure (e_ia_vw0 rfl rfl (by omega) rfl) ?_
    | refine wG_pure (e_ia_vwp rfl rfl (by omega) rfl) ?_
    | refine wG_pure (e_ia_vwm rfl rfl (by omega) (by omega) rfl) ?_
    | refine wG_pure (e_ia_vwi rfl rfl (by omega) rfl) ?_
    | refine wG_pure (e_ia_vwn rfl rfl (by omega) (by omega) rfl) ?_
    | refine wG_n rfl rfl ?_
    | refine wG_u rfl rfl ?_
    | refine wG_new (o_mks rfl rfl (by omega) (by decide)) ?_))
    exact ret_pl (.inr rfl) (retVs_2 (retV_mv rfl) (retV_mv rfl)) rfl rfl (by simp)
/-- What both sides give where the question is valid. -/
def oV (p t : Int) : AV := if t = 0 then .tup [.int .i64 0, .bool false] else .tup [.int .i64 (1000 * p / t), .bool true]
theorem con29_yes (c : Bool) (m : Md) (xs : List Ev) (h3 : xs.length ≤ 1048576) (hL : LenE xs 1048576) (hG : GoodM m xs) {e : Nat} (he : e < xs.length) : Con Try.prog 29 true [.agg (mdR c m xs), .int .i64 (e : Int)] (oV (tS m xs (e : Int) (aL m).length) (tS m xs (-1) (aL m).length)) [] := by
  classical
  have c1 := con39 c m xs h3 hL
  rw [decide_eq_true hG] at c1
  have c2 := con47 (e : Int) 0 ((xs.length : Int) - 1)
  rw [decide_eq_true ⟨by omega, by omega⟩] at c2
  have hn4 := hG.2.2.2.1
  have cA := con63 c m xs hG
  have cT := con62 c true m xs hG (-1)
  have cU := con62 c true m xs hG (e : Int)
  have cP := con67 c m xs hG he true
  obtain ⟨a1, a2, a3⟩ := tS_all hG he
  have hl := pL_len m xs (-1) xs.length
  have hl2 := pL_len m xs (e : Int) xs.length
  have hgt := fun i (hi : i < xs.length) => pL_get (m := m) (xs := xs) (k := -1) hi
  have hgt2 := fun i (hi : i < xs.length) => pL_get (m := m) (xs := xs) (k := (e : Int)) hi
  have hne : ∀ i, i ≠ e → gE m xs (e : Int) i = gE m xs (-1) i := fun i hi => by rw [gE_m1, gE, decide_eq_false (by omega)]
  have hee : gE m xs (e : Int) e = ew m (xs.getD e default) true := by rw [gE, decide_eq_true rfl]
  have e0 : ∀ n : Nat, 0 + ((n : Int)).toNat = n := fun n => by simp
  generalize pL m xs (-1) xs.length = L at *
  generalize pL m xs (e : Int) xs.length = L2 at *
  generalize tS m xs (e : Int) (aL m).length = p at *
  generalize tS m xs (-1) (aL m).length = t at *
  unfold oV
  by_cases ht : t = 0
  · rw [if_pos ht]
    subst ht
    refine con_of_wp mixed fun29 (by simp) [] plain_nil ?_
    unfold ac29 ro29
    simp only [zipT]
    repeat (first | refine wG_call c1 rfl rfl ?_ | refine wG_call c2 rfl rfl ?_ | (first
    | refine wC_a rfl ?_
    | refine q_s rfl ?_
    | refine q_b rfl ?_
    | refine wG_nil ?_
    | refine wG_g rfl ?_
    | refine wG_pure (o_len_vwm rfl) ?_
    | refine wG_pure (o_not_d rfl) ?_
    | refine wG_p rfl (by first | exact rfl | omega) ?_
    | refine wG_pure (o_str2 rfl rfl rfl) ?_
    | refine wG_pure (e_istr rfl rfl (by omega)) ?_
    | refine wG_pure (e_istr0 rfl rfl (by omega)) ?_
    | refine wG_pure (o_not rfl) ?_
    | refine wG_pure (e_ia_vw0 rfl rfl (by omega) rfl) ?_
    | refine wG_pure (e_ia_vwp rfl rfl (by omega) rfl) ?_
    | refine wG_pure (e_ia_vwm rfl rfl (by omega) (by omega) rfl) ?_
    | refine wG_pure (e_ia_vwi rfl rfl (by omega) rfl) ?_
    | refine wG_pure (e_ia_vwn rfl rfl (by omega) (by omega) rfl) ?_
    | refine wG_n rfl rfl ?_
    | refine wG_u rfl rfl ?_
    | refine wG_new (o_mks rfl rfl (by omega) (by decide)) ?_))
    refine wG_callG (v' := .sl 1 1 0 L.length) cA rfl rfl rfl ?_
    rw [hT_eq, teL_len]
    have h0 : hg (hQ 1 2 L [(0, some [mdR c m xs])]) 0 = some [mdR c m xs] := hQ_out (by omega) (by omega) hg_here
    repeat (first | refine wG_pure (o_ldt_pt rfl h0 rfl rfl rfl) ?_ | refine wG_call cT (ag_any rfl (ag_any (dr_L L (fun i rows hi => hQ_te' hi)) ag_nil)) rfl ?_ | (first
    | refine wC_a rfl ?_
    | refine q_s rfl ?_
    | refine q_b rfl ?_
    | refine wG_nil ?_
    | refine wG_g rfl ?_
    | refine wG_pure (o_len_vwm rfl) ?_
    | refine wG_pure (o_not_d rfl) ?_
    | refine wG_p rfl (by first | exact rfl | omega) ?_
    | refine wG_pure (o_str2 rfl rfl rfl) ?_
    | refine wG_pure (e_istr rfl rfl (by omega)) ?_
    | refine wG_pure (e_istr0 rfl rfl (by omega)) ?_
    | refine wG_pure (o_not rfl) ?_
    | refine wG_pure (e_ia_vw0 rfl rfl (by omega) rfl) ?_
    | refine wG_pure (e_ia_vwp rfl rfl (by omega) rfl) ?_
    | refine wG_pure (e_ia_vwm rfl rfl (by omega) (by omega) rfl) ?_
    | refine wG_pure (e_ia_vwi rfl rfl (by omega) rfl) ?_
    | refine wG_pure (e_ia_vwn rfl rfl (by omega) (by omega) rfl) ?_
    | refine wG_n rfl rfl ?_
    | refine wG_u rfl rfl ?_
    | refine wG_new (o_mks rfl rfl (by omega) (by decide)) ?_))
    exact ret_pl (.inr rfl) (retVs_2 (retV_mv rfl) (retV_mv rfl)) rfl rfl (by simp)
  · rw [if_neg ht]
    have dt : decide (t = 0) = false := decide_eq_false ht
    have cH := Und.con68 p t a1 a2 (by omega) (by omega)
    have hrow : (nR hI 2 L L.length zI)[e]? = some [.sl (2 + e) 1 0 (L.getD e default).length] := hQ_row (by omega)
    refine con_of_wp mixed fun29 (by simp) [] plain_nil ?_
    unfold ac29 ro29
    simp only [zipT]
    repeat (first | refine wG_call c1 rfl rfl ?_ | refine wG_call c2 rfl rfl ?_ | (first
    | refine wC_a rfl ?_
    | refine q_s rfl ?_
    | refine q_b rfl ?_
    | refine wG_nil ?_
    | refine wG_g rfl ?_
    | refine wG_pure (o_len_vwm rfl) ?_
    | refine wG_pure (o_not_d rfl) ?_
    | refine wG_p rfl (by first | exact rfl | omega) ?_
    | refine wG_pure (o_str2 rfl rfl rfl) ?_
    | refine wG_pure (e_istr rfl rfl (by omega)) ?_
    | refine wG_pure (e_istr0 rfl rfl (by omega)) ?_
    | refine wG_pure (o_not rfl) ?_
    | refine wG_pure (e_ia_vw0 rfl rfl (by omega) rfl) ?_
    | refine wG_pure (e_ia_vwp rfl rfl (by omega) rfl) ?_
    | refine wG_pure (e_ia_vwm rfl rfl (by omega) (by omega) rfl) ?_
    | refine wG_pure (e_ia_vwi rfl rfl (by omega) rfl) ?_
    | refine wG_pure (e_ia_vwn rfl rfl (by omega) (by omega) rfl) ?_
    | refine wG_n rfl rfl ?_
    | refine wG_u rfl rfl ?_
    | refine wG_new (o_mks rfl rfl (by omega) (by decide)) ?_))
    refine wG_callG (v' := .sl 1 1 0 L.length) cA rfl rfl rfl ?_
    rw [hT_eq, teL_len]
    have h0 : hg (hQ 1 2 L [(0, some [mdR c m xs])]) 0 = some [mdR c m xs] := hQ_out (by omega) (by omega) hg_here
    obtain ⟨q, hq⟩ : ∃ q, 1 + (L.length + 1) = q := ⟨_, rfl⟩
    rw [show 0 + 1 + (L.length + 1) = q by omega]
    have hH : ∀ i, i < L2.length → hg ((1, some ((nR hI 2 L L.length zI).set e [.sl q 1 0 m.y.toNat])) :: (q, some ((lG m.y.toNat (ew m (xs.getD e default) true)).map iRow)) :: hQ 1 2 L [(0, some [mdR c m xs])]) (if i = e then q else 2 + i) = some ((L2.getD i default).map iRow) := fun i hi => by
      rw [hl2] at hi
      refine hg_skip (by split <;> omega) ?_
      rw [hgt2 i hi]
      by_cases ei : i = e
      · subst ei
        rw [if_pos rfl, hee]; exact hg_here
      · rw [if_neg ei, hne i ei, ← hgt i hi]
        exact hg_skip (by omega) (hQ_in (by omega) (by omega))
    have hR : ∀ i, i < L2.length → ((nR hI 2 L L.length zI).set e [.sl q 1 0 m.y.toNat])[i]? = some [.sl (if i = e then q else 2 + i) 1 0 (L2.getD i default).length] := fun i hi => by
      rw [hl2] at hi
      rw [hgt2 i hi, lG_len]
      by_cases ei : i = e
      · subst ei
        rw [List.getElem?_set_self (by rw [nR_len]; omega), if_pos rfl]
      · rw [List.getElem?_set_ne (fun h => ei h.symm), if_neg ei, hQ_row (by omega), hgt i hi, lG_len]
    have hLL : Ab.dr (hg ((1, some ((nR hI 2 L L.length zI).set e [.sl q 1 0 m.y.toNat])) :: (q, some ((lG m.y.toNat (ew m (xs.getD e default) true)).map iRow)) :: hQ 1 2 L [(0, some [mdR c m xs])])) 6 (.sl 1 1 0 L.length) = .vw true (L2.map nI) := by
      exact dr_LL L2 (fun i => if i = e then q else 2 + i) hg_here (by rw [List.length_set, nR_len]; omega) hR hH (by omega)
    repeat (first | refine wG_pure (o_ldt_pt rfl h0 rfl rfl rfl) ?_ | refine wG_call cT (ag_any rfl (ag_any (dr_L L (fun i rows hi => hQ_te' hi)) ag_nil)) rfl ?_ | (first
    | refine wC_a rfl ?_
    | refine q_s rfl ?_
    | refine q_b rfl ?_
    | refine wG_nil ?_
    | refine wG_g rfl ?_
    | refine wG_pure (o_len_vwm rfl) ?_
    | refine wG_pure (o_not_d rfl) ?_
    | refine wG_p rfl (by first | exact rfl | omega) ?_
    | refine wG_pure (o_str2 rfl rfl rfl) ?_
    | refine wG_pure (e_istr rfl rfl (by omega)) ?_
    | refine wG_pure (e_istr0 rfl rfl (by omega)) ?_
    | refine wG_pure (o_not rfl) ?_
    | refine wG_pure (e_ia_vw0 rfl rfl (by omega) rfl) ?_
    | refine wG_pure (e_ia_vwp rfl rfl (by omega) rfl) ?_
    | refine wG_pure (e_ia_vwm rfl rfl (by omega) (by omega) rfl) ?_
    | refine wG_pure (e_ia_vwi rfl rfl (by omega) rfl) ?_
    | refine wG_pure (e_ia_vwn rfl rfl (by omega) (by omega) rfl) ?_
    | refine wG_n rfl rfl ?_
    | refine wG_u rfl rfl ?_
    | refine wG_new (o_mks rfl rfl (by omega) (by decide)) ?_))
    simp only [dt]
    repeat (first | refine wG_pure (o_ldt_pt rfl h0 rfl rfl rfl) ?_ | refine wG_pure (o_ldt_pt rfl (hg_skip (by omega) (hg_skip (by omega) h0)) rfl rfl rfl) ?_ | refine wG_call1 cP rfl rfl ?_ | (refine wG_pure (e_ia_sl rfl rfl (by omega) (by omega)) ?_; simp only [e0]) | refine wG_upd (o_st1 rfl (hg_skip (by omega) hQ_q) hrow rfl rfl rfl) ?_ | refine wG_call cU (ag_any rfl (ag_any hLL ag_nil)) rfl ?_ | refine wG_call cH rfl rfl ?_ | (first
    | refine wC_a rfl ?_
    | refine q_s rfl ?_
    | refine q_b rfl ?_
    | refine wG_nil ?_
    | refine wG_g rfl ?_
    | refine wG_pure (o_len_vwm rfl) ?_
    | refine wG_pure (o_not_d rfl) ?_
    | refine wG_p rfl (by first | exact rfl | omega) ?_
    | refine wG_pure (o_str2 rfl rfl rfl) ?_
    | refine wG_pure (e_istr rfl rfl (by omega)) ?_
    | refine wG_pure (e_istr0 rfl rfl (by omega)) ?_
    | refine wG_pure (o_not rfl) ?_
    | refine wG_pure (e_ia_vw0 rfl rfl (by omega) rfl) ?_
    | refine wG_pure (e_ia_vwp rfl rfl (by omega) rfl) ?_
    | refine wG_pure (e_ia_vwm rfl rfl (by omega) (by omega) rfl) ?_
    | refine wG_pure (e_ia_vwi rfl rfl (by omega) rfl) ?_
    | refine wG_pure (e_ia_vwn rfl rfl (by omega) (by omega) rfl) ?_
    | refine wG_n rfl rfl ?_
    | refine wG_u rfl rfl ?_
    | refine wG_new (o_mks rfl rfl (by omega) (by decide)) ?_))
    exact ret_pl (.inr rfl) (retVs_2 (retV_mv rfl) (retV_mv rfl)) rfl rfl (by simp)
/-! ### The implementation -/
def hsO (c : Bool) (m : Md) (xs : List Ev) (e : Nat) (s : Int × Int) : List (Nat × Option Ab.Rows) := [(4, some [[.int .i64 s.2]]), (3, some [[.int .i64 s.1]]), (2, some [nE (xs.getD e default)]), (1, some [[.int .i64 (e : Int)]]), (0, some [mdR c m xs])]
theorem hsO_wf {c : Bool} {m : Md} {xs : List Ev} {e nr : Nat} (h : 5 ≤ nr) (s : Int × Int) : wfH (hsO c m xs e s) nr :=
  wfH_cons (by omega) (by simp [AV.ltr]) (wfH_cons (by omega) (by simp [AV.ltr]) (wfH_cons (by omega) (nE_ltr1 _) (wfH_cons (by omega) (by simp [AV.ltr]) (wfH_cons (by omega) (mdR_ltr1' _) wfH_nil))))
def stO (m : Md) (xs : List Ev) (e : Nat) (s : Int × Int) (b : List Nat) : Int × Int := (aW (fW m xs (e : Int)) s.1 b, aW (fW m xs (-1)) s.2 b)
theorem stO_fold (m : Md) (xs : List Ev) (e : Nat) : ∀ (l : List (List Nat)) (a c : Int), l.foldl (stO m xs e) (a, c) = (l.foldl (aW (fW m xs (e : Int))) a, l.foldl (aW (fW m xs (-1))) c)
  | [], a, c => rfl
  | b :: l, a, c => by
    rw [List.foldl_cons, List.foldl_cons, List.foldl_cons, stO, stO_fold m xs e l]
theorem vis_O {c : Bool} {m : Md} {xs : List Ev} (hG : GoodM m xs) {e : Nat} (he : e < xs.length) (s : Int × Int) (b : List Nat) (hb : GoodB m.y.toNat (m.p.toNat + 1) b) : Sh Try.prog 69 ([.sl (5 + 2) 1 0 (m.p.toNat + 1)] ++ [.pt 0 0 0, .pt 1 0 0, .pt 3 0 0, .pt 2 0 0, .pt 4 0 0]) (eF (mdR c m xs) 5 69 [.pt 0 0 0, .pt 1 0 0, .pt 3 0 0, .pt 2 0 0, .pt 4 0 0] (m.p.toNat + 1) b (hsO c m xs e s)) 10 (.tup []) (eF (mdR c m xs) 5 69 [.pt 0 0 0, .pt 1 0 0, .pt 3 0 0, .pt 2 0 0, .pt 4 0 0] (m.p.toNat + 1) b (hsO c m xs e (stO m xs e s b))) 10 := by
  refine sh_of_wp mixed fun69 (by simp) ?_
  unfold ac69 ro69
  simp only [zipT, List.cons_append, List.nil_append]
  have hPb := hG.2.2.1
  have hpe := (hG.2.2.2.2 e he).1
  have eP : 0 + ((xs.getD e default).p).toNat = pE xs e := by simp [pE]
  have eP1 : 0 + ((xs.getD e default).p + 1).toNat = pE xs e + 1 := by unfold pE; omega
  have hPn : pE xs e + 1 < m.p.toNat + 1 := by unfold pE; omega
  have cw := con66 c true m xs hG b hb (e : Int)
  obtain ⟨f1, f2, f3⟩ := fW_b hG he hb
  have hl := hb.len
  have b1 := hb.lt (pE xs e) (by omega)
  have b2 := hb.mono (pE xs e) hPn
  have b3 := hb.lt (pE xs e + 1) hPn
  have gi : (b.map nRow)[pE xs e]? = some (nRow (gN b (pE xs e))) := nGet (by omega)
  have gi1 : (b.map nRow)[pE xs e + 1]? = some (nRow (gN b (pE xs e + 1))) := nGet (by omega)
  have cS := con70 c m xs hG he true (gN b (pE xs e)) (gN b (pE xs e + 1)) b2 b3
  have cS1 := con70 c m xs hG he false (gN b (pE xs e)) (gN b (pE xs e + 1)) b2 b3
  have u1 := fW_sp (m := m) he b
  have u2 := fW_sp1 (m := m) he b
  have hst : stO m xs e s b = (IntKind.i64.wrap (s.1 + fW m xs (e : Int) b), IntKind.i64.wrap (s.2 + fW m xs (-1) b)) := rfl
  rw [hst]
  generalize lw xs (gE m xs (-1)) b (e : Int) xs.length = O at *
  generalize sp (ew m (xs.getD e default) true) (gN b (pE xs e)) (gN b (pE xs e + 1) + 1 - gN b (pE xs e)) = S at *
  generalize sp (ew m (xs.getD e default) false) (gN b (pE xs e)) (gN b (pE xs e + 1) + 1 - gN b (pE xs e)) = S1 at *
  rw [u1, u2] at f2 ⊢
  rw [u1] at f1
  rw [u2] at f3
  have f4 : 0 ≤ O * S1 := by omega
  have f5 : O * S ≤ 1000000000000000 := by omega
  repeat (first | refine wG_call cw (ag_any rfl (ag_sl rfl rfl hl.symm nRow_plain (ag_int rfl ag_nil))) rfl ?_ | refine wC_dregE ?_ | (refine wE_v (e_ia_sl rfl rfl (by omega) (by omega)) rfl ?_; simp only [eP, eP1]) | refine wE_v (o_ldf_pt rfl rfl gi rfl) rfl ?_ | refine wE_v (o_ldf_pt rfl rfl gi1 rfl) rfl ?_ | refine wE_call cS rfl rfl rfl ?_ | refine wE_call cS1 rfl rfl rfl ?_ | (first
    | refine wC_a rfl ?_
    | refine q_s rfl ?_
    | refine q_b rfl ?_
    | refine wG_nil ?_
    | refine wG_g rfl ?_
    | refine wG_pure (o_len_vwm rfl) ?_
    | refine wG_pure (o_not_d rfl) ?_
    | refine wG_p rfl (by first | exact rfl | omega) ?_
    | refine wG_pure (o_str2 rfl rfl rfl) ?_
    | refine wG_pure (e_istr rfl rfl (by omega)) ?_
    | refine wG_pure (e_istr0 rfl rfl (by omega)) ?_
    | refine wG_pure (o_not rfl) ?_
    | refine wG_pure (e_ia_vw0 rfl rfl (by omega) rfl) ?_
    | refine wG_pure (e_ia_vwp rfl rfl (by omega) rfl) ?_
    | refine wG_pure (e_ia_vwm rfl rfl (by omega) (by omega) rfl) ?_
    | refine wG_pure (e_ia_vwi rfl rfl (by omega) rfl) ?_
    | refine wG_pure (e_ia_vwn rfl rfl (by omega) (by omega) rfl) ?_
    | refine wG_n rfl rfl ?_
    | refine wG_u rfl rfl ?_
    | refine wG_new (o_mks rfl rfl (by omega) (by decide)) ?_) | (first
    | refine wE_nil (by kernel_rfl) ?_
    | refine wE_gy rfl ?_
    | refine wE_gn rfl rfl rfl ?_
    | refine wE_gu rfl rfl ?_
    | refine wE_gnn rfl rfl rfl ?_
    | refine wE_v (o_len_vwm rfl) rfl ?_
    | refine wE_v (o_not_d rfl) rfl ?_
    | refine wE_p rfl (by first | exact rfl | omega) rfl ?_
    | refine wE_v (o_str2 rfl rfl rfl) rfl ?_
    | refine wE_v (e_istr rfl rfl (by omega)) rfl ?_
    | refine wE_v (e_istr0 rfl rfl (by omega)) rfl ?_
    | refine wE_v (o_not rfl) rfl ?_
    | refine wE_v (e_ia_vw0 rfl rfl (by omega) rfl) rfl ?_
    | refine wE_v (e_ia_vwp rfl rfl (by omega) rfl) rfl ?_
    | refine wE_v (e_ia_vwm rfl rfl (by omega) (by omega) rfl) rfl ?_
    | refine wE_v (e_ia_vwi rfl rfl (by omega) rfl) rfl ?_
    | refine wE_v (e_ia_vwn rfl rfl (by omega) (by omega) rfl) rfl ?_
    | refine wE_n rfl rfl rfl ?_
    | refine wE_u rfl rfl rfl ?_
    | refine wE_new (o_mks rfl rfl (by omega) (by decide)) rfl ?_) | refine wE_v (o_addw rfl rfl) rfl ?_)
  refine ⟨trivial, [], rfl, Le_of ⟨⟨rfl, rfl⟩, trivial⟩ (fun q rows hq => ?_) (eF_wf (nr := 10) (by decide) (mdR_ltr _) rfl (hsO_wf (by decide) _)), Nat.le_refl _⟩
  refine Eq.trans ?_ hq
  by_cases e3 : q = 4
  · subst e3; rfl
  by_cases e4 : q = 3
  · subst e4; rfl
  simp only [eF, hsO, Ab.hg, upd, if_neg e3, if_neg e4]
theorem con30_yes (c : Bool) (m : Md) (xs : List Ev) (h3 : xs.length ≤ 1048576) (hL : LenE xs 1048576) (hG : GoodM m xs) {e : Nat} (he : e < xs.length) : Con Try.prog 30 true [.agg (mdR c m xs), .int .i64 (e : Int)] (oV (tS m xs (e : Int) (aL m).length) (tS m xs (-1) (aL m).length)) [] := by
  classical
  have c1 := con14 c m xs h3 hL
  rw [decide_eq_true hG] at c1
  have c2 := con42 (e : Int) 0 ((xs.length : Int) - 1)
  rw [decide_eq_true ⟨by omega, by omega⟩] at c2
  have hn4 := hG.2.2.2.1
  obtain ⟨a1, a2, a3⟩ := tS_all hG he
  have hE := (each_sh (σ := Int × Int) (step := stO m xs e) (J := fun _ => True) (hs := hsO c m xs e) (nrS := fun _ => 10) (c := c) (m := m) (xs := xs) (N := 5) (fv := 69) (n := m.p.toNat + 1) (caps := [.pt 0 0 0, .pt 1 0 0, .pt 3 0 0, .pt 2 0 0, .pt 4 0 0]) hG rfl (fun _ => Nat.le_refl _) (fun s _ => hsO_wf (by omega) s) rfl (fun _ _ => Nat.le_refl _) (fun s b _ hb => ⟨vis_O hG he s b hb, trivial⟩) (fun s q rows _ hq => by
    by_cases e' : q < 5
    · exact .inl e'
    · simp [hsO, Ab.hg, upd, show q ≠ 4 by omega, show q ≠ 3 by omega, show q ≠ 2 by omega, show q ≠ 1 by omega, show q ≠ 0 by omega] at hq) (0, 0) trivial rfl).1
  have ez : (bL m.y.toNat (m.p.toNat + 1)).foldl (stO m xs e) (0, 0) = (tS m xs (e : Int) (aL m).length, tS m xs (-1) (aL m).length) := by
    show (aL m).foldl _ _ = _
    rw [stO_fold, tS, tS, List.take_length]
  rw [ez] at hE
  generalize tS m xs (e : Int) (aL m).length = p at *
  generalize tS m xs (-1) (aL m).length = t at *
  obtain ⟨P, rfl⟩ := Int.eq_ofNat_of_zero_le a1
  obtain ⟨W, rfl⟩ := Int.eq_ofNat_of_zero_le (Int.le_trans a1 a2)
  have hE2 : Sh Try.prog 64 [.agg (mdR c m xs), .fn 69 [.pt 0 0 0, .pt 1 0 0, .pt 3 0 0, .pt 2 0 0, .pt 4 0 0]] [(4, some [[.int .i64 0]]), (3, some [[.int .i64 0]]), (4, some [[.int .i64 0]]), (3, some [[.int .i64 0]]), (2, some [nE (xs.getD e default)]), (2, some [[.int .i64 0, .int .i64 0, .nilS, .int .i64 0]]), (1, some [[.int .i64 (e : Int)]]), (0, some [mdR c m xs])] 5 (.tup []) (hsO c m xs e ((P : Int), (W : Int))) 10 := by
    refine Sh_hg ?_ hE
    funext q
    by_cases e4 : q = 4
    · subst e4; rfl
    by_cases e3 : q = 3
    · subst e3; rfl
    by_cases e2 : q = 2
    · subst e2; rfl
    simp only [hsO, Ab.hg, upd, if_neg e4, if_neg e3, if_neg e2]
  unfold oV
  by_cases ht : (W : Int) = 0
  · rw [if_pos ht]
    have dt : decide ((W : Int) = 0) = true := decide_eq_true ht
    refine con_of_wp mixed fun30 (by simp) [] plain_nil ?_
    unfold ac30 ro30
    simp only [zipT]
    repeat (first | refine wG_call c1 rfl rfl ?_ | refine wG_call c2 rfl rfl ?_ | refine wG_pure (o_mkf rfl) ?_ | refine wG_callS hE2 rfl ?_ | (first
    | refine wC_a rfl ?_
    | refine q_s rfl ?_
    | refine q_b rfl ?_
    | refine wG_nil ?_
    | refine wG_g rfl ?_
    | refine wG_pure (o_len_vwm rfl) ?_
    | refine wG_pure (o_not_d rfl) ?_
    | refine wG_p rfl (by first | exact rfl | omega) ?_
    | refine wG_pure (o_str2 rfl rfl rfl) ?_
    | refine wG_pure (e_istr rfl rfl (by omega)) ?_
    | refine wG_pure (e_istr0 rfl rfl (by omega)) ?_
    | refine wG_pure (o_not rfl) ?_
    | refine wG_pure (e_ia_vw0 rfl rfl (by omega) rfl) ?_
    | refine wG_pure (e_ia_vwp rfl rfl (by omega) rfl) ?_
    | refine wG_pure (e_ia_vwm rfl rfl (by omega) (by omega) rfl) ?_
    | refine wG_pure (e_ia_vwi rfl rfl (by omega) rfl) ?_
    | refine wG_pure (e_ia_vwn rfl rfl (by omega) (by omega) rfl) ?_
    | refine wG_n rfl rfl ?_
    | refine wG_u rfl rfl ?_
    | refine wG_new (o_mks rfl rfl (by omega) (by decide)) ?_))
    simp only [dt]
    repeat (first
    | refine wC_a rfl ?_
    | refine q_s rfl ?_
    | refine q_b rfl ?_
    | refine wG_nil ?_
    | refine wG_g rfl ?_
    | refine wG_pure (o_len_vwm rfl) ?_
    | refine wG_pure (o_not_d rfl) ?_
    | refine wG_p rfl (by first | exact rfl | omega) ?_
    | refine wG_pure (o_str2 rfl rfl rfl) ?_
    | refine wG_pure (e_istr rfl rfl (by omega)) ?_
    | refine wG_pure (e_istr0 rfl rfl (by omega)) ?_
    | refine wG_pure (o_not rfl) ?_
    | refine wG_pure (e_ia_vw0 rfl rfl (by omega) rfl) ?_
    | refine wG_pure (e_ia_vwp rfl rfl (by omega) rfl) ?_
    | refine wG_pure (e_ia_vwm rfl rfl (by omega) (by omega) rfl) ?_
    | refine wG_pure (e_ia_vwi rfl rfl (by omega) rfl) ?_
    | refine wG_pure (e_ia_vwn rfl rfl (by omega) (by omega) rfl) ?_
    | refine wG_n rfl rfl ?_
    | refine wG_u rfl rfl ?_
    | refine wG_new (o_mks rfl rfl (by omega) (by decide)) ?_)
    exact ret_pl (.inr rfl) (retVs_2 (retV_mv rfl) (retV_mv rfl)) rfl rfl (by simp)
  · rw [if_neg ht]
    have dt : decide ((W : Int) = 0) = false := decide_eq_false ht
    have cM := Und.con71 P (by omega)
    obtain ⟨r, cD⟩ : ∃ r : Int, Con Try.prog 72 true [.int .u64 ((P * 1000 / 18446744073709551616 : Nat) : Int), .int .u64 ((P * 1000 % 18446744073709551616 : Nat) : Int), .int .u64 (W : Int)] (.tup [.int .u64 ((P * 1000 / W : Nat) : Int), .int .u64 r]) [] := by
      by_cases hz : P * 1000 / 18446744073709551616 = 0
      · rw [hz]
        have e1 : P * 1000 % 18446744073709551616 = P * 1000 := by omega
        rw [e1]
        exact ⟨_, Und.con72_0 (P * 1000) W (by omega) (by omega) (by omega)⟩
      · have e1 : P * 1000 / 18446744073709551616 * 18446744073709551616 + P * 1000 % 18446744073709551616 = P * 1000 := by omega
        have := Und.con72_1 (P * 1000 / 18446744073709551616) (P * 1000 % 18446744073709551616) W (by omega) (by omega) (by omega) (by omega)
        rwa [e1] at this
    have hq : P * 1000 / W ≤ 1000 := by
      refine Nat.div_le_of_le_mul ?_
      rw [Nat.mul_comm W]
      omega
    have hv : (1000 : Int) * (P : Int) / (W : Int) = ((P * 1000 / W : Nat) : Int) := by
      rw [Int.natCast_ediv, Int.natCast_mul, Int.mul_comm]; rfl
    rw [hv]
    generalize P * 1000 / W = Q at *
    refine con_of_wp mixed fun30 (by simp) [] plain_nil ?_
    unfold ac30 ro30
    simp only [zipT]
    repeat (first | refine wG_call c1 rfl rfl ?_ | refine wG_call c2 rfl rfl ?_ | refine wG_pure (o_mkf rfl) ?_ | refine wG_callS hE2 rfl ?_ | (first
    | refine wC_a rfl ?_
    | refine q_s rfl ?_
    | refine q_b rfl ?_
    | refine wG_nil ?_
    | refine wG_g rfl ?_
    | refine wG_pure (o_len_vwm rfl) ?_
    | refine wG_pure (o_not_d rfl) ?_
    | refine wG_p rfl (by first | exact rfl | omega) ?_
    | refine wG_pure (o_str2 rfl rfl rfl) ?_
    | refine wG_pure (e_istr rfl rfl (by omega)) ?_
    | refine wG_pure (e_istr0 rfl rfl (by omega)) ?_
    | refine wG_pure (o_not rfl) ?_
    | refine wG_pure (e_ia_vw0 rfl rfl (by omega) rfl) ?_
    | refine wG_pure (e_ia_vwp rfl rfl (by omega) rfl) ?_
    | refine wG_pure (e_ia_vwm rfl rfl (by omega) (by omega) rfl) ?_
    | refine wG_pure (e_ia_vwi rfl rfl (by omega) rfl) ?_
    | refine wG_pure (e_ia_vwn rfl rfl (by omega) (by omega) rfl) ?_
    | refine wG_n rfl rfl ?_
    | refine wG_u rfl rfl ?_
    | refine wG_new (o_mks rfl rfl (by omega) (by decide)) ?_))
    simp only [dt]
    repeat (first | refine wG_pure (o_cvu rfl (by omega)) ?_ | refine wG_pure (o_cvs rfl (by omega)) ?_ | refine wG_call cM rfl rfl ?_ | refine wG_call cD rfl rfl ?_ | (first
    | refine wC_a rfl ?_
    | refine q_s rfl ?_
    | refine q_b rfl ?_
    | refine wG_nil ?_
    | refine wG_g rfl ?_
    | refine wG_pure (o_len_vwm rfl) ?_
    | refine wG_pure (o_not_d rfl) ?_
    | refine wG_p rfl (by first | exact rfl | omega) ?_
    | refine wG_pure (o_str2 rfl rfl rfl) ?_
    | refine wG_pure (e_istr rfl rfl (by omega)) ?_
    | refine wG_pure (e_istr0 rfl rfl (by omega)) ?_
    | refine wG_pure (o_not rfl) ?_
    | refine wG_pure (e_ia_vw0 rfl rfl (by omega) rfl) ?_
    | refine wG_pure (e_ia_vwp rfl rfl (by omega) rfl) ?_
    | refine wG_pure (e_ia_vwm rfl rfl (by omega) (by omega) rfl) ?_
    | refine wG_pure (e_ia_vwi rfl rfl (by omega) rfl) ?_
    | refine wG_pure (e_ia_vwn rfl rfl (by omega) (by omega) rfl) ?_
    | refine wG_n rfl rfl ?_
    | refine wG_u rfl rfl ?_
    | refine wG_new (o_mks rfl rfl (by omega) (by decide)) ?_))
    exact ret_pl (.inr rfl) (retVs_2 (retV_mv rfl) (retV_mv rfl)) rfl rfl (by simp)
theorem outl_both (c : Bool) (m : Md) (xs : List Ev) (h3 : xs.length ≤ 1048576) (hL : LenE xs 1048576) (x : Int) : ∃ z p, Con Try.prog 29 true [.agg (mdR c m xs), .int .i64 x] (.tup [.int .i64 z, .bool p]) [] ∧ Con Try.prog 30 true [.agg (mdR c m xs), .int .i64 x] (.tup [.int .i64 z, .bool p]) [] := by
  by_cases hk : okO m xs x
  · obtain ⟨hG, h0, h1⟩ := hk
    obtain ⟨e, rfl⟩ := Int.eq_ofNat_of_zero_le h0
    have he : e < xs.length := by omega
    have cS := con29_yes c m xs h3 hL hG he
    have cI := con30_yes c m xs h3 hL hG he
    unfold oV at cS cI
    split at cS
    · rename_i h
      rw [if_pos h] at cI
      exact ⟨_, _, cS, cI⟩
    · rename_i h
      rw [if_neg h] at cI
      exact ⟨_, _, cS, cI⟩
  · exact ⟨_, _, con29_no c m xs x h3 hL hk, con30_no c m xs x h3 hL hk⟩
end Go.Proofs.Ytnohaclnpbpjbaa.Dst
