/- Dates of events: the specification. -/
import Derived.Test.YtnohaclnpbpjbaaPmL
namespace Go.Proofs.Ytnohaclnpbpjbaa.Dst
open Go Go.Proofs.Ytnohaclnpbpjbaa.Ab Go.Proofs.Ytnohaclnpbpjbaa.Il
attribute [local irreducible] wpO wpC wpDr wpQ wpG wpE stepA seqQ blkQ Ret RetG ev
set_option maxRecDepth 10000
set_option maxHeartbeats 8000000
set_option linter.unusedSimpArgs false
set_option linter.unusedVariables false

def ac36 : AC := (.seq (.reg [⟨(some 2), none, (.box 4 true (.t 0))⟩, ⟨(some 4), none, (.alloc [(.int .i64 0), .nilS])⟩, ⟨(some 5), none, (.mv (.c (.bool false)))⟩]) (.seq (.seq (.reg [⟨(some 13), none, (.ld true 4 (.t 2))⟩, ⟨(some 14), none, (.call 39 [(.t 13)])⟩, ⟨(some 15), none, (.un .not (.t 14))⟩, ⟨(some 16), none, (.mv (.t 15))⟩, ⟨(some 17), (some (16, false)), (.mv (.t 1))⟩, ⟨(some 18), (some (16, false)), (.fa 3 (.t 2))⟩, ⟨(some 19), (some (16, false)), (.ld false 1 (.t 18))⟩, ⟨(some 20), (some (16, false)), (.len (.t 19))⟩, ⟨(some 21), (some (16, false)), (.bin .sub (.t 20) (.c (.int .i64 1)))⟩, ⟨(some 22), (some (16, false)), (.call 47 [(.t 17), (.c (.int .i64 0)), (.t 21)])⟩, ⟨(some 23), (some (16, false)), (.un .not (.t 22))⟩, ⟨(some 24), none, (.pick (.t 16) (.c (.bool true)) (.t 23))⟩]) (.cond (.t 24) (.seq (.reg [⟨(some 25), none, (.build [(.int .i64 0), .nilS] [])⟩, ⟨none, none, (.st 2 (.t 4) (.t 25))⟩, ⟨(some 5), none, (.mv (.c (.bool false)))⟩]) .ret) .skip)) (.seq (.reg [⟨(some 26), none, (.ld true 4 (.t 2))⟩, ⟨(some 27), none, (.call 63 [(.t 26)])⟩, ⟨(some 6), none, (.mv (.t 27))⟩]) (.seq (.reg [⟨(some 28), none, (.ld true 4 (.t 2))⟩, ⟨(some 29), none, (.call 73 [(.t 28)])⟩, ⟨(some 7), none, (.mv (.t 29))⟩]) (.seq (.reg [⟨(some 30), none, (.fa 3 (.t 2))⟩, ⟨(some 31), none, (.ld false 1 (.t 30))⟩, ⟨(some 32), none, (.mv (.t 1))⟩, ⟨(some 33), none, (.ia 4 (.t 31) (.t 32))⟩, ⟨(some 34), none, (.fa 0 (.t 33))⟩, ⟨(some 35), none, (.ld false 1 (.t 34))⟩, ⟨(some 8), none, (.mv (.t 35))⟩]) (.seq (.reg [⟨(some 36), none, (.fa 1 (.t 2))⟩, ⟨(some 37), none, (.ld false 1 (.t 36))⟩, ⟨(some 38), none, (.mks 1 8 [(.int .i64 0)] (.t 37) (.t 37))⟩, ⟨(some 9), none, (.mv (.t 38))⟩]) (.seq (.seq (.reg [⟨(some 10), none, (.mv (.c (.int .i64 0)))⟩]) (.blk 0 (.loop (.seq (.seq (.reg [⟨(some 39), none, (.mv (.t 10))⟩, ⟨(some 40), none, (.mv (.t 7))⟩, ⟨(some 41), none, (.len (.t 40))⟩, ⟨(some 42), none, (.bin .lss (.t 39) (.t 41))⟩]) (.cond (.t 42) .skip (.exit 0))) (.seq (.blk 1 (.seq (.dreg [⟨(some 45), none, (.ld true 4 (.t 2))⟩, ⟨(some 46), none, (.mv (.t 6))⟩, ⟨(some 47), none, (.mv (.t 7))⟩, ⟨(some 48), none, (.mv (.t 10))⟩, ⟨(some 49), none, (.ia 1 (.t 47) (.t 48))⟩, ⟨(some 50), none, (.ld false 1 (.t 49))⟩, ⟨(some 51), none, (.mv (.t 1))⟩, ⟨(some 52), none, (.call 74 [(.t 45), (.t 46), (.t 50), (.t 51)])⟩, ⟨(some 11), none, (.mv (.t 52))⟩] [[], [], [], [], [2, 3], [2, 3, 4], [], [0, 1, 2, 3, 4, 5, 6], [0, 1, 2, 3, 4, 5, 6, 7]]) (.seq (.reg [⟨(some 53), none, (.mv (.t 7))⟩, ⟨(some 54), none, (.mv (.t 10))⟩, ⟨(some 55), none, (.ia 1 (.t 53) (.t 54))⟩, ⟨(some 56), none, (.ld false 1 (.t 55))⟩, ⟨(some 57), none, (.mv (.t 8))⟩, ⟨(some 58), none, (.ia 1 (.t 56) (.t 57))⟩, ⟨(some 59), none, (.ld false 1 (.t 58))⟩, ⟨(some 12), none, (.mv (.t 59))⟩]) (.blk 2 (.loop (.seq (.seq (.reg [⟨(some 60), none, (.mv (.t 12))⟩, ⟨(some 61), none, (.mv (.t 7))⟩, ⟨(some 62), none, (.mv (.t 10))⟩, ⟨(some 63), none, (.ia 1 (.t 61) (.t 62))⟩, ⟨(some 64), none, (.ld false 1 (.t 63))⟩, ⟨(some 65), none, (.mv (.t 8))⟩, ⟨(some 66), none, (.bin .add (.t 65) (.c (.int .i64 1)))⟩, ⟨(some 67), none, (.ia 1 (.t 64) (.t 66))⟩, ⟨(some 68), none, (.ld false 1 (.t 67))⟩, ⟨(some 69), none, (.bin .leq (.t 60) (.t 68))⟩]) (.cond (.t 69) .skip (.exit 2))) (.seq (.blk 3 (.dreg [⟨(some 72), none, (.mv (.t 9))⟩, ⟨(some 73), none, (.mv (.t 12))⟩, ⟨(some 74), none, (.mv (.t 9))⟩, ⟨(some 75), none, (.mv (.t 12))⟩, ⟨(some 76), none, (.ia 1 (.t 74) (.t 75))⟩, ⟨(some 77), none, (.ld false 1 (.t 76))⟩, ⟨(some 78), none, (.mv (.t 11))⟩, ⟨(some 79), none, (.mv (.t 6))⟩, ⟨(some 80), none, (.mv (.t 1))⟩, ⟨(some 81), none, (.ia 1 (.t 79) (.t 80))⟩, ⟨(some 82), none, (.ld false 1 (.t 81))⟩, ⟨(some 83), none, (.mv (.t 12))⟩, ⟨(some 84), none, (.ia 1 (.t 82) (.t 83))⟩, ⟨(some 85), none, (.ld false 1 (.t 84))⟩, ⟨(some 86), none, (.bin .mul (.t 78) (.t 85))⟩, ⟨(some 87), none, (.bin .add (.t 77) (.t 86))⟩, ⟨(some 88), none, (.ia 1 (.t 72) (.t 73))⟩, ⟨none, none, (.st 1 (.t 88) (.t 87))⟩] [[], [], [], [], [2, 3], [2, 3, 4], [], [], [], [7, 8], [7, 8, 9], [], [7, 8, 9, 10, 11], [7, 8, 9, 10, 11, 12], [6, 7, 8, 9, 10, 11, 12, 13], [2, 3, 4, 5, 6, 7, 8, 9, 10, 11, 12, 13, 14], [0, 1, 2, 3, 4, 5, 6, 7, 8, 9, 10, 11, 12, 13, 14, 15], [0, 1, 2, 3, 4, 5, 6, 7, 8, 9, 10, 11, 12, 13, 14, 15, 16]])) (.reg [⟨(some 70), none, (.mv (.t 12))⟩, ⟨(some 71), none, (.bin .add (.t 70) (.c (.int .i64 1)))⟩, ⟨(some 12), none, (.mv (.t 71))⟩])))))))) (.reg [⟨(some 43), none, (.mv (.t 10))⟩, ⟨(some 44), none, (.bin .add (.t 43) (.c (.int .i64 1)))⟩, ⟨(some 10), none, (.mv (.t 44))⟩])))))) (.seq (.reg [⟨(some 89), none, (.fa 0 (.t 2))⟩, ⟨(some 90), none, (.ld false 1 (.t 89))⟩, ⟨(some 91), none, (.mv (.t 9))⟩, ⟨(some 92), none, (.call 53 [(.t 90), (.t 91)])⟩, ⟨(some 93), none, (.ext (.t 92) 0)⟩, ⟨(some 94), none, (.ext (.t 92) 1)⟩, ⟨none, none, (.st 2 (.t 4) (.t 93))⟩, ⟨(some 5), none, (.mv (.t 94))⟩]) .ret))))))))
def ro36 : List AOp := [(.ld true 2 (.t 4)), (.mv (.t 5))]
theorem fun36 : Fun Try.prog 36 95 ac36 ro36 := ⟨Try.f36, _, Try.func36, by kernel_rfl, rfl, rfl, by kernel_rfl, by kernel_rfl, by decide⟩

/-- A weight for each year from A on. -/
def inE (g : Nat → Int) (ws : List Int) (A : Nat) : Nat → List Int
  | 0 => ws
  | n + 1 => (inE g ws A n).set (A + n) (IntKind.i64.wrap ((inE g ws A n).getD (A + n) default + g (A + n)))
theorem inE_len (g : Nat → Int) (ws : List Int) (A : Nat) : ∀ n, (inE g ws A n).length = ws.length
  | 0 => rfl
  | n + 1 => by rw [inE, List.length_set, inE_len g ws A n]
theorem inE_get (g : Nat → Int) (ws : List Int) (A : Nat) {j : Nat} (hj : j < ws.length) : ∀ n, (inE g ws A n).getD j default = if A ≤ j ∧ j < A + n then IntKind.i64.wrap (ws.getD j default + g j) else ws.getD j default
  | 0 => by rw [if_neg (by omega)]; rfl
  | n + 1 => by
    rw [inE]
    have ih := inE_get g ws A hj n
    have hl := inE_len g ws A n
    by_cases e : A + n = j
    · subst e
      rw [List.getD_eq_getElem?_getD, List.getElem?_set_self (by omega)]
      simp only [Option.getD_some]
      rw [ih, if_neg (by omega), if_pos (by omega)]
    · rw [List.getD_eq_getElem?_getD, List.getElem?_set_ne e, ← List.getD_eq_getElem?_getD, ih]
      by_cases h : A ≤ j ∧ j < A + n
      · rw [if_pos h, if_pos (by omega)]
      · rw [if_neg h, if_neg (by omega)]
def rW (m : Md) (xs : List Ev) (e : Nat) (b : List Nat) : Int := lw xs (gE m xs (-1)) b (e : Int) xs.length
def gV (m : Md) (xs : List Ev) (e : Nat) (b : List Nat) (y : Nat) : Int := rW m xs e b * ew m (xs.getD e default) false y
def stE (m : Md) (xs : List Ev) (e : Nat) (ws : List Int) (b : List Nat) : List Int := inE (gV m xs e b) ws (gN b (pE xs e)) (gN b (pE xs e + 1) + 1 - gN b (pE xs e))
def vE (m : Md) (xs : List Ev) (e i : Nat) : List Int := ((aL m).take i).foldl (stE m xs e) (List.replicate m.y.toNat 0)
theorem vE_up {m : Md} {xs : List Ev} {e i : Nat} (h : i < (aL m).length) : vE m xs e (i + 1) = stE m xs e (vE m xs e i) ((aL m).getD i []) := by
  unfold vE
  rw [foldl_take _ _ _ h]
  simp [List.getD_eq_getElem?_getD, List.getElem?_eq_getElem h]
theorem gV_b {m : Md} {xs : List Ev} (hG : GoodM m xs) {e : Nat} (he : e < xs.length) {b : List Nat} (hb : GoodB m.y.toNat (m.p.toNat + 1) b) (y : Nat) : (0 ≤ rW m xs e b ∧ rW m xs e b ≤ 1000000000000000) ∧ (0 ≤ ew m (xs.getD e default) false y ∧ ew m (xs.getD e default) false y ≤ 120000000000) ∧ 0 ≤ gV m xs e b y ∧ gV m xs e b y ≤ 1000000000000000 := by
  have h1 := lw_15 hG hb (-1) (e : Int) (Nat.le_refl xs.length)
  have h2 := ew_fac hG he false y
  have h3 := lw_fac hG hb (-1) he
  have h4 := fac_b (x := xs.getD e default) hG.1 (hG.2.2.2.2 e he).2.1
  refine ⟨h1, ⟨h2.1, by omega⟩, Int.mul_nonneg h1.1 h2.1, ?_⟩
  exact Int.le_trans (Int.mul_le_mul_of_nonneg_left h2.2 h1.1) h3
theorem vE_b {m : Md} {xs : List Ev} (hG : GoodM m xs) {e : Nat} (he : e < xs.length) : ∀ i, i ≤ (aL m).length → (vE m xs e i).length = m.y.toNat ∧ bnd (vE m xs e i) (i * 1000000000000000)
  | 0, _ => ⟨by simp [vE], fun j hj => by
      have : (vE m xs e 0).getD j default = 0 := by
        simp only [vE, List.take_zero, List.foldl_nil, List.getD_eq_getElem?_getD, List.getElem?_replicate]
        split <;> rfl
      rw [this]; omega⟩
  | i + 1, hi => by
    obtain ⟨l1, b1⟩ := vE_b hG he i (by omega)
    have h8 := aL_len hG
    have hf := fun y => (gV_b hG he (aL_good (m := m) (i := i) (by omega)) y).2.2
    rw [vE_up (by omega)]
    generalize (aL m).getD i [] = b at *
    refine ⟨by rw [stE, inE_len]; exact l1, fun j hj => ?_⟩
    rw [stE, inE_len] at hj
    have bj := b1 j hj
    have fj := hf j
    rw [stE, inE_get _ _ _ hj]
    split
    · rw [IntKind.wrap_i64]; omega
    · omega
theorem con36_all (c : Bool) (m : Md) (xs : List Ev) (h3 : xs.length ≤ 1048576) (hL : LenE xs 1048576) (hG : GoodM m xs) {e : Nat} (he : e < xs.length) (v : AV) (rs : List Nat) (objs : List Ab.Rows) (hv : v.nvf = true) (hp : PlainObjs objs)
    (hend : (mkOK m.f (scO (vE m xs e (aL m).length)) → v = mYes (mkO m.f (scO (vE m xs e (aL m).length))) ∧ rs = [w0 m xs + 1] ∧ objs = [(mkO m.f (scO (vE m xs e (aL m).length))).ws.map iRow]) ∧ (¬ mkOK m.f (scO (vE m xs e (aL m).length)) → v = mNo ∧ rs = [] ∧ objs = [])) :
    Con Try.prog 36 true [.agg (mdR c m xs), .int .i64 (e : Int)] v objs := by
  classical
  suffices key : Con Try.prog 36 v.nvf [.agg (mdR c m xs), .int .i64 (e : Int)] v objs by rwa [hv] at key
  refine con_of_wp mixed fun36 (by simp) rs hp ?_
  unfold ac36 ro36
  simp only [zipT]
  have c1 := con39 c m xs h3 hL
  rw [decide_eq_true hG] at c1
  have c2 := con47 (e : Int) 0 ((xs.length : Int) - 1)
  rw [decide_eq_true ⟨by omega, by omega⟩] at c2
  have cA := con63 c m xs hG
  have cB := con73 c m xs hG
  have h8 := aL_len hG
  have hag := aL_get m
  have hbl : (bI m (m.p.toNat + 1)).length = (aL m).length := bI_len _ _
  have hpl := pL_len m xs (-1) xs.length
  have hpg := pL_get (m := m) (xs := xs) (k := -1) he
  rw [gE_m1] at hpg
  have hY := hG.1
  have hf := hG.2.1
  have hPb := hG.2.2.1
  have hn4 := hG.2.2.2.1
  have hpe := (hG.2.2.2.2 e he).1
  have eP : 0 + ((xs.getD e default).p).toNat = pE xs e := by simp [pE]
  have eP1 : 0 + ((xs.getD e default).p + 1).toNat = pE xs e + 1 := by unfold pE; omega
  have hPn : pE xs e + 1 < m.p.toNat + 1 := by unfold pE; omega
  have e0 : ∀ n : Nat, 0 + ((n : Int)).toNat = n := fun n => by simp
  have hw0 : 0 + 1 + 1 + (xs.length + 1) + ((aL m).length + 1) = w0 m xs := rfl
  generalize bI m (m.p.toNat + 1) = L at *
  have cw := fun b (hb : GoodB m.y.toNat (m.p.toNat + 1) b) => con74 c true true m xs hG (-1) b hb (e : Int)
  generalize pL m xs (-1) xs.length = PP at *
  repeat (first | refine wG_call c1 rfl rfl ?_ | refine wG_call c2 rfl rfl ?_ | (first
    | refine wC_a rfl ?_
    | refine q_s rfl ?_
    | refine q_b rfl ?_
    | refine wG_nil ?_
    | refine wG_g rfl ?_
    | refine wG_pure (o_len_vwm rfl) ?_
    | refine wG_pure (o_not_d rfl) ?_
    | refine wG_p rfl (by first | exact rfl | omega) ?_
    | refine wG_pure (o_str2 rfl rfl rfl) ?_
    | refine wG_pure (e_istr rfl rfl (by omega)) ?_
    | refine wG_pure (e_istr0 rfl rfl (by omega)) ?_
    | refine wG_pure (o_not rfl) ?_
    | refine wG_pure (e_ia_vw0 rfl rfl (by omega) rfl) ?_
    | refine wG_pure (e_ia_vwp rfl rfl (by omega) rfl) ?_
    | refine wG_pure (e_ia_vwm rfl rfl (by omega) (by omega) rfl) ?_
    | refine wG_pure (e_ia_vwi rfl rfl (by omega) rfl) ?_
    | refine wG_pure (e_ia_vwn rfl rfl (by omega) (by omega) rfl) ?_
    | refine wG_n rfl rfl ?_
    | refine wG_u rfl rfl ?_
    | refine wG_new (o_mks rfl rfl (by omega) (by decide)) ?_))
  refine wG_callG (v' := .sl 2 1 0 PP.length) cA rfl rfl rfl ?_
  rw [hT_eq, teL_len]
  obtain ⟨q2, hq2⟩ : ∃ q2, 0 + 1 + 1 + (PP.length + 1) = q2 := ⟨_, rfl⟩
  rw [hq2]
  have h0' : hg (hQ (0 + 1 + 1) (0 + 1 + 1 + 1) PP [(1, some [[.int .i64 0, .nilS]]), (0, some [mdR c m xs])]) 0 = some [mdR c m xs] := hQ_out (by omega) (by omega) (hg_skip (by omega) hg_here)
  repeat (first | refine wG_pure (o_ldt_pt rfl h0' rfl rfl rfl) ?_ | (first
    | refine wC_a rfl ?_
    | refine q_s rfl ?_
    | refine q_b rfl ?_
    | refine wG_nil ?_
    | refine wG_g rfl ?_
    | refine wG_pure (o_len_vwm rfl) ?_
    | refine wG_pure (o_not_d rfl) ?_
    | refine wG_p rfl (by first | exact rfl | omega) ?_
    | refine wG_pure (o_str2 rfl rfl rfl) ?_
    | refine wG_pure (e_istr rfl rfl (by omega)) ?_
    | refine wG_pure (e_istr0 rfl rfl (by omega)) ?_
    | refine wG_pure (o_not rfl) ?_
    | refine wG_pure (e_ia_vw0 rfl rfl (by omega) rfl) ?_
    | refine wG_pure (e_ia_vwp rfl rfl (by omega) rfl) ?_
    | refine wG_pure (e_ia_vwm rfl rfl (by omega) (by omega) rfl) ?_
    | refine wG_pure (e_ia_vwi rfl rfl (by omega) rfl) ?_
    | refine wG_pure (e_ia_vwn rfl rfl (by omega) (by omega) rfl) ?_
    | refine wG_n rfl rfl ?_
    | refine wG_u rfl rfl ?_
    | refine wG_new (o_mks rfl rfl (by omega) (by decide)) ?_))
  refine wG_callG (v' := .sl q2 1 0 L.length) cB rfl rfl rfl ?_
  rw [hT_eq, teL_len]
  obtain ⟨w, hw⟩ : ∃ w, q2 + (L.length + 1) = w := ⟨_, rfl⟩
  rw [hw]
  have hww : w = w0 m xs := by omega
  rw [← hww] at hend
  have h0 : hg (hQ q2 (q2 + 1) L (hQ (0 + 1 + 1) (0 + 1 + 1 + 1) PP [(1, some [[.int .i64 0, .nilS]]), (0, some [mdR c m xs])])) 0 = some [mdR c m xs] := hQ_out (by omega) (by omega) h0'
  have h1 : hg (hQ q2 (q2 + 1) L (hQ (0 + 1 + 1) (0 + 1 + 1 + 1) PP [(1, some [[.int .i64 0, .nilS]]), (0, some [mdR c m xs])])) 1 = some [[.int .i64 0, .nilS]] := hQ_out (by omega) (by omega) (hQ_out (by omega) (by omega) hg_here)
  have hPP : ∀ i rows, (teL PP)[i]? = some rows → hg (hQ q2 (q2 + 1) L (hQ (0 + 1 + 1) (0 + 1 + 1 + 1) PP [(1, some [[.int .i64 0, .nilS]]), (0, some [mdR c m xs])])) (2 + i) = some (shR 2 rows) := fun i rows hi => by
    have := teL_lt hi
    exact hQ_out (by omega) (by omega) (hQ_te hi)
  have hP2 : hg (hQ q2 (q2 + 1) L (hQ (0 + 1 + 1) (0 + 1 + 1 + 1) PP [(1, some [[.int .i64 0, .nilS]]), (0, some [mdR c m xs])])) 2 = some (nR hI 3 PP PP.length zI) := hQ_out (by omega) (by omega) hQ_q
  have hP3 : hg (hQ q2 (q2 + 1) L (hQ (0 + 1 + 1) (0 + 1 + 1 + 1) PP [(1, some [[.int .i64 0, .nilS]]), (0, some [mdR c m xs])])) (3 + e) = some ((PP.getD e default).map iRow) := hQ_out (by omega) (by omega) (hQ_in (by omega) (by omega))
  have hLq : hg (hQ q2 (q2 + 1) L (hQ (0 + 1 + 1) (0 + 1 + 1 + 1) PP [(1, some [[.int .i64 0, .nilS]]), (0, some [mdR c m xs])])) q2 = some (nR hI (q2 + 1) L L.length zI) := hQ_q
  have hLi : ∀ i, i < L.length → hg (hQ q2 (q2 + 1) L (hQ (0 + 1 + 1) (0 + 1 + 1 + 1) PP [(1, some [[.int .i64 0, .nilS]]), (0, some [mdR c m xs])])) (q2 + 1 + i) = some ((L.getD i default).map iRow) := fun i hi => hQ_in hi (by omega)
  have hwfH : wfH (hQ q2 (q2 + 1) L (hQ (0 + 1 + 1) (0 + 1 + 1 + 1) PP [(1, some [[.int .i64 0, .nilS]]), (0, some [mdR c m xs])])) (w + 1) := hQ_wf (by omega) (by omega) (hQ_wf (by omega) (by omega) (wfH_cons (by omega) (by simp [AV.ltr]) (wfH_cons (by omega) (mdR_ltr1' _) wfH_nil)))
  change wpG _ _ _ ⟨_, hQ q2 (q2 + 1) L (hQ (0 + 1 + 1) (0 + 1 + 1 + 1) PP [(1, some [[.int .i64 0, .nilS]]), (0, some [mdR c m xs])]), _⟩ _
  generalize hQ q2 (q2 + 1) L (hQ (0 + 1 + 1) (0 + 1 + 1 + 1) PP [(1, some [[.int .i64 0, .nilS]]), (0, some [mdR c m xs])]) = H0 at *
  have hrowP := hQ_row (b := 3) (L := PP) (i := e) (by omega)
  rw [hpg, lG_len] at hrowP
  rw [hpg] at hP3
  have hrep : List.replicate m.y.toNat [AV.int .i64 0] = (vE m xs e 0).map iRow := by
    show _ = (List.replicate m.y.toNat (0 : Int)).map iRow
    rw [List.map_replicate]; rfl
  repeat (first | refine wG_pure (o_ldf_pt rfl h0 rfl rfl) ?_ | refine wG_new (o_mksZ (n := m.y.toNat) (by omega) rfl rfl (by omega) (by decide)) ?_ | (first
    | refine wC_a rfl ?_
    | refine q_s rfl ?_
    | refine q_b rfl ?_
    | refine wG_nil ?_
    | refine wG_g rfl ?_
    | refine wG_pure (o_len_vwm rfl) ?_
    | refine wG_pure (o_not_d rfl) ?_
    | refine wG_p rfl (by first | exact rfl | omega) ?_
    | refine wG_pure (o_str2 rfl rfl rfl) ?_
    | refine wG_pure (e_istr rfl rfl (by omega)) ?_
    | refine wG_pure (e_istr0 rfl rfl (by omega)) ?_
    | refine wG_pure (o_not rfl) ?_
    | refine wG_pure (e_ia_vw0 rfl rfl (by omega) rfl) ?_
    | refine wG_pure (e_ia_vwp rfl rfl (by omega) rfl) ?_
    | refine wG_pure (e_ia_vwm rfl rfl (by omega) (by omega) rfl) ?_
    | refine wG_pure (e_ia_vwi rfl rfl (by omega) rfl) ?_
    | refine wG_pure (e_ia_vwn rfl rfl (by omega) (by omega) rfl) ?_
    | refine wG_n rfl rfl ?_
    | refine wG_u rfl rfl ?_
    | refine wG_new (o_mks rfl rfl (by omega) (by decide)) ?_))
  refine wC_loopX Nat (fun i => ⟨[(1, .int .i64 (e : Int)), (2, .pt 0 0 0), (4, .pt 1 0 0), (6, .sl 2 1 0 PP.length), (7, .sl q2 1 0 L.length), (8, .int .i64 (xs.getD e default).p), (9, .sl w 1 0 m.y.toNat), (10, .int .i64 (i : Int))], (w, some ((vE m xs e i).map iRow)) :: H0, w + 1⟩) (fun i => i ≤ L.length) (fun i => L.length - i) 0 (Nat.zero_le _) ?_ ?_
  · rw [hrep]
    exact .inl (Le_of ⟨⟨rfl, rfl⟩, ⟨rfl, by simp only [AV.ltr, decide_eq_true_eq]; show _ < w + 1; omega⟩, ⟨rfl, by simp only [AV.ltr, decide_eq_true_eq]; show _ < w + 1; omega⟩, ⟨rfl, by simp only [AV.ltr, decide_eq_true_eq]; show _ < w + 1; omega⟩, ⟨rfl, by simp only [AV.ltr, decide_eq_true_eq]; show _ < w + 1; omega⟩, ⟨rfl, rfl⟩, ⟨rfl, by simp only [AV.ltr, decide_eq_true_eq]; show _ < w + 1; omega⟩, ⟨rfl, rfl⟩, trivial⟩ (fun q rows hq => hq) (wfH_cons (by show w < w + 1; omega) (ltrI _ _) hwfH))
  intro i hi
  obtain ⟨ml, mb⟩ := vE_b hG he i (by omega)
  repeat (first
    | refine wC_a rfl ?_
    | refine q_s rfl ?_
    | refine q_b rfl ?_
    | refine wG_nil ?_
    | refine wG_g rfl ?_
    | refine wG_pure (o_len_vwm rfl) ?_
    | refine wG_pure (o_not_d rfl) ?_
    | refine wG_p rfl (by first | exact rfl | omega) ?_
    | refine wG_pure (o_str2 rfl rfl rfl) ?_
    | refine wG_pure (e_istr rfl rfl (by omega)) ?_
    | refine wG_pure (e_istr0 rfl rfl (by omega)) ?_
    | refine wG_pure (o_not rfl) ?_
    | refine wG_pure (e_ia_vw0 rfl rfl (by omega) rfl) ?_
    | refine wG_pure (e_ia_vwp rfl rfl (by omega) rfl) ?_
    | refine wG_pure (e_ia_vwm rfl rfl (by omega) (by omega) rfl) ?_
    | refine wG_pure (e_ia_vwi rfl rfl (by omega) rfl) ?_
    | refine wG_pure (e_ia_vwn rfl rfl (by omega) (by omega) rfl) ?_
    | refine wG_n rfl rfl ?_
    | refine wG_u rfl rfl ?_
    | refine wG_new (o_mks rfl rfl (by omega) (by decide)) ?_)
  refine wC_cond_d rfl (fun h5 => ?_) (fun h5 => ?_)
  · have hi2 : i < (aL m).length := by omega
    have gB := aL_good hi2
    have hin := hLi i (by omega)
    have hrow := hQ_row (b := q2 + 1) (L := L) (i := i) (by omega)
    rw [hag, ci_len] at hrow
    rw [hag, cb] at hin
    have hup := vE_up (xs := xs) (e := e) hi2
    have cw := cw _ gB
    have gvb := gV_b hG he gB
    generalize (aL m).getD i [] = b at *
    have hbl2 := gB.len
    have b1 := gB.lt (pE xs e) (by omega)
    have b2 := gB.mono (pE xs e) hPn
    have b3 := gB.lt (pE xs e + 1) hPn
    have gi : (b.map nRow)[pE xs e]? = some (nRow (gN b (pE xs e))) := nGet (by omega)
    have gi1 : (b.map nRow)[pE xs e + 1]? = some (nRow (gN b (pE xs e + 1))) := nGet (by omega)
    have nw : ∀ x, x < w → x ≠ w := fun x h => by omega
    have hP' : ∀ ws i' rows, (teL PP)[i']? = some rows → hg ((w, ws) :: H0) (2 + i') = some (shR 2 rows) := fun ws i' rows hi' => by
      have := teL_lt hi'
      exact hg_skip (by omega) (hPP i' rows hi')
    have hrw : lw xs (gE m xs (-1)) b (e : Int) xs.length = rW m xs e b := rfl
    rw [hrw] at cw
    repeat (first | refine wC_dregE ?_ | refine wE_v (o_ldt_pt rfl (hg_skip (by omega) h0) rfl rfl rfl) rfl ?_ | (refine wE_v (e_ia_sl rfl rfl (by omega) (by omega)) rfl ?_; simp only [eP, eP1, e0]) | (refine wG_pure (e_ia_sl rfl rfl (by omega) (by omega)) ?_; simp only [eP, eP1, e0]) | refine wG_pure (o_ldf_pt rfl (hg_skip (nw _ (by omega)) hLq) hrow rfl) ?_ | refine wG_pure (o_ldf_pt rfl (hg_skip (nw _ (by omega)) hin) gi rfl) ?_ | refine wE_v (o_ldf_pt rfl (hg_skip (nw _ (by omega)) hLq) hrow rfl) rfl ?_ | refine wE_call cw (ag_any rfl (ag_any (dr_L PP (hP' _)) (ag_sl rfl (hg_skip (nw _ (by omega)) hin) rfl nRow_plain (ag_int rfl ag_nil)))) rfl rfl ?_ | (first
    | refine wC_a rfl ?_
    | refine q_s rfl ?_
    | refine q_b rfl ?_
    | refine wG_nil ?_
    | refine wG_g rfl ?_
    | refine wG_pure (o_len_vwm rfl) ?_
    | refine wG_pure (o_not_d rfl) ?_
    | refine wG_p rfl (by first | exact rfl | omega) ?_
    | refine wG_pure (o_str2 rfl rfl rfl) ?_
    | refine wG_pure (e_istr rfl rfl (by omega)) ?_
    | refine wG_pure (e_istr0 rfl rfl (by omega)) ?_
    | refine wG_pure (o_not rfl) ?_
    | refine wG_pure (e_ia_vw0 rfl rfl (by omega) rfl) ?_
    | refine wG_pure (e_ia_vwp rfl rfl (by omega) rfl) ?_
    | refine wG_pure (e_ia_vwm rfl rfl (by omega) (by omega) rfl) ?_
    | refine wG_pure (e_ia_vwi rfl rfl (by omega) rfl) ?_
    | refine wG_pure (e_ia_vwn rfl rfl (by omega) (by omega) rfl) ?_
    | refine wG_n rfl rfl ?_
    | refine wG_u rfl rfl ?_
    | refine wG_new (o_mks rfl rfl (by omega) (by decide)) ?_) | (first
    | refine wE_nil (by kernel_rfl) ?_
    | refine wE_gy rfl ?_
    | refine wE_gn rfl rfl rfl ?_
    | refine wE_gu rfl rfl ?_
    | refine wE_gnn rfl rfl rfl ?_
    | refine wE_v (o_len_vwm rfl) rfl ?_
    | refine wE_v (o_not_d rfl) rfl ?_
    | refine wE_p rfl (by first | exact rfl | omega) rfl ?_
    | refine wE_v (o_str2 rfl rfl rfl) rfl ?_
    | refine wE_v (e_istr rfl rfl (by omega)) rfl ?_
    | refine wE_v (e_istr0 rfl rfl (by omega)) rfl ?_
    | refine wE_v (o_not rfl) rfl ?_
    | refine wE_v (e_ia_vw0 rfl rfl (by omega) rfl) rfl ?_
    | refine wE_v (e_ia_vwp rfl rfl (by omega) rfl) rfl ?_
    | refine wE_v (e_ia_vwm rfl rfl (by omega) (by omega) rfl) rfl ?_
    | refine wE_v (e_ia_vwi rfl rfl (by omega) rfl) rfl ?_
    | refine wE_v (e_ia_vwn rfl rfl (by omega) (by omega) rfl) rfl ?_
    | refine wE_n rfl rfl rfl ?_
    | refine wE_u rfl rfl rfl ?_
    | refine wE_new (o_mks rfl rfl (by omega) (by decide)) rfl ?_))
    refine wC_loopX Nat (fun n => ⟨[(1, .int .i64 (e : Int)), (2, .pt 0 0 0), (4, .pt 1 0 0), (6, .sl 2 1 0 PP.length), (7, .sl q2 1 0 L.length), (8, .int .i64 (xs.getD e default).p), (9, .sl w 1 0 m.y.toNat), (10, .int .i64 (i : Int)), (11, .int .i64 (rW m xs e b)), (12, .int .i64 ((gN b (pE xs e) + n : Nat) : Int))], (w, some ((inE (gV m xs e b) (vE m xs e i) (gN b (pE xs e)) n).map iRow)) :: H0, w + 1⟩) (fun n => n ≤ gN b (pE xs e + 1) + 1 - gN b (pE xs e)) (fun n => gN b (pE xs e + 1) + 1 - gN b (pE xs e) - n) 0 (Nat.zero_le _) ?_ ?_
    · exact .inl (Le_of ⟨⟨rfl, rfl⟩, ⟨rfl, by simp only [AV.ltr, decide_eq_true_eq]; show _ < w + 1; omega⟩, ⟨rfl, by simp only [AV.ltr, decide_eq_true_eq]; show _ < w + 1; omega⟩, ⟨rfl, by simp only [AV.ltr, decide_eq_true_eq]; show _ < w + 1; omega⟩, ⟨rfl, by simp only [AV.ltr, decide_eq_true_eq]; show _ < w + 1; omega⟩, ⟨rfl, rfl⟩, ⟨rfl, by simp only [AV.ltr, decide_eq_true_eq]; show _ < w + 1; omega⟩, ⟨rfl, rfl⟩, ⟨rfl, rfl⟩, ⟨rfl, rfl⟩, trivial⟩ (fun q rows hq => hq) (wfH_cons (by show w < w + 1; omega) (ltrI _ _) hwfH))
    intro n hn
    have hil := inE_len (gV m xs e b) (vE m xs e i) (gN b (pE xs e)) n
    repeat (first | (refine wG_pure (e_ia_sl rfl rfl (by omega) (by omega)) ?_; simp only [eP, eP1, e0]) | refine wG_pure (o_ldf_pt rfl (hg_skip (nw _ (by omega)) hLq) hrow rfl) ?_ | refine wG_pure (o_ldf_pt rfl (hg_skip (nw _ (by omega)) hin) gi1 rfl) ?_ | (first
    | refine wC_a rfl ?_
    | refine q_s rfl ?_
    | refine q_b rfl ?_
    | refine wG_nil ?_
    | refine wG_g rfl ?_
    | refine wG_pure (o_len_vwm rfl) ?_
    | refine wG_pure (o_not_d rfl) ?_
    | refine wG_p rfl (by first | exact rfl | omega) ?_
    | refine wG_pure (o_str2 rfl rfl rfl) ?_
    | refine wG_pure (e_istr rfl rfl (by omega)) ?_
    | refine wG_pure (e_istr0 rfl rfl (by omega)) ?_
    | refine wG_pure (o_not rfl) ?_
    | refine wG_pure (e_ia_vw0 rfl rfl (by omega) rfl) ?_
    | refine wG_pure (e_ia_vwp rfl rfl (by omega) rfl) ?_
    | refine wG_pure (e_ia_vwm rfl rfl (by omega) (by omega) rfl) ?_
    | refine wG_pure (e_ia_vwi rfl rfl (by omega) rfl) ?_
    | refine wG_pure (e_ia_vwn rfl rfl (by omega) (by omega) rfl) ?_
    | refine wG_n rfl rfl ?_
    | refine wG_u rfl rfl ?_
    | refine wG_new (o_mks rfl rfl (by omega) (by decide)) ?_))
    refine wC_cond_d rfl (fun h6 => ?_) (fun h6 => ?_)
    · obtain ⟨v1, v2, v3⟩ := gvb (gN b (pE xs e) + n)
      have v3' := v3
      unfold gV at v3'
      have gk : ((inE (gV m xs e b) (vE m xs e i) (gN b (pE xs e)) n).map iRow)[gN b (pE xs e) + n]? = some (iRow ((inE (gV m xs e b) (vE m xs e i) (gN b (pE xs e)) n).getD (gN b (pE xs e) + n) default)) := iGet (by omega)
      have gp : ((lG m.y.toNat (ew m (xs.getD e default) false)).map iRow)[gN b (pE xs e) + n]? = some (iRow (ew m (xs.getD e default) false (gN b (pE xs e) + n))) := by
        rw [iGet (by rw [lG_len]; omega), lG_get (by omega)]
      repeat (first | refine wC_dregE ?_ | (refine wE_v (e_ia_sl rfl rfl (by omega) (by omega)) rfl ?_; simp only [eP, eP1, e0]) | refine wE_v (o_ldf_pt rfl hg_here gk rfl) rfl ?_ | refine wE_v (o_ldf_pt rfl (hg_skip (nw _ (by omega)) hP2) hrowP rfl) rfl ?_ | refine wE_v (o_ldf_pt rfl (hg_skip (nw _ (by omega)) hP3) gp rfl) rfl ?_ | refine wE_upd (o_st1 rfl hg_here gk rfl rfl mset) rfl ?_ | (first
    | refine wC_a rfl ?_
    | refine q_s rfl ?_
    | refine q_b rfl ?_
    | refine wG_nil ?_
    | refine wG_g rfl ?_
    | refine wG_pure (o_len_vwm rfl) ?_
    | refine wG_pure (o_not_d rfl) ?_
    | refine wG_p rfl (by first | exact rfl | omega) ?_
    | refine wG_pure (o_str2 rfl rfl rfl) ?_
    | refine wG_pure (e_istr rfl rfl (by omega)) ?_
    | refine wG_pure (e_istr0 rfl rfl (by omega)) ?_
    | refine wG_pure (o_not rfl) ?_
    | refine wG_pure (e_ia_vw0 rfl rfl (by omega) rfl) ?_
    | refine wG_pure (e_ia_vwp rfl rfl (by omega) rfl) ?_
    | refine wG_pure (e_ia_vwm rfl rfl (by omega) (by omega) rfl) ?_
    | refine wG_pure (e_ia_vwi rfl rfl (by omega) rfl) ?_
    | refine wG_pure (e_ia_vwn rfl rfl (by omega) (by omega) rfl) ?_
    | refine wG_n rfl rfl ?_
    | refine wG_u rfl rfl ?_
    | refine wG_new (o_mks rfl rfl (by omega) (by decide)) ?_) | (first
    | refine wE_nil (by kernel_rfl) ?_
    | refine wE_gy rfl ?_
    | refine wE_gn rfl rfl rfl ?_
    | refine wE_gu rfl rfl ?_
    | refine wE_gnn rfl rfl rfl ?_
    | refine wE_v (o_len_vwm rfl) rfl ?_
    | refine wE_v (o_not_d rfl) rfl ?_
    | refine wE_p rfl (by first | exact rfl | omega) rfl ?_
    | refine wE_v (o_str2 rfl rfl rfl) rfl ?_
    | refine wE_v (e_istr rfl rfl (by omega)) rfl ?_
    | refine wE_v (e_istr0 rfl rfl (by omega)) rfl ?_
    | refine wE_v (o_not rfl) rfl ?_
    | refine wE_v (e_ia_vw0 rfl rfl (by omega) rfl) rfl ?_
    | refine wE_v (e_ia_vwp rfl rfl (by omega) rfl) rfl ?_
    | refine wE_v (e_ia_vwm rfl rfl (by omega) (by omega) rfl) rfl ?_
    | refine wE_v (e_ia_vwi rfl rfl (by omega) rfl) rfl ?_
    | refine wE_v (e_ia_vwn rfl rfl (by omega) (by omega) rfl) rfl ?_
    | refine wE_n rfl rfl rfl ?_
    | refine wE_u rfl rfl rfl ?_
    | refine wE_new (o_mks rfl rfl (by omega) (by decide)) rfl ?_) | refine wE_v (o_addw rfl rfl) rfl ?_)
      refine ⟨n + 1, by omega, by omega, .inl (Le_of ⟨⟨rfl, rfl⟩, ⟨rfl, by simp only [AV.ltr, decide_eq_true_eq]; show _ < w + 1; omega⟩, ⟨rfl, by simp only [AV.ltr, decide_eq_true_eq]; show _ < w + 1; omega⟩, ⟨rfl, by simp only [AV.ltr, decide_eq_true_eq]; show _ < w + 1; omega⟩, ⟨rfl, by simp only [AV.ltr, decide_eq_true_eq]; show _ < w + 1; omega⟩, ⟨rfl, rfl⟩, ⟨rfl, by simp only [AV.ltr, decide_eq_true_eq]; show _ < w + 1; omega⟩, ⟨rfl, rfl⟩, ⟨rfl, rfl⟩, ⟨rfl, rfl⟩, trivial⟩ (fun q rows hq => (congrFun hg_two q).trans hq) (wfH_cons (by show w < w + 1; omega) (ltrI _ _) hwfH))⟩
    · have hn3 : n = gN b (pE xs e + 1) + 1 - gN b (pE xs e) := by omega
      subst hn3
      repeat (first
    | refine wC_a rfl ?_
    | refine q_s rfl ?_
    | refine q_b rfl ?_
    | refine wG_nil ?_
    | refine wG_g rfl ?_
    | refine wG_pure (o_len_vwm rfl) ?_
    | refine wG_pure (o_not_d rfl) ?_
    | refine wG_p rfl (by first | exact rfl | omega) ?_
    | refine wG_pure (o_str2 rfl rfl rfl) ?_
    | refine wG_pure (e_istr rfl rfl (by omega)) ?_
    | refine wG_pure (e_istr0 rfl rfl (by omega)) ?_
    | refine wG_pure (o_not rfl) ?_
    | refine wG_pure (e_ia_vw0 rfl rfl (by omega) rfl) ?_
    | refine wG_pure (e_ia_vwp rfl rfl (by omega) rfl) ?_
    | refine wG_pure (e_ia_vwm rfl rfl (by omega) (by omega) rfl) ?_
    | refine wG_pure (e_ia_vwi rfl rfl (by omega) rfl) ?_
    | refine wG_pure (e_ia_vwn rfl rfl (by omega) (by omega) rfl) ?_
    | refine wG_n rfl rfl ?_
    | refine wG_u rfl rfl ?_
    | refine wG_new (o_mks rfl rfl (by omega) (by decide)) ?_)
      refine ⟨i + 1, by omega, by omega, .inl (Le_of ⟨⟨rfl, rfl⟩, ⟨rfl, by simp only [AV.ltr, decide_eq_true_eq]; show _ < w + 1; omega⟩, ⟨rfl, by simp only [AV.ltr, decide_eq_true_eq]; show _ < w + 1; omega⟩, ⟨rfl, by simp only [AV.ltr, decide_eq_true_eq]; show _ < w + 1; omega⟩, ⟨rfl, by simp only [AV.ltr, decide_eq_true_eq]; show _ < w + 1; omega⟩, ⟨rfl, rfl⟩, ⟨rfl, by simp only [AV.ltr, decide_eq_true_eq]; show _ < w + 1; omega⟩, ⟨rfl, rfl⟩, trivial⟩ (fun q rows hq => ?_) (wfH_cons (by show w < w + 1; omega) (ltrI _ _) hwfH))⟩
      rw [hup] at hq
      exact hq
  · have hi3 : i = (aL m).length := by omega
    subst hi3
    have mb' : bnd (vE m xs e (aL m).length) 8000000000000000000 := fun j hj => by have := mb j hj; omega
    by_cases hk2 : mkOK m.f (scO (vE m xs e (aL m).length))
    · have c5 := con53_Y true m.f (vE m xs e (aL m).length) (by omega) (by omega) mb' (by decide) (by decide) (by omega) (by omega) hk2
      obtain ⟨rfl, rfl, rfl⟩ := hend.1 hk2
      unfold mYes at c5
      repeat (first | refine wG_pure (o_ldf_pt rfl (hg_skip (by omega) h0) rfl rfl) ?_ | refine wG_call1 c5 (ag_int rfl (ag_sl rfl hg_here ml.symm iRow_plain ag_nil)) rfl ?_ | refine wG_upd (o_st_agg rfl (hg_skip (by omega) (hg_skip (by omega) h1)) rfl rfl rfl rfl rfl) ?_ | (first
    | refine wC_a rfl ?_
    | refine q_s rfl ?_
    | refine q_b rfl ?_
    | refine wG_nil ?_
    | refine wG_g rfl ?_
    | refine wG_pure (o_len_vwm rfl) ?_
    | refine wG_pure (o_not_d rfl) ?_
    | refine wG_p rfl (by first | exact rfl | omega) ?_
    | refine wG_pure (o_str2 rfl rfl rfl) ?_
    | refine wG_pure (e_istr rfl rfl (by omega)) ?_
    | refine wG_pure (e_istr0 rfl rfl (by omega)) ?_
    | refine wG_pure (o_not rfl) ?_
    | refine wG_pure (e_ia_vw0 rfl rfl (by omega) rfl) ?_
    | refine wG_pure (e_ia_vwp rfl rfl (by omega) rfl) ?_
    | refine wG_pure (e_ia_vwm rfl rfl (by omega) (by omega) rfl) ?_
    | refine wG_pure (e_ia_vwi rfl rfl (by omega) rfl) ?_
    | refine wG_pure (e_ia_vwn rfl rfl (by omega) (by omega) rfl) ?_
    | refine wG_n rfl rfl ?_
    | refine wG_u rfl rfl ?_
    | refine wG_new (o_mks rfl rfl (by omega) (by decide)) ?_))
      exact ret_db (.inr rfl) rfl (retV_ldt rfl hg_here rfl rfl rfl) (retV_mv rfl) (hg_skip (by omega) hg_here)
    · have c5 := con53_N true m.f (vE m xs e (aL m).length) (by omega) (by omega) mb' (by decide) (by decide) (by omega) (by omega) hk2
      obtain ⟨rfl, rfl, rfl⟩ := hend.2 hk2
      unfold mNo at c5
      repeat (first | refine wG_pure (o_ldf_pt rfl (hg_skip (by omega) h0) rfl rfl) ?_ | refine wG_call c5 (ag_int rfl (ag_sl rfl hg_here ml.symm iRow_plain ag_nil)) rfl ?_ | refine wG_upd (o_st_agg rfl (hg_skip (by omega) h1) rfl rfl rfl rfl rfl) ?_ | (first
    | refine wC_a rfl ?_
    | refine q_s rfl ?_
    | refine q_b rfl ?_
    | refine wG_nil ?_
    | refine wG_g rfl ?_
    | refine wG_pure (o_len_vwm rfl) ?_
    | refine wG_pure (o_not_d rfl) ?_
    | refine wG_p rfl (by first | exact rfl | omega) ?_
    | refine wG_pure (o_str2 rfl rfl rfl) ?_
    | refine wG_pure (e_istr rfl rfl (by omega)) ?_
    | refine wG_pure (e_istr0 rfl rfl (by omega)) ?_
    | refine wG_pure (o_not rfl) ?_
    | refine wG_pure (e_ia_vw0 rfl rfl (by omega) rfl) ?_
    | refine wG_pure (e_ia_vwp rfl rfl (by omega) rfl) ?_
    | refine wG_pure (e_ia_vwm rfl rfl (by omega) (by omega) rfl) ?_
    | refine wG_pure (e_ia_vwi rfl rfl (by omega) rfl) ?_
    | refine wG_pure (e_ia_vwn rfl rfl (by omega) (by omega) rfl) ?_
    | refine wG_n rfl rfl ?_
    | refine wG_u rfl rfl ?_
    | refine wG_new (o_mks rfl rfl (by omega) (by decide)) ?_))
      exact ret_d0 (.inr rfl) rfl (retV_ldt rfl hg_here rfl rfl rfl) (retV_mv rfl)
end Go.Proofs.Ytnohaclnpbpjbaa.Dst
