/- Dates of boundaries and spans of phases: both sides. -/
import Derived.Test.YtnohaclnpbpjbaaPmI
import Derived.Test.YtnohaclnpbpjbaaPsA
namespace Go.Proofs.Ytnohaclnpbpjbaa.Dst
open Go Go.Proofs.Ytnohaclnpbpjbaa.Ab Go.Proofs.Ytnohaclnpbpjbaa.Il
attribute [local irreducible] wpO wpC wpDr wpQ wpG wpE stepA seqQ blkQ Ret RetG ev
set_option maxRecDepth 10000
set_option maxHeartbeats 8000000
set_option linter.unusedSimpArgs false
set_option linter.unusedVariables false

def ac31 : AC := (.seq (.reg [⟨(some 2), none, (.box 4 true (.t 0))⟩, ⟨(some 4), none, (.alloc [(.int .i64 0), .nilS])⟩, ⟨(some 5), none, (.mv (.c (.bool false)))⟩]) (.seq (.seq (.reg [⟨(some 11), none, (.ld true 4 (.t 2))⟩, ⟨(some 12), none, (.call 39 [(.t 11)])⟩, ⟨(some 13), none, (.un .not (.t 12))⟩, ⟨(some 14), none, (.mv (.t 13))⟩, ⟨(some 15), (some (14, false)), (.mv (.t 1))⟩, ⟨(some 16), (some (14, false)), (.fa 2 (.t 2))⟩, ⟨(some 17), (some (14, false)), (.ld false 1 (.t 16))⟩, ⟨(some 18), (some (14, false)), (.call 47 [(.t 15), (.c (.int .i64 0)), (.t 17)])⟩, ⟨(some 19), (some (14, false)), (.un .not (.t 18))⟩, ⟨(some 20), none, (.pick (.t 14) (.c (.bool true)) (.t 19))⟩]) (.cond (.t 20) (.seq (.reg [⟨(some 21), none, (.build [(.int .i64 0), .nilS] [])⟩, ⟨none, none, (.st 2 (.t 4) (.t 21))⟩, ⟨(some 5), none, (.mv (.c (.bool false)))⟩]) .ret) .skip)) (.seq (.reg [⟨(some 22), none, (.ld true 4 (.t 2))⟩, ⟨(some 23), none, (.call 63 [(.t 22)])⟩, ⟨(some 6), none, (.mv (.t 23))⟩]) (.seq (.reg [⟨(some 24), none, (.ld true 4 (.t 2))⟩, ⟨(some 25), none, (.call 73 [(.t 24)])⟩, ⟨(some 7), none, (.mv (.t 25))⟩]) (.seq (.reg [⟨(some 26), none, (.fa 1 (.t 2))⟩, ⟨(some 27), none, (.ld false 1 (.t 26))⟩, ⟨(some 28), none, (.mks 1 8 [(.int .i64 0)] (.t 27) (.t 27))⟩, ⟨(some 8), none, (.mv (.t 28))⟩]) (.seq (.seq (.reg [⟨(some 9), none, (.mv (.c (.int .i64 0)))⟩]) (.blk 0 (.loop (.seq (.seq (.reg [⟨(some 29), none, (.mv (.t 9))⟩, ⟨(some 30), none, (.mv (.t 7))⟩, ⟨(some 31), none, (.len (.t 30))⟩, ⟨(some 32), none, (.bin .lss (.t 29) (.t 31))⟩]) (.cond (.t 32) .skip (.exit 0))) (.seq (.blk 1 (.seq (.reg [⟨(some 35), none, (.mv (.t 7))⟩, ⟨(some 36), none, (.mv (.t 9))⟩, ⟨(some 37), none, (.ia 1 (.t 35) (.t 36))⟩, ⟨(some 38), none, (.ld false 1 (.t 37))⟩, ⟨(some 39), none, (.mv (.t 1))⟩, ⟨(some 40), none, (.ia 1 (.t 38) (.t 39))⟩, ⟨(some 41), none, (.ld false 1 (.t 40))⟩, ⟨(some 10), none, (.mv (.t 41))⟩]) (.dreg [⟨(some 42), none, (.mv (.t 8))⟩, ⟨(some 43), none, (.mv (.t 10))⟩, ⟨(some 44), none, (.mv (.t 8))⟩, ⟨(some 45), none, (.mv (.t 10))⟩, ⟨(some 46), none, (.ia 1 (.t 44) (.t 45))⟩, ⟨(some 47), none, (.ld false 1 (.t 46))⟩, ⟨(some 48), none, (.ld true 4 (.t 2))⟩, ⟨(some 49), none, (.mv (.t 6))⟩, ⟨(some 50), none, (.mv (.t 7))⟩, ⟨(some 51), none, (.mv (.t 9))⟩, ⟨(some 52), none, (.ia 1 (.t 50) (.t 51))⟩, ⟨(some 53), none, (.ld false 1 (.t 52))⟩, ⟨(some 54), none, (.call 74 [(.t 48), (.t 49), (.t 53), (.c (.int .i64 (-1)))])⟩, ⟨(some 55), none, (.bin .add (.t 47) (.t 54))⟩, ⟨(some 56), none, (.ia 1 (.t 42) (.t 43))⟩, ⟨none, none, (.st 1 (.t 56) (.t 55))⟩] [[], [], [], [], [2, 3], [2, 3, 4], [], [], [], [], [8, 9], [8, 9, 10], [6, 7, 8, 9, 10, 11], [2, 3, 4, 5, 6, 7, 8, 9, 10, 11, 12], [0, 1, 2, 3, 4, 5, 6, 7, 8, 9, 10, 11, 12, 13], [0, 1, 2, 3, 4, 5, 6, 7, 8, 9, 10, 11, 12, 13, 14]]))) (.reg [⟨(some 33), none, (.mv (.t 9))⟩, ⟨(some 34), none, (.bin .add (.t 33) (.c (.int .i64 1)))⟩, ⟨(some 9), none, (.mv (.t 34))⟩])))))) (.seq (.reg [⟨(some 57), none, (.fa 0 (.t 2))⟩, ⟨(some 58), none, (.ld false 1 (.t 57))⟩, ⟨(some 59), none, (.mv (.t 8))⟩, ⟨(some 60), none, (.call 53 [(.t 58), (.t 59)])⟩, ⟨(some 61), none, (.ext (.t 60) 0)⟩, ⟨(some 62), none, (.ext (.t 60) 1)⟩, ⟨none, none, (.st 2 (.t 4) (.t 61))⟩, ⟨(some 5), none, (.mv (.t 62))⟩]) .ret)))))))
def ro31 : List AOp := [(.ld true 2 (.t 4)), (.mv (.t 5))]
theorem fun31 : Fun Try.prog 31 63 ac31 ro31 := ⟨Try.f31, _, Try.func31, by kernel_rfl, rfl, rfl, by kernel_rfl, by kernel_rfl, by decide⟩
def ac34 : AC := (.seq (.reg [⟨(some 2), none, (.box 4 true (.t 0))⟩, ⟨(some 4), none, (.alloc [(.int .i64 0), .nilS])⟩, ⟨(some 5), none, (.mv (.c (.bool false)))⟩]) (.seq (.seq (.reg [⟨(some 11), none, (.ld true 4 (.t 2))⟩, ⟨(some 12), none, (.call 39 [(.t 11)])⟩, ⟨(some 13), none, (.un .not (.t 12))⟩, ⟨(some 14), none, (.mv (.t 13))⟩, ⟨(some 15), (some (14, false)), (.mv (.t 1))⟩, ⟨(some 16), (some (14, false)), (.fa 2 (.t 2))⟩, ⟨(some 17), (some (14, false)), (.ld false 1 (.t 16))⟩, ⟨(some 18), (some (14, false)), (.bin .sub (.t 17) (.c (.int .i64 1)))⟩, ⟨(some 19), (some (14, false)), (.call 47 [(.t 15), (.c (.int .i64 0)), (.t 18)])⟩, ⟨(some 20), (some (14, false)), (.un .not (.t 19))⟩, ⟨(some 21), none, (.pick (.t 14) (.c (.bool true)) (.t 20))⟩]) (.cond (.t 21) (.seq (.reg [⟨(some 22), none, (.build [(.int .i64 0), .nilS] [])⟩, ⟨none, none, (.st 2 (.t 4) (.t 22))⟩, ⟨(some 5), none, (.mv (.c (.bool false)))⟩]) .ret) .skip)) (.seq (.reg [⟨(some 23), none, (.ld true 4 (.t 2))⟩, ⟨(some 24), none, (.call 63 [(.t 23)])⟩, ⟨(some 6), none, (.mv (.t 24))⟩]) (.seq (.reg [⟨(some 25), none, (.ld true 4 (.t 2))⟩, ⟨(some 26), none, (.call 73 [(.t 25)])⟩, ⟨(some 7), none, (.mv (.t 26))⟩]) (.seq (.reg [⟨(some 27), none, (.fa 1 (.t 2))⟩, ⟨(some 28), none, (.ld false 1 (.t 27))⟩, ⟨(some 29), none, (.mks 1 8 [(.int .i64 0)] (.t 28) (.t 28))⟩, ⟨(some 8), none, (.mv (.t 29))⟩]) (.seq (.seq (.reg [⟨(some 9), none, (.mv (.c (.int .i64 0)))⟩]) (.blk 0 (.loop (.seq (.seq (.reg [⟨(some 30), none, (.mv (.t 9))⟩, ⟨(some 31), none, (.mv (.t 7))⟩, ⟨(some 32), none, (.len (.t 31))⟩, ⟨(some 33), none, (.bin .lss (.t 30) (.t 32))⟩]) (.cond (.t 33) .skip (.exit 0))) (.seq (.blk 1 (.seq (.dreg [⟨(some 36), none, (.mv (.t 7))⟩, ⟨(some 37), none, (.mv (.t 9))⟩, ⟨(some 38), none, (.ia 1 (.t 36) (.t 37))⟩, ⟨(some 39), none, (.ld false 1 (.t 38))⟩, ⟨(some 40), none, (.mv (.t 1))⟩, ⟨(some 41), none, (.bin .add (.t 40) (.c (.int .i64 1)))⟩, ⟨(some 42), none, (.ia 1 (.t 39) (.t 41))⟩, ⟨(some 43), none, (.ld false 1 (.t 42))⟩, ⟨(some 44), none, (.mv (.t 7))⟩, ⟨(some 45), none, (.mv (.t 9))⟩, ⟨(some 46), none, (.ia 1 (.t 44) (.t 45))⟩, ⟨(some 47), none, (.ld false 1 (.t 46))⟩, ⟨(some 48), none, (.mv (.t 1))⟩, ⟨(some 49), none, (.ia 1 (.t 47) (.t 48))⟩, ⟨(some 50), none, (.ld false 1 (.t 49))⟩, ⟨(some 51), none, (.bin .sub (.t 43) (.t 50))⟩, ⟨(some 10), none, (.mv (.t 51))⟩] [[], [], [0, 1], [0, 1, 2], [], [4], [0, 1, 2, 3, 4, 5], [0, 1, 2, 3, 4, 5, 6], [], [], [8, 9], [8, 9, 10], [], [8, 9, 10, 11, 12], [8, 9, 10, 11, 12, 13], [0, 1, 2, 3, 4, 5, 6, 7, 8, 9, 10, 11, 12, 13, 14], [0, 1, 2, 3, 4, 5, 6, 7, 8, 9, 10, 11, 12, 13, 14, 15]]) (.dreg [⟨(some 52), none, (.mv (.t 8))⟩, ⟨(some 53), none, (.mv (.t 10))⟩, ⟨(some 54), none, (.mv (.t 8))⟩, ⟨(some 55), none, (.mv (.t 10))⟩, ⟨(some 56), none, (.ia 1 (.t 54) (.t 55))⟩, ⟨(some 57), none, (.ld false 1 (.t 56))⟩, ⟨(some 58), none, (.ld true 4 (.t 2))⟩, ⟨(some 59), none, (.mv (.t 6))⟩, ⟨(some 60), none, (.mv (.t 7))⟩, ⟨(some 61), none, (.mv (.t 9))⟩, ⟨(some 62), none, (.ia 1 (.t 60) (.t 61))⟩, ⟨(some 63), none, (.ld false 1 (.t 62))⟩, ⟨(some 64), none, (.call 74 [(.t 58), (.t 59), (.t 63), (.c (.int .i64 (-1)))])⟩, ⟨(some 65), none, (.bin .add (.t 57) (.t 64))⟩, ⟨(some 66), none, (.ia 1 (.t 52) (.t 53))⟩, ⟨none, none, (.st 1 (.t 66) (.t 65))⟩] [[], [], [], [], [2, 3], [2, 3, 4], [], [], [], [], [8, 9], [8, 9, 10], [6, 7, 8, 9, 10, 11], [2, 3, 4, 5, 6, 7, 8, 9, 10, 11, 12], [0, 1, 2, 3, 4, 5, 6, 7, 8, 9, 10, 11, 12, 13], [0, 1, 2, 3, 4, 5, 6, 7, 8, 9, 10, 11, 12, 13, 14]]))) (.reg [⟨(some 34), none, (.mv (.t 9))⟩, ⟨(some 35), none, (.bin .add (.t 34) (.c (.int .i64 1)))⟩, ⟨(some 9), none, (.mv (.t 35))⟩])))))) (.seq (.reg [⟨(some 67), none, (.mv (.t 8))⟩, ⟨(some 68), none, (.call 53 [(.c (.int .i64 0)), (.t 67)])⟩, ⟨(some 69), none, (.ext (.t 68) 0)⟩, ⟨(some 70), none, (.ext (.t 68) 1)⟩, ⟨none, none, (.st 2 (.t 4) (.t 69))⟩, ⟨(some 5), none, (.mv (.t 70))⟩]) .ret)))))))
def ro34 : List AOp := [(.ld true 2 (.t 4)), (.mv (.t 5))]
theorem fun34 : Fun Try.prog 34 71 ac34 ro34 := ⟨Try.f34, _, Try.func34, by kernel_rfl, rfl, rfl, by kernel_rfl, by kernel_rfl, by decide⟩

theorem iGet {ys : List Int} {i : Nat} (h : i < ys.length) : (ys.map iRow)[i]? = some (iRow (ys.getD i default)) := by
  simp [List.getElem?_map, List.getElem?_eq_getElem h, List.getD_eq_getElem?_getD]
theorem mset {ws : List Int} {k : Nat} {v : Int} : (ws.map iRow).set k (iRow v) = (ws.set k v).map iRow := by rw [List.map_set]
def atB (k : Nat) (b : List Nat) : Nat := gN b k
def atP (k : Nat) (b : List Nat) : Nat := gN b (k + 1) - gN b k
/-- Weight by place. -/
def stV (a : List Nat → Nat) (f : List Nat → Int) (ws : List Int) (b : List Nat) : List Int := ws.set (a b) (IntKind.i64.wrap (ws.getD (a b) default + f b))
def vS (m : Md) (xs : List Ev) (a : List Nat → Nat) (i : Nat) : List Int := ((aL m).take i).foldl (stV a (fW m xs (-1))) (List.replicate m.y.toNat 0)
theorem vS_up {m : Md} {xs : List Ev} {a : List Nat → Nat} {i : Nat} (h : i < (aL m).length) : vS m xs a (i + 1) = stV a (fW m xs (-1)) (vS m xs a i) ((aL m).getD i []) := by
  unfold vS
  rw [foldl_take _ _ _ h]
  simp [List.getD_eq_getElem?_getD, List.getElem?_eq_getElem h]
theorem fW_b {m : Md} {xs : List Ev} (hG : GoodM m xs) {b : List Nat} (hb : GoodB m.y.toNat (m.p.toNat + 1) b) (k : Int) : 0 ≤ fW m xs k b ∧ fW m xs k b ≤ 1000000000000000 := lw_15 hG hb k (-1) (Nat.le_refl _)
theorem vS_b {m : Md} {xs : List Ev} (hG : GoodM m xs) (a : List Nat → Nat) : ∀ i, i ≤ (aL m).length → (vS m xs a i).length = m.y.toNat ∧ bnd (vS m xs a i) (i * 1000000000000000)
  | 0, _ => ⟨by simp [vS], fun j hj => by
      have : (vS m xs a 0).getD j default = 0 := by
        simp only [vS, List.take_zero, List.foldl_nil, List.getD_eq_getElem?_getD, List.getElem?_replicate]
        split <;> rfl
      rw [this]; omega⟩
  | i + 1, hi => by
    obtain ⟨l1, b1⟩ := vS_b hG a i (by omega)
    have h8 := aL_len hG
    have hf := fW_b hG (aL_good (m := m) (i := i) (by omega)) (-1)
    rw [vS_up (by omega)]
    generalize (aL m).getD i [] = b at *
    refine ⟨by rw [stV, List.length_set]; exact l1, fun j hj => ?_⟩
    rw [stV, List.length_set] at hj
    have bj := b1 j hj
    rw [stV]
    by_cases ej : a b = j
    · rw [← ej] at bj hj ⊢
      rw [List.getD_eq_getElem?_getD, List.getElem?_set_self (by omega)]
      simp only [Option.getD_some]
      rw [IntKind.wrap_i64]
      omega
    · rw [List.getD_eq_getElem?_getD, List.getElem?_set_ne ej, ← List.getD_eq_getElem?_getD]
      omega
theorem hQ_te {q : Nat} {L : List (List Int)} {h : List (Nat × Option Ab.Rows)} {i : Nat} {rows : Ab.Rows} (hi : (teL L)[i]? = some rows) : hg (hQ q (q + 1) L h) (q + i) = some (shR q rows) := by
  rw [← hT_eq]
  exact shOget hi
def w0 (m : Md) (xs : List Ev) : Nat := 0 + 1 + 1 + (xs.length + 1) + ((aL m).length + 1)
theorem con31_all (c : Bool) (m : Md) (xs : List Ev) (h3 : xs.length ≤ 1048576) (hL : LenE xs 1048576) (hG : GoodM m xs) {k : Nat} (hk : (k : Int) ≤ m.p) (v : AV) (rs : List Nat) (objs : List Ab.Rows) (hv : v.nvf = true) (hp : PlainObjs objs)
    (hend : (mkOK m.f (scO (vS m xs (atB k) (aL m).length)) → v = mYes (mkO m.f (scO (vS m xs (atB k) (aL m).length))) ∧ rs = [w0 m xs + 1] ∧ objs = [(mkO m.f (scO (vS m xs (atB k) (aL m).length))).ws.map iRow]) ∧ (¬ mkOK m.f (scO (vS m xs (atB k) (aL m).length)) → v = mNo ∧ rs = [] ∧ objs = [])) :
    Con Try.prog 31 true [.agg (mdR c m xs), .int .i64 (k : Int)] v objs := by
  classical
  suffices key : Con Try.prog 31 v.nvf [.agg (mdR c m xs), .int .i64 (k : Int)] v objs by rwa [hv] at key
  refine con_of_wp mixed fun31 (by simp) rs hp ?_
  unfold ac31 ro31
  simp only [zipT]
  have c1 := con39 c m xs h3 hL
  rw [decide_eq_true hG] at c1
  have c2 := con47 (k : Int) 0 (m.p)
  rw [decide_eq_true ⟨by omega, hk⟩] at c2
  have cA := con63 c m xs hG
  have cB := con73 c m xs hG
  have h8 := aL_len hG
  have hag := aL_get m
  have hbl : (bI m (m.p.toNat + 1)).length = (aL m).length := bI_len _ _
  have hpl := pL_len m xs (-1) xs.length
  have hY := hG.1
  have hf := hG.2.1
  have hPb := hG.2.2.1
  have e0 : ∀ n : Nat, 0 + ((n : Int)).toNat = n := fun n => by simp
  have hw0 : 0 + 1 + 1 + (xs.length + 1) + ((aL m).length + 1) = w0 m xs := rfl
  generalize bI m (m.p.toNat + 1) = L at *
  have cw := fun b (hb : GoodB m.y.toNat (m.p.toNat + 1) b) => con74 c true true m xs hG (-1) b hb (-1)
  generalize pL m xs (-1) xs.length = PP at *
  repeat (first | refine wG_call c1 rfl rfl ?_ | refine wG_call c2 rfl rfl ?_ | (first
    | refine wC_a rfl ?_
    | refine q_s rfl ?_
    | refine q_b rfl ?_
    | refine wG_nil ?_
    | refine wG_g rfl ?_
    | refine wG_pure (o_len_vwm rfl) ?_
    | refine wG_pure (o_not_d rfl) ?_
    | refine wG_p rfl (by first | exact rfl | omega) ?_
    | refine wG_pure (o_str2 rfl rfl rfl) ?_
    | refine wG_pure (e_istr rfl rfl (by omega)) ?_
    | refine wG_pure (e_istr0 rfl rfl (by omega)) ?_
    | refine wG_pure (o_not rfl) ?_
    | refine wG_pure (e_ia_vw0 rfl rfl (by omega) rfl) ?_
    | refine wG_pure (e_ia_vwp rfl rfl (by omega) rfl) ?_
    | refine wG_pure (e_ia_vwm rfl rfl (by omega) (by omega) rfl) ?_
    | refine wG_pure (e_ia_vwi rfl rfl (by omega) rfl) ?_
    | refine wG_pure (e_ia_vwn rfl rfl (by omega) (by omega) rfl) ?_
    | refine wG_n rfl rfl ?_
    | refine wG_u rfl rfl ?_
    | refine wG_new (o_mks rfl rfl (by omega) (by decide)) ?_))
  refine wG_callG (v' := .sl 2 1 0 PP.length) cA rfl rfl rfl ?_
  rw [hT_eq, teL_len]
  obtain ⟨q2, hq2⟩ : ∃ q2, 0 + 1 + 1 + (PP.length + 1) = q2 := ⟨_, rfl⟩
  rw [hq2]
  have h0' : hg (hQ (0 + 1 + 1) (0 + 1 + 1 + 1) PP [(1, some [[.int .i64 0, .nilS]]), (0, some [mdR c m xs])]) 0 = some [mdR c m xs] := hQ_out (by omega) (by omega) (hg_skip (by omega) hg_here)
  repeat (first | refine wG_pure (o_ldt_pt rfl h0' rfl rfl rfl) ?_ | (first
    | refine wC_a rfl ?_
    | refine q_s rfl ?_
    | refine q_b rfl ?_
    | refine wG_nil ?_
    | refine wG_g rfl ?_
    | refine wG_pure (o_len_vwm rfl) ?_
    | refine wG_pure (o_not_d rfl) ?_
    | refine wG_p rfl (by first | exact rfl | omega) ?_
    | refine wG_pure (o_str2 rfl rfl rfl) ?_
    | refine wG_pure (e_istr rfl rfl (by omega)) ?_
    | refine wG_pure (e_istr0 rfl rfl (by omega)) ?_
    | refine wG_pure (o_not rfl) ?_
    | refine wG_pure (e_ia_vw0 rfl rfl (by omega) rfl) ?_
    | refine wG_pure (e_ia_vwp rfl rfl (by omega) rfl) ?_
    | refine wG_pure (e_ia_vwm rfl rfl (by omega) (by omega) rfl) ?_
    | refine wG_pure (e_ia_vwi rfl rfl (by omega) rfl) ?_
    | refine wG_pure (e_ia_vwn rfl rfl (by omega) (by omega) rfl) ?_
    | refine wG_n rfl rfl ?_
    | refine wG_u rfl rfl ?_
    | refine wG_new (o_mks rfl rfl (by omega) (by decide)) ?_))
  refine wG_callG (v' := .sl q2 1 0 L.length) cB rfl rfl rfl ?_
  rw [hT_eq, teL_len]
  obtain ⟨w, hw⟩ : ∃ w, q2 + (L.length + 1) = w := ⟨_, rfl⟩
  rw [hw]
  have hww : w = w0 m xs := by omega
  rw [← hww] at hend
  have h0 : hg (hQ q2 (q2 + 1) L (hQ (0 + 1 + 1) (0 + 1 + 1 + 1) PP [(1, some [[.int .i64 0, .nilS]]), (0, some [mdR c m xs])])) 0 = some [mdR c m xs] := hQ_out (by omega) (by omega) h0'
  have h1 : hg (hQ q2 (q2 + 1) L (hQ (0 + 1 + 1) (0 + 1 + 1 + 1) PP [(1, some [[.int .i64 0, .nilS]]), (0, some [mdR c m xs])])) 1 = some [[.int .i64 0, .nilS]] := hQ_out (by omega) (by omega) (hQ_out (by omega) (by omega) hg_here)
  have hPP : ∀ i rows, (teL PP)[i]? = some rows → hg (hQ q2 (q2 + 1) L (hQ (0 + 1 + 1) (0 + 1 + 1 + 1) PP [(1, some [[.int .i64 0, .nilS]]), (0, some [mdR c m xs])])) (2 + i) = some (shR 2 rows) := fun i rows hi => by
    have := teL_lt hi
    exact hQ_out (by omega) (by omega) (hQ_te hi)
  have hLq : hg (hQ q2 (q2 + 1) L (hQ (0 + 1 + 1) (0 + 1 + 1 + 1) PP [(1, some [[.int .i64 0, .nilS]]), (0, some [mdR c m xs])])) q2 = some (nR hI (q2 + 1) L L.length zI) := hQ_q
  have hLi : ∀ i, i < L.length → hg (hQ q2 (q2 + 1) L (hQ (0 + 1 + 1) (0 + 1 + 1 + 1) PP [(1, some [[.int .i64 0, .nilS]]), (0, some [mdR c m xs])])) (q2 + 1 + i) = some ((L.getD i default).map iRow) := fun i hi => hQ_in hi (by omega)
  have hwfH : wfH (hQ q2 (q2 + 1) L (hQ (0 + 1 + 1) (0 + 1 + 1 + 1) PP [(1, some [[.int .i64 0, .nilS]]), (0, some [mdR c m xs])])) (w + 1) := hQ_wf (by omega) (by omega) (hQ_wf (by omega) (by omega) (wfH_cons (by omega) (by simp [AV.ltr]) (wfH_cons (by omega) (mdR_ltr1' _) wfH_nil)))
  change wpG _ _ _ ⟨_, hQ q2 (q2 + 1) L (hQ (0 + 1 + 1) (0 + 1 + 1 + 1) PP [(1, some [[.int .i64 0, .nilS]]), (0, some [mdR c m xs])]), _⟩ _
  generalize hQ q2 (q2 + 1) L (hQ (0 + 1 + 1) (0 + 1 + 1 + 1) PP [(1, some [[.int .i64 0, .nilS]]), (0, some [mdR c m xs])]) = H0 at *
  have hrep : List.replicate m.y.toNat [AV.int .i64 0] = (vS m xs (atB k) 0).map iRow := by
    show _ = (List.replicate m.y.toNat (0 : Int)).map iRow
    rw [List.map_replicate]; rfl
  repeat (first | refine wG_pure (o_ldf_pt rfl h0 rfl rfl) ?_ | refine wG_new (o_mksZ (n := m.y.toNat) (by omega) rfl rfl (by omega) (by decide)) ?_ | (first
    | refine wC_a rfl ?_
    | refine q_s rfl ?_
    | refine q_b rfl ?_
    | refine wG_nil ?_
    | refine wG_g rfl ?_
    | refine wG_pure (o_len_vwm rfl) ?_
    | refine wG_pure (o_not_d rfl) ?_
    | refine wG_p rfl (by first | exact rfl | omega) ?_
    | refine wG_pure (o_str2 rfl rfl rfl) ?_
    | refine wG_pure (e_istr rfl rfl (by omega)) ?_
    | refine wG_pure (e_istr0 rfl rfl (by omega)) ?_
    | refine wG_pure (o_not rfl) ?_
    | refine wG_pure (e_ia_vw0 rfl rfl (by omega) rfl) ?_
    | refine wG_pure (e_ia_vwp rfl rfl (by omega) rfl) ?_
    | refine wG_pure (e_ia_vwm rfl rfl (by omega) (by omega) rfl) ?_
    | refine wG_pure (e_ia_vwi rfl rfl (by omega) rfl) ?_
    | refine wG_pure (e_ia_vwn rfl rfl (by omega) (by omega) rfl) ?_
    | refine wG_n rfl rfl ?_
    | refine wG_u rfl rfl ?_
    | refine wG_new (o_mks rfl rfl (by omega) (by decide)) ?_))
  refine wC_loopX Nat (fun i => ⟨[(1, .int .i64 (k : Int)), (2, .pt 0 0 0), (4, .pt 1 0 0), (6, .sl 2 1 0 PP.length), (7, .sl q2 1 0 L.length), (8, .sl w 1 0 m.y.toNat), (9, .int .i64 (i : Int))], (w, some ((vS m xs (atB k) i).map iRow)) :: H0, w + 1⟩) (fun i => i ≤ L.length) (fun i => L.length - i) 0 (Nat.zero_le _) ?_ ?_
  · rw [hrep]
    exact .inl (Le_of ⟨⟨rfl, rfl⟩, ⟨rfl, by simp only [AV.ltr, decide_eq_true_eq]; show _ < w + 1; omega⟩, ⟨rfl, by simp only [AV.ltr, decide_eq_true_eq]; show _ < w + 1; omega⟩, ⟨rfl, by simp only [AV.ltr, decide_eq_true_eq]; show _ < w + 1; omega⟩, ⟨rfl, by simp only [AV.ltr, decide_eq_true_eq]; show _ < w + 1; omega⟩, ⟨rfl, by simp only [AV.ltr, decide_eq_true_eq]; show _ < w + 1; omega⟩, ⟨rfl, rfl⟩, trivial⟩ (fun q rows hq => hq) (wfH_cons (by show w < w + 1; omega) (ltrI _ _) hwfH))
  intro i hi
  obtain ⟨ml, mb⟩ := vS_b hG (atB k) i (by omega)
  repeat (first
    | refine wC_a rfl ?_
    | refine q_s rfl ?_
    | refine q_b rfl ?_
    | refine wG_nil ?_
    | refine wG_g rfl ?_
    | refine wG_pure (o_len_vwm rfl) ?_
    | refine wG_pure (o_not_d rfl) ?_
    | refine wG_p rfl (by first | exact rfl | omega) ?_
    | refine wG_pure (o_str2 rfl rfl rfl) ?_
    | refine wG_pure (e_istr rfl rfl (by omega)) ?_
    | refine wG_pure (e_istr0 rfl rfl (by omega)) ?_
    | refine wG_pure (o_not rfl) ?_
    | refine wG_pure (e_ia_vw0 rfl rfl (by omega) rfl) ?_
    | refine wG_pure (e_ia_vwp rfl rfl (by omega) rfl) ?_
    | refine wG_pure (e_ia_vwm rfl rfl (by omega) (by omega) rfl) ?_
    | refine wG_pure (e_ia_vwi rfl rfl (by omega) rfl) ?_
    | refine wG_pure (e_ia_vwn rfl rfl (by omega) (by omega) rfl) ?_
    | refine wG_n rfl rfl ?_
    | refine wG_u rfl rfl ?_
    | refine wG_new (o_mks rfl rfl (by omega) (by decide)) ?_)
  refine wC_cond_d rfl (fun h5 => ?_) (fun h5 => ?_)
  · have hi2 : i < (aL m).length := by omega
    have gB := aL_good hi2
    have hin := hLi i (by omega)
    have hrow := hQ_row (b := q2 + 1) (L := L) (i := i) (by omega)
    rw [hag, ci_len] at hrow
    rw [hag, cb] at hin
    have hup := vS_up (xs := xs) (a := (atB k)) hi2
    have cw := cw _ gB
    generalize (aL m).getD i [] = b at *
    have hbl2 := gB.len
    have hk1 : k < m.p.toNat + 1 := by omega
    have b1 := gB.lt k (by omega)
    have gi : (b.map nRow)[k]? = some (nRow (gN b k)) := nGet (by omega)
    have gi1 : k + 1 < m.p.toNat + 1 → (b.map nRow)[k + 1]? = some (nRow (gN b (k + 1))) := fun h => nGet (by omega)
    have b2 : k + 1 < m.p.toNat + 1 → gN b k ≤ gN b (k + 1) ∧ gN b (k + 1) < m.y.toNat := fun h => ⟨gB.mono k h, gB.lt _ h⟩
    have hat : (atB k) b < m.y.toNat := by first | exact b1 | (have := b2 (by omega); show gN b (k + 1) - gN b k < _; omega)
    have gk : ((vS m xs (atB k) i).map iRow)[(atB k) b]? = some (iRow ((vS m xs (atB k) i).getD ((atB k) b) default)) := iGet (by omega)
    have ek : 0 + ((k : Int) + 1).toNat = k + 1 := by omega
    have es : 0 + (((gN b (k + 1) : Nat) : Int) - ((gN b k : Nat) : Int)).toNat = gN b (k + 1) - gN b k := by omega
    try (have b2' := b2 (by omega))
    have nw : ∀ x, x < w → x ≠ w := fun x h => by omega
    have hP' : ∀ i' rows, (teL PP)[i']? = some rows → hg ((w, some ((vS m xs (atB k) i).map iRow)) :: H0) (2 + i') = some (shR 2 rows) := fun i' rows hi' => by
      have := teL_lt hi'
      exact hg_skip (by omega) (hPP i' rows hi')
    repeat (first | refine wC_dregE ?_ | refine wE_v (o_ldt_pt rfl (hg_skip (by omega) h0) rfl rfl rfl) rfl ?_ | (refine wE_v (e_ia_sl rfl rfl (by omega) (by omega)) rfl ?_; simp only [e0]) | (refine wE_v (e_ia_sl rfl rfl (by omega) (by omega)) rfl ?_; simp only [ek]) | (refine wE_v (e_ia_sl rfl rfl (by omega) (by omega)) rfl ?_; simp only [es]) | (refine wG_pure (e_ia_sl rfl rfl (by omega) (by omega)) ?_; simp only [e0]) | refine wG_pure (o_ldf_pt rfl (hg_skip (nw _ (by omega)) hLq) hrow rfl) ?_ | refine wG_pure (o_ldf_pt rfl (hg_skip (nw _ (by omega)) hin) gi rfl) ?_ | refine wE_v (o_ldf_pt rfl (hg_skip (nw _ (by omega)) hLq) hrow rfl) rfl ?_ | refine wE_v (o_ldf_pt rfl (hg_skip (nw _ (by omega)) hin) gi rfl) rfl ?_ | refine wE_v (o_ldf_pt rfl (hg_skip (nw _ (by omega)) hin) (gi1 (by omega)) rfl) rfl ?_ | refine wE_v (o_ldf_pt rfl hg_here gk rfl) rfl ?_ | refine wE_call cw (ag_any rfl (ag_any (dr_L PP hP') (ag_sl rfl (hg_skip (nw _ (by omega)) hin) rfl nRow_plain (ag_int rfl ag_nil)))) rfl rfl ?_ | refine wE_upd (o_st1 rfl hg_here gk rfl rfl mset) rfl ?_ | (first
    | refine wC_a rfl ?_
    | refine q_s rfl ?_
    | refine q_b rfl ?_
    | refine wG_nil ?_
    | refine wG_g rfl ?_
    | refine wG_pure (o_len_vwm rfl) ?_
    | refine wG_pure (o_not_d rfl) ?_
    | refine wG_p rfl (by first | exact rfl | omega) ?_
    | refine wG_pure (o_str2 rfl rfl rfl) ?_
    | refine wG_pure (e_istr rfl rfl (by omega)) ?_
    | refine wG_pure (e_istr0 rfl rfl (by omega)) ?_
    | refine wG_pure (o_not rfl) ?_
    | refine wG_pure (e_ia_vw0 rfl rfl (by omega) rfl) ?_
    | refine wG_pure (e_ia_vwp rfl rfl (by omega) rfl) ?_
    | refine wG_pure (e_ia_vwm rfl rfl (by omega) (by omega) rfl) ?_
    | refine wG_pure (e_ia_vwi rfl rfl (by omega) rfl) ?_
    | refine wG_pure (e_ia_vwn rfl rfl (by omega) (by omega) rfl) ?_
    | refine wG_n rfl rfl ?_
    | refine wG_u rfl rfl ?_
    | refine wG_new (o_mks rfl rfl (by omega) (by decide)) ?_) | (first
    | refine wE_nil (by kernel_rfl) ?_
    | refine wE_gy rfl ?_
    | refine wE_gn rfl rfl rfl ?_
    | refine wE_gu rfl rfl ?_
    | refine wE_gnn rfl rfl rfl ?_
    | refine wE_v (o_len_vwm rfl) rfl ?_
    | refine wE_v (o_not_d rfl) rfl ?_
    | refine wE_p rfl (by first | exact rfl | omega) rfl ?_
    | refine wE_v (o_str2 rfl rfl rfl) rfl ?_
    | refine wE_v (e_istr rfl rfl (by omega)) rfl ?_
    | refine wE_v (e_istr0 rfl rfl (by omega)) rfl ?_
    | refine wE_v (o_not rfl) rfl ?_
    | refine wE_v (e_ia_vw0 rfl rfl (by omega) rfl) rfl ?_
    | refine wE_v (e_ia_vwp rfl rfl (by omega) rfl) rfl ?_
    | refine wE_v (e_ia_vwm rfl rfl (by omega) (by omega) rfl) rfl ?_
    | refine wE_v (e_ia_vwi rfl rfl (by omega) rfl) rfl ?_
    | refine wE_v (e_ia_vwn rfl rfl (by omega) (by omega) rfl) rfl ?_
    | refine wE_n rfl rfl rfl ?_
    | refine wE_u rfl rfl rfl ?_
    | refine wE_new (o_mks rfl rfl (by omega) (by decide)) rfl ?_) | refine wE_v (o_addw rfl rfl) rfl ?_)
    refine ⟨i + 1, by omega, by omega, .inl (Le_of ⟨⟨rfl, rfl⟩, ⟨rfl, by simp only [AV.ltr, decide_eq_true_eq]; show _ < w + 1; omega⟩, ⟨rfl, by simp only [AV.ltr, decide_eq_true_eq]; show _ < w + 1; omega⟩, ⟨rfl, by simp only [AV.ltr, decide_eq_true_eq]; show _ < w + 1; omega⟩, ⟨rfl, by simp only [AV.ltr, decide_eq_true_eq]; show _ < w + 1; omega⟩, ⟨rfl, by simp only [AV.ltr, decide_eq_true_eq]; show _ < w + 1; omega⟩, ⟨rfl, rfl⟩, trivial⟩ (fun q rows hq => ?_) (wfH_cons (by show w < w + 1; omega) (ltrI _ _) hwfH))⟩
    refine (congrFun hg_two q).trans ?_
    rw [hup] at hq
    exact hq
  · have hi3 : i = (aL m).length := by omega
    subst hi3
    have mb' : bnd (vS m xs (atB k) (aL m).length) 8000000000000000000 := fun j hj => by have := mb j hj; omega
    by_cases hk2 : mkOK m.f (scO (vS m xs (atB k) (aL m).length))
    · have c5 := con53_Y true m.f (vS m xs (atB k) (aL m).length) (by omega) (by omega) mb' (by decide) (by decide) (by omega) (by omega) hk2
      obtain ⟨rfl, rfl, rfl⟩ := hend.1 hk2
      unfold mYes at c5
      repeat (first | refine wG_pure (o_ldf_pt rfl (hg_skip (by omega) h0) rfl rfl) ?_ | refine wG_call1 c5 (ag_int rfl (ag_sl rfl hg_here ml.symm iRow_plain ag_nil)) rfl ?_ | refine wG_upd (o_st_agg rfl (hg_skip (by omega) (hg_skip (by omega) h1)) rfl rfl rfl rfl rfl) ?_ | (first
    | refine wC_a rfl ?_
    | refine q_s rfl ?_
    | refine q_b rfl ?_
    | refine wG_nil ?_
    | refine wG_g rfl ?_
    | refine wG_pure (o_len_vwm rfl) ?_
    | refine wG_pure (o_not_d rfl) ?_
    | refine wG_p rfl (by first | exact rfl | omega) ?_
    | refine wG_pure (o_str2 rfl rfl rfl) ?_
    | refine wG_pure (e_istr rfl rfl (by omega)) ?_
    | refine wG_pure (e_istr0 rfl rfl (by omega)) ?_
    | refine wG_pure (o_not rfl) ?_
    | refine wG_pure (e_ia_vw0 rfl rfl (by omega) rfl) ?_
    | refine wG_pure (e_ia_vwp rfl rfl (by omega) rfl) ?_
    | refine wG_pure (e_ia_vwm rfl rfl (by omega) (by omega) rfl) ?_
    | refine wG_pure (e_ia_vwi rfl rfl (by omega) rfl) ?_
    | refine wG_pure (e_ia_vwn rfl rfl (by omega) (by omega) rfl) ?_
    | refine wG_n rfl rfl ?_
    | refine wG_u rfl rfl ?_
    | refine wG_new (o_mks rfl rfl (by omega) (by decide)) ?_))
      exact ret_db (.inr rfl) rfl (retV_ldt rfl hg_here rfl rfl rfl) (retV_mv rfl) (hg_skip (by omega) hg_here)
    · have c5 := con53_N true m.f (vS m xs (atB k) (aL m).length) (by omega) (by omega) mb' (by decide) (by decide) (by omega) (by omega) hk2
      obtain ⟨rfl, rfl, rfl⟩ := hend.2 hk2
      unfold mNo at c5
      repeat (first | refine wG_pure (o_ldf_pt rfl (hg_skip (by omega) h0) rfl rfl) ?_ | refine wG_call c5 (ag_int rfl (ag_sl rfl hg_here ml.symm iRow_plain ag_nil)) rfl ?_ | refine wG_upd (o_st_agg rfl (hg_skip (by omega) h1) rfl rfl rfl rfl rfl) ?_ | (first
    | refine wC_a rfl ?_
    | refine q_s rfl ?_
    | refine q_b rfl ?_
    | refine wG_nil ?_
    | refine wG_g rfl ?_
    | refine wG_pure (o_len_vwm rfl) ?_
    | refine wG_pure (o_not_d rfl) ?_
    | refine wG_p rfl (by first | exact rfl | omega) ?_
    | refine wG_pure (o_str2 rfl rfl rfl) ?_
    | refine wG_pure (e_istr rfl rfl (by omega)) ?_
    | refine wG_pure (e_istr0 rfl rfl (by omega)) ?_
    | refine wG_pure (o_not rfl) ?_
    | refine wG_pure (e_ia_vw0 rfl rfl (by omega) rfl) ?_
    | refine wG_pure (e_ia_vwp rfl rfl (by omega) rfl) ?_
    | refine wG_pure (e_ia_vwm rfl rfl (by omega) (by omega) rfl) ?_
    | refine wG_pure (e_ia_vwi rfl rfl (by omega) rfl) ?_
    | refine wG_pure (e_ia_vwn rfl rfl (by omega) (by omega) rfl) ?_
    | refine wG_n rfl rfl ?_
    | refine wG_u rfl rfl ?_
    | refine wG_new (o_mks rfl rfl (by omega) (by decide)) ?_))
      exact ret_d0 (.inr rfl) rfl (retV_ldt rfl hg_here rfl rfl rfl) (retV_mv rfl)
theorem con34_all (c : Bool) (m : Md) (xs : List Ev) (h3 : xs.length ≤ 1048576) (hL : LenE xs 1048576) (hG : GoodM m xs) {k : Nat} (hk : (k : Int) ≤ (m.p - 1)) (v : AV) (rs : List Nat) (objs : List Ab.Rows) (hv : v.nvf = true) (hp : PlainObjs objs)
    (hend : (mkOK 0 (scO (vS m xs (atP k) (aL m).length)) → v = mYes (mkO 0 (scO (vS m xs (atP k) (aL m).length))) ∧ rs = [w0 m xs + 1] ∧ objs = [(mkO 0 (scO (vS m xs (atP k) (aL m).length))).ws.map iRow]) ∧ (¬ mkOK 0 (scO (vS m xs (atP k) (aL m).length)) → v = mNo ∧ rs = [] ∧ objs = [])) :
    Con Try.prog 34 true [.agg (mdR c m xs), .int .i64 (k : Int)] v objs := by
  classical
  suffices key : Con Try.prog 34 v.nvf [.agg (mdR c m xs), .int .i64 (k : Int)] v objs by rwa [hv] at key
  refine con_of_wp mixed fun34 (by simp) rs hp ?_
  unfold ac34 ro34
  simp only [zipT]
  have c1 := con39 c m xs h3 hL
  rw [decide_eq_true hG] at c1
  have c2 := con47 (k : Int) 0 ((m.p - 1))
  rw [decide_eq_true ⟨by omega, hk⟩] at c2
  have cA := con63 c m xs hG
  have cB := con73 c m xs hG
  have h8 := aL_len hG
  have hag := aL_get m
  have hbl : (bI m (m.p.toNat + 1)).length = (aL m).length := bI_len _ _
  have hpl := pL_len m xs (-1) xs.length
  have hY := hG.1
  have hf := hG.2.1
  have hPb := hG.2.2.1
  have e0 : ∀ n : Nat, 0 + ((n : Int)).toNat = n := fun n => by simp
  have hw0 : 0 + 1 + 1 + (xs.length + 1) + ((aL m).length + 1) = w0 m xs := rfl
  generalize bI m (m.p.toNat + 1) = L at *
  have cw := fun b (hb : GoodB m.y.toNat (m.p.toNat + 1) b) => con74 c true true m xs hG (-1) b hb (-1)
  generalize pL m xs (-1) xs.length = PP at *
  repeat (first | refine wG_call c1 rfl rfl ?_ | refine wG_call c2 rfl rfl ?_ | (first
    | refine wC_a rfl ?_
    | refine q_s rfl ?_
    | refine q_b rfl ?_
    | refine wG_nil ?_
    | refine wG_g rfl ?_
    | refine wG_pure (o_len_vwm rfl) ?_
    | refine wG_pure (o_not_d rfl) ?_
    | refine wG_p rfl (by first | exact rfl | omega) ?_
    | refine wG_pure (o_str2 rfl rfl rfl) ?_
    | refine wG_pure (e_istr rfl rfl (by omega)) ?_
    | refine wG_pure (e_istr0 rfl rfl (by omega)) ?_
    | refine wG_pure (o_not rfl) ?_
    | refine wG_pure (e_ia_vw0 rfl rfl (by omega) rfl) ?_
    | refine wG_pure (e_ia_vwp rfl rfl (by omega) rfl) ?_
    | refine wG_pure (e_ia_vwm rfl rfl (by omega) (by omega) rfl) ?_
    | refine wG_pure (e_ia_vwi rfl rfl (by omega) rfl) ?_
    | refine wG_pure (e_ia_vwn rfl rfl (by omega) (by omega) rfl) ?_
    | refine wG_n rfl rfl ?_
    | refine wG_u rfl rfl ?_
    | refine wG_new (o_mks rfl rfl (by omega) (by decide)) ?_))
  refine wG_callG (v' := .sl 2 1 0 PP.length) cA rfl rfl rfl ?_
  rw [hT_eq, teL_len]
  obtain ⟨q2, hq2⟩ : ∃ q2, 0 + 1 + 1 + (PP.length + 1) = q2 := ⟨_, rfl⟩
  rw [hq2]
  have h0' : hg (hQ (0 + 1 + 1) (0 + 1 + 1 + 1) PP [(1, some [[.int .i64 0, .nilS]]), (0, some [mdR c m xs])]) 0 = some [mdR c m xs] := hQ_out (by omega) (by omega) (hg_skip (by omega) hg_here)
  repeat (first | refine wG_pure (o_ldt_pt rfl h0' rfl rfl rfl) ?_ | (first
    | refine wC_a rfl ?_
    | refine q_s rfl ?_
    | refine q_b rfl ?_
    | refine wG_nil ?_
    | refine wG_g rfl ?_
    | refine wG_pure (o_len_vwm rfl) ?_
    | refine wG_pure (o_not_d rfl) ?_
    | refine wG_p rfl (by first | exact rfl | omega) ?_
    | refine wG_pure (o_str2 rfl rfl rfl) ?_
    | refine wG_pure (e_istr rfl rfl (by omega)) ?_
    | refine wG_pure (e_istr0 rfl rfl (by omega)) ?_
    | refine wG_pure (o_not rfl) ?_
    | refine wG_pure (e_ia_vw0 rfl rfl (by omega) rfl) ?_
    | refine wG_pure (e_ia_vwp rfl rfl (by omega) rfl) ?_
    | refine wG_pure (e_ia_vwm rfl rfl (by omega) (by omega) rfl) ?_
    | refine wG_pure (e_ia_vwi rfl rfl (by omega) rfl) ?_
    | refine wG_pure (e_ia_vwn rfl rfl (by omega) (by omega) rfl) ?_
    | refine wG_n rfl rfl ?_
    | refine wG_u rfl rfl ?_
    | refine wG_new (o_mks rfl rfl (by omega) (by decide)) ?_))
  refine wG_callG (v' := .sl q2 1 0 L.length) cB rfl rfl rfl ?_
  rw [hT_eq, teL_len]
  obtain ⟨w, hw⟩ : ∃ w, q2 + (L.length + 1) = w := ⟨_, rfl⟩
  rw [hw]
  have hww : w = w0 m xs := by omega
  rw [← hww] at hend
  have h0 : hg (hQ q2 (q2 + 1) L (hQ (0 + 1 + 1) (0 + 1 + 1 + 1) PP [(1, some [[.int .i64 0, .nilS]]), (0, some [mdR c m xs])])) 0 = some [mdR c m xs] := hQ_out (by omega) (by omega) h0'
  have h1 : hg (hQ q2 (q2 + 1) L (hQ (0 + 1 + 1) (0 + 1 + 1 + 1) PP [(1, some [[.int .i64 0, .nilS]]), (0, some [mdR c m xs])])) 1 = some [[.int .i64 0, .nilS]] := hQ_out (by omega) (by omega) (hQ_out (by omega) (by omega) hg_here)
  have hPP : ∀ i rows, (teL PP)[i]? = some rows → hg (hQ q2 (q2 + 1) L (hQ (0 + 1 + 1) (0 + 1 + 1 + 1) PP [(1, some [[.int .i64 0, .nilS]]), (0, some [mdR c m xs])])) (2 + i) = some (shR 2 rows) := fun i rows hi => by
    have := teL_lt hi
    exact hQ_out (by omega) (by omega) (hQ_te hi)
  have hLq : hg (hQ q2 (q2 + 1) L (hQ (0 + 1 + 1) (0 + 1 + 1 + 1) PP [(1, some [[.int .i64 0, .nilS]]), (0, some [mdR c m xs])])) q2 = some (nR hI (q2 + 1) L L.length zI) := hQ_q
  have hLi : ∀ i, i < L.length → hg (hQ q2 (q2 + 1) L (hQ (0 + 1 + 1) (0 + 1 + 1 + 1) PP [(1, some [[.int .i64 0, .nilS]]), (0, some [mdR c m xs])])) (q2 + 1 + i) = some ((L.getD i default).map iRow) := fun i hi => hQ_in hi (by omega)
  have hwfH : wfH (hQ q2 (q2 + 1) L (hQ (0 + 1 + 1) (0 + 1 + 1 + 1) PP [(1, some [[.int .i64 0, .nilS]]), (0, some [mdR c m xs])])) (w + 1) := hQ_wf (by omega) (by omega) (hQ_wf (by omega) (by omega) (wfH_cons (by omega) (by simp [AV.ltr]) (wfH_cons (by omega) (mdR_ltr1' _) wfH_nil)))
  change wpG _ _ _ ⟨_, hQ q2 (q2 + 1) L (hQ (0 + 1 + 1) (0 + 1 + 1 + 1) PP [(1, some [[.int .i64 0, .nilS]]), (0, some [mdR c m xs])]), _⟩ _
  generalize hQ q2 (q2 + 1) L (hQ (0 + 1 + 1) (0 + 1 + 1 + 1) PP [(1, some [[.int .i64 0, .nilS]]), (0, some [mdR c m xs])]) = H0 at *
  have hrep : List.replicate m.y.toNat [AV.int .i64 0] = (vS m xs (atP k) 0).map iRow := by
    show _ = (List.replicate m.y.toNat (0 : Int)).map iRow
    rw [List.map_replicate]; rfl
  repeat (first | refine wG_pure (o_ldf_pt rfl h0 rfl rfl) ?_ | refine wG_new (o_mksZ (n := m.y.toNat) (by omega) rfl rfl (by omega) (by decide)) ?_ | (first
    | refine wC_a rfl ?_
    | refine q_s rfl ?_
    | refine q_b rfl ?_
    | refine wG_nil ?_
    | refine wG_g rfl ?_
    | refine wG_pure (o_len_vwm rfl) ?_
    | refine wG_pure (o_not_d rfl) ?_
    | refine wG_p rfl (by first | exact rfl | omega) ?_
    | refine wG_pure (o_str2 rfl rfl rfl) ?_
    | refine wG_pure (e_istr rfl rfl (by omega)) ?_
    | refine wG_pure (e_istr0 rfl rfl (by omega)) ?_
    | refine wG_pure (o_not rfl) ?_
    | refine wG_pure (e_ia_vw0 rfl rfl (by omega) rfl) ?_
    | refine wG_pure (e_ia_vwp rfl rfl (by omega) rfl) ?_
    | refine wG_pure (e_ia_vwm rfl rfl (by omega) (by omega) rfl) ?_
    | refine wG_pure (e_ia_vwi rfl rfl (by omega) rfl) ?_
    | refine wG_pure (e_ia_vwn rfl rfl (by omega) (by omega) rfl) ?_
    | refine wG_n rfl rfl ?_
    | refine wG_u rfl rfl ?_
    | refine wG_new (o_mks rfl rfl (by omega) (by decide)) ?_))
  refine wC_loopX Nat (fun i => ⟨[(1, .int .i64 (k : Int)), (2, .pt 0 0 0), (4, .pt 1 0 0), (6, .sl 2 1 0 PP.length), (7, .sl q2 1 0 L.length), (8, .sl w 1 0 m.y.toNat), (9, .int .i64 (i : Int))], (w, some ((vS m xs (atP k) i).map iRow)) :: H0, w + 1⟩) (fun i => i ≤ L.length) (fun i => L.length - i) 0 (Nat.zero_le _) ?_ ?_
  · rw [hrep]
    exact .inl (Le_of ⟨⟨rfl, rfl⟩, ⟨rfl, by simp only [AV.ltr, decide_eq_true_eq]; show _ < w + 1; omega⟩, ⟨rfl, by simp only [AV.ltr, decide_eq_true_eq]; show _ < w + 1; omega⟩, ⟨rfl, by simp only [AV.ltr, decide_eq_true_eq]; show _ < w + 1; omega⟩, ⟨rfl, by simp only [AV.ltr, decide_eq_true_eq]; show _ < w + 1; omega⟩, ⟨rfl, by simp only [AV.ltr, decide_eq_true_eq]; show _ < w + 1; omega⟩, ⟨rfl, rfl⟩, trivial⟩ (fun q rows hq => hq) (wfH_cons (by show w < w + 1; omega) (ltrI _ _) hwfH))
  intro i hi
  obtain ⟨ml, mb⟩ := vS_b hG (atP k) i (by omega)
  repeat (first
    | refine wC_a rfl ?_
    | refine q_s rfl ?_
    | refine q_b rfl ?_
    | refine wG_nil ?_
    | refine wG_g rfl ?_
    | refine wG_pure (o_len_vwm rfl) ?_
    | refine wG_pure (o_not_d rfl) ?_
    | refine wG_p rfl (by first | exact rfl | omega) ?_
    | refine wG_pure (o_str2 rfl rfl rfl) ?_
    | refine wG_pure (e_istr rfl rfl (by omega)) ?_
    | refine wG_pure (e_istr0 rfl rfl (by omega)) ?_
    | refine wG_pure (o_not rfl) ?_
    | refine wG_pure (e_ia_vw0 rfl rfl (by omega) rfl) ?_
    | refine wG_pure (e_ia_vwp rfl rfl (by omega) rfl) ?_
    | refine wG_pure (e_ia_vwm rfl rfl (by omega) (by omega) rfl) ?_
    | refine wG_pure (e_ia_vwi rfl rfl (by omega) rfl) ?_
    | refine wG_pure (e_ia_vwn rfl rfl (by omega) (by omega) rfl) ?_
    | refine wG_n rfl rfl ?_
    | refine wG_u rfl rfl ?_
    | refine wG_new (o_mks rfl rfl (by omega) (by decide)) ?_)
  refine wC_cond_d rfl (fun h5 => ?_) (fun h5 => ?_)
  · have hi2 : i < (aL m).length := by omega
    have gB := aL_good hi2
    have hin := hLi i (by omega)
    have hrow := hQ_row (b := q2 + 1) (L := L) (i := i) (by omega)
    rw [hag, ci_len] at hrow
    rw [hag, cb] at hin
    have hup := vS_up (xs := xs) (a := (atP k)) hi2
    have cw := cw _ gB
    generalize (aL m).getD i [] = b at *
    have hbl2 := gB.len
    have hk1 : k < m.p.toNat + 1 := by omega
    have b1 := gB.lt k (by omega)
    have gi : (b.map nRow)[k]? = some (nRow (gN b k)) := nGet (by omega)
    have gi1 : k + 1 < m.p.toNat + 1 → (b.map nRow)[k + 1]? = some (nRow (gN b (k + 1))) := fun h => nGet (by omega)
    have b2 : k + 1 < m.p.toNat + 1 → gN b k ≤ gN b (k + 1) ∧ gN b (k + 1) < m.y.toNat := fun h => ⟨gB.mono k h, gB.lt _ h⟩
    have hat : (atP k) b < m.y.toNat := by first | exact b1 | (have := b2 (by omega); show gN b (k + 1) - gN b k < _; omega)
    have gk : ((vS m xs (atP k) i).map iRow)[(atP k) b]? = some (iRow ((vS m xs (atP k) i).getD ((atP k) b) default)) := iGet (by omega)
    have ek : 0 + ((k : Int) + 1).toNat = k + 1 := by omega
    have es : 0 + (((gN b (k + 1) : Nat) : Int) - ((gN b k : Nat) : Int)).toNat = gN b (k + 1) - gN b k := by omega
    try (have b2' := b2 (by omega))
    have nw : ∀ x, x < w → x ≠ w := fun x h => by omega
    have hP' : ∀ i' rows, (teL PP)[i']? = some rows → hg ((w, some ((vS m xs (atP k) i).map iRow)) :: H0) (2 + i') = some (shR 2 rows) := fun i' rows hi' => by
      have := teL_lt hi'
      exact hg_skip (by omega) (hPP i' rows hi')
    repeat (first | refine wC_dregE ?_ | refine wE_v (o_ldt_pt rfl (hg_skip (by omega) h0) rfl rfl rfl) rfl ?_ | (refine wE_v (e_ia_sl rfl rfl (by omega) (by omega)) rfl ?_; simp only [e0]) | (refine wE_v (e_ia_sl rfl rfl (by omega) (by omega)) rfl ?_; simp only [ek]) | (refine wE_v (e_ia_sl rfl rfl (by omega) (by omega)) rfl ?_; simp only [es]) | (refine wG_pure (e_ia_sl rfl rfl (by omega) (by omega)) ?_; simp only [e0]) | refine wG_pure (o_ldf_pt rfl (hg_skip (nw _ (by omega)) hLq) hrow rfl) ?_ | refine wG_pure (o_ldf_pt rfl (hg_skip (nw _ (by omega)) hin) gi rfl) ?_ | refine wE_v (o_ldf_pt rfl (hg_skip (nw _ (by omega)) hLq) hrow rfl) rfl ?_ | refine wE_v (o_ldf_pt rfl (hg_skip (nw _ (by omega)) hin) gi rfl) rfl ?_ | refine wE_v (o_ldf_pt rfl (hg_skip (nw _ (by omega)) hin) (gi1 (by omega)) rfl) rfl ?_ | refine wE_v (o_ldf_pt rfl hg_here gk rfl) rfl ?_ | refine wE_call cw (ag_any rfl (ag_any (dr_L PP hP') (ag_sl rfl (hg_skip (nw _ (by omega)) hin) rfl nRow_plain (ag_int rfl ag_nil)))) rfl rfl ?_ | refine wE_upd (o_st1 rfl hg_here gk rfl rfl mset) rfl ?_ | (first
    | refine wC_a rfl ?_
    | refine q_s rfl ?_
    | refine q_b rfl ?_
    | refine wG_nil ?_
    | refine wG_g rfl ?_
    | refine wG_pure (o_len_vwm rfl) ?_
    | refine wG_pure (o_not_d rfl) ?_
    | refine wG_p rfl (by first | exact rfl | omega) ?_
    | refine wG_pure (o_str2 rfl rfl rfl) ?_
    | refine wG_pure (e_istr rfl rfl (by omega)) ?_
    | refine wG_pure (e_istr0 rfl rfl (by omega)) ?_
    | refine wG_pure (o_not rfl) ?_
    | refine wG_pure (e_ia_vw0 rfl rfl (by omega) rfl) ?_
    | refine wG_pure (e_ia_vwp rfl rfl (by omega) rfl) ?_
    | refine wG_pure (e_ia_vwm rfl rfl (by omega) (by omega) rfl) ?_
    | refine wG_pure (e_ia_vwi rfl rfl (by omega) rfl) ?_
    | refine wG_pure (e_ia_vwn rfl rfl (by omega) (by omega) rfl) ?_
    | refine wG_n rfl rfl ?_
    | refine wG_u rfl rfl ?_
    | refine wG_new (o_mks rfl rfl (by omega) (by decide)) ?_) | (first
    | refine wE_nil (by kernel_rfl) ?_
    | refine wE_gy rfl ?_
    | refine wE_gn rfl rfl rfl ?_
    | refine wE_gu rfl rfl ?_
    | refine wE_gnn rfl rfl rfl ?_
    | refine wE_v (o_len_vwm rfl) rfl ?_
    | refine wE_v (o_not_d rfl) rfl ?_
    | refine wE_p rfl (by first | exact rfl | omega) rfl ?_
    | refine wE_v (o_str2 rfl rfl rfl) rfl ?_
    | refine wE_v (e_istr rfl rfl (by omega)) rfl ?_
    | refine wE_v (e_istr0 rfl rfl (by omega)) rfl ?_
    | refine wE_v (o_not rfl) rfl ?_
    | refine wE_v (e_ia_vw0 rfl rfl (by omega) rfl) rfl ?_
    | refine wE_v (e_ia_vwp rfl rfl (by omega) rfl) rfl ?_
    | refine wE_v (e_ia_vwm rfl rfl (by omega) (by omega) rfl) rfl ?_
    | refine wE_v (e_ia_vwi rfl rfl (by omega) rfl) rfl ?_
    | refine wE_v (e_ia_vwn rfl rfl (by omega) (by omega) rfl) rfl ?_
    | refine wE_n rfl rfl rfl ?_
    | refine wE_u rfl rfl rfl ?_
    | refine wE_new (o_mks rfl rfl (by omega) (by decide)) rfl ?_) | refine wE_v (o_addw rfl rfl) rfl ?_)
    refine ⟨i + 1, by omega, by omega, .inl (Le_of ⟨⟨rfl, rfl⟩, ⟨rfl, by simp only [AV.ltr, decide_eq_true_eq]; show _ < w + 1; omega⟩, ⟨rfl, by simp only [AV.ltr, decide_eq_true_eq]; show _ < w + 1; omega⟩, ⟨rfl, by simp only [AV.ltr, decide_eq_true_eq]; show _ < w + 1; omega⟩, ⟨rfl, by simp only [AV.ltr, decide_eq_true_eq]; show _ < w + 1; omega⟩, ⟨rfl, by simp only [AV.ltr, decide_eq_true_eq]; show _ < w + 1; omega⟩, ⟨rfl, rfl⟩, trivial⟩ (fun q rows hq => ?_) (wfH_cons (by show w < w + 1; omega) (ltrI _ _) hwfH))⟩
    refine (congrFun hg_two q).trans ?_
    rw [hup] at hq
    exact hq
  · have hi3 : i = (aL m).length := by omega
    subst hi3
    have mb' : bnd (vS m xs (atP k) (aL m).length) 8000000000000000000 := fun j hj => by have := mb j hj; omega
    by_cases hk2 : mkOK 0 (scO (vS m xs (atP k) (aL m).length))
    · have c5 := con53_Y true 0 (vS m xs (atP k) (aL m).length) (by omega) (by omega) mb' (by decide) (by decide) (by omega) (by omega) hk2
      obtain ⟨rfl, rfl, rfl⟩ := hend.1 hk2
      unfold mYes at c5
      repeat (first | refine wG_pure (o_ldf_pt rfl (hg_skip (by omega) h0) rfl rfl) ?_ | refine wG_call1 c5 (ag_int rfl (ag_sl rfl hg_here ml.symm iRow_plain ag_nil)) rfl ?_ | refine wG_upd (o_st_agg rfl (hg_skip (by omega) (hg_skip (by omega) h1)) rfl rfl rfl rfl rfl) ?_ | (first
    | refine wC_a rfl ?_
    | refine q_s rfl ?_
    | refine q_b rfl ?_
    | refine wG_nil ?_
    | refine wG_g rfl ?_
    | refine wG_pure (o_len_vwm rfl) ?_
    | refine wG_pure (o_not_d rfl) ?_
    | refine wG_p rfl (by first | exact rfl | omega) ?_
    | refine wG_pure (o_str2 rfl rfl rfl) ?_
    | refine wG_pure (e_istr rfl rfl (by omega)) ?_
    | refine wG_pure (e_istr0 rfl rfl (by omega)) ?_
    | refine wG_pure (o_not rfl) ?_
    | refine wG_pure (e_ia_vw0 rfl rfl (by omega) rfl) ?_
    | refine wG_pure (e_ia_vwp rfl rfl (by omega) rfl) ?_
    | refine wG_pure (e_ia_vwm rfl rfl (by omega) (by omega) rfl) ?_
    | refine wG_pure (e_ia_vwi rfl rfl (by omega) rfl) ?_
    | refine wG_pure (e_ia_vwn rfl rfl (by omega) (by omega) rfl) ?_
    | refine wG_n rfl rfl ?_
    | refine wG_u rfl rfl ?_
    | refine wG_new (o_mks rfl rfl (by omega) (by decide)) ?_))
      exact ret_db (.inr rfl) rfl (retV_ldt rfl hg_here rfl rfl rfl) (retV_mv rfl) (hg_skip (by omega) hg_here)
    · have c5 := con53_N true 0 (vS m xs (atP k) (aL m).length) (by omega) (by omega) mb' (by decide) (by decide) (by omega) (by omega) hk2
      obtain ⟨rfl, rfl, rfl⟩ := hend.2 hk2
      unfold mNo at c5
      repeat (first | refine wG_pure (o_ldf_pt rfl (hg_skip (by omega) h0) rfl rfl) ?_ | refine wG_call c5 (ag_int rfl (ag_sl rfl hg_here ml.symm iRow_plain ag_nil)) rfl ?_ | refine wG_upd (o_st_agg rfl (hg_skip (by omega) h1) rfl rfl rfl rfl rfl) ?_ | (first
    | refine wC_a rfl ?_
    | refine q_s rfl ?_
    | refine q_b rfl ?_
    | refine wG_nil ?_
    | refine wG_g rfl ?_
    | refine wG_pure (o_len_vwm rfl) ?_
    | refine wG_pure (o_not_d rfl) ?_
    | refine wG_p rfl (by first | exact rfl | omega) ?_
    | refine wG_pure (o_str2 rfl rfl rfl) ?_
    | refine wG_pure (e_istr rfl rfl (by omega)) ?_
    | refine wG_pure (e_istr0 rfl rfl (by omega)) ?_
    | refine wG_pure (o_not rfl) ?_
    | refine wG_pure (e_ia_vw0 rfl rfl (by omega) rfl) ?_
    | refine wG_pure (e_ia_vwp rfl rfl (by omega) rfl) ?_
    | refine wG_pure (e_ia_vwm rfl rfl (by omega) (by omega) rfl) ?_
    | refine wG_pure (e_ia_vwi rfl rfl (by omega) rfl) ?_
    | refine wG_pure (e_ia_vwn rfl rfl (by omega) (by omega) rfl) ?_
    | refine wG_n rfl rfl ?_
    | refine wG_u rfl rfl ?_
    | refine wG_new (o_mks rfl rfl (by omega) (by decide)) ?_))
      exact ret_d0 (.inr rfl) rfl (retV_ldt rfl hg_here rfl rfl rfl) (retV_mv rfl)
end Go.Proofs.Ytnohaclnpbpjbaa.Dst
