/- Diversity: both sides and the law. -/
import Derived.Test.YtjfppdgomnjnmaaDivC
namespace Go.Proofs.Ytjfppdgomnjnmaa.Fnd
open Go Go.Proofs.Ytjfppdgomnjnmaa.Ab Go.Proofs.Ytjfppdgomnjnmaa.Il
attribute [local irreducible] wpO wpC wpDr wpQ wpG wpE stepA seqQ blkQ Ret ev
set_option maxRecDepth 10000
set_option maxHeartbeats 8000000
set_option linter.unusedSimpArgs false
set_option linter.unusedVariables false

def ac7 : AC := (.seq (.reg [⟨(some 4), none, (.mv (.c (.bool false)))⟩]) (.seq (.reg [⟨(some 5), none, (.mv (.c (.int .i64 1048576)))⟩]) (.seq (.reg [⟨(some 13), none, (.mv (.t 0))⟩, ⟨(some 14), none, (.mv (.t 5))⟩, ⟨(some 15), none, (.call 9 [(.t 13), (.t 14)])⟩, ⟨(some 5), none, (.mv (.t 15))⟩]) (.seq (.seq (.reg [⟨(some 16), none, (.mv (.t 5))⟩, ⟨(some 17), none, (.bin .lss (.t 16) (.c (.int .i64 0)))⟩]) (.cond (.t 17) (.seq (.reg [⟨(some 4), none, (.mv (.c (.bool true)))⟩]) .ret) .skip)) (.seq (.reg [⟨(some 19), none, (.mv (.t 0))⟩, ⟨(some 20), none, (.call 11 [(.t 19)])⟩, ⟨(some 21), none, (.mv (.t 1))⟩, ⟨(some 22), none, (.call 20 [(.t 20), (.t 21)])⟩, ⟨(some 18), none, (.mv (.t 22))⟩, ⟨(some 23), none, (.ext (.t 18) 0)⟩, ⟨(some 24), none, (.ext (.t 18) 1)⟩, ⟨(some 25), none, (.ext (.t 18) 2)⟩, ⟨(some 6), none, (.mv (.t 23))⟩, ⟨(some 7), none, (.mv (.t 24))⟩, ⟨(some 8), none, (.mv (.t 25))⟩]) (.seq (.reg [⟨(some 26), none, (.mv (.t 0))⟩, ⟨(some 27), none, (.call 11 [(.t 26)])⟩, ⟨(some 9), none, (.mv (.t 27))⟩]) (.seq (.reg [⟨(some 29), none, (.mv (.t 9))⟩, ⟨(some 30), none, (.mv (.t 1))⟩, ⟨(some 31), none, (.call 21 [(.t 29), (.t 30)])⟩, ⟨(some 28), none, (.mv (.t 31))⟩, ⟨(some 32), none, (.ext (.t 28) 0)⟩, ⟨(some 33), none, (.ext (.t 28) 1)⟩, ⟨(some 34), none, (.ext (.t 28) 2)⟩, ⟨(some 10), none, (.mv (.t 32))⟩, ⟨(some 11), none, (.mv (.t 33))⟩, ⟨(some 12), none, (.mv (.t 34))⟩]) (.seq (.seq (.reg [⟨(some 35), none, (.mv (.t 10))⟩, ⟨(some 36), none, (.mv (.t 6))⟩, ⟨(some 37), none, (.bin .neq (.t 35) (.t 36))⟩, ⟨(some 38), none, (.mv (.t 37))⟩, ⟨(some 39), (some (38, false)), (.mv (.t 11))⟩, ⟨(some 40), (some (38, false)), (.mv (.t 7))⟩, ⟨(some 41), (some (38, false)), (.bin .neq (.t 39) (.t 40))⟩, ⟨(some 42), none, (.pick (.t 38) (.c (.bool true)) (.t 41))⟩, ⟨(some 43), none, (.mv (.t 42))⟩, ⟨(some 44), (some (43, false)), (.mv (.t 12))⟩, ⟨(some 45), (some (43, false)), (.mv (.t 8))⟩, ⟨(some 46), (some (43, false)), (.bool2 true (.t 44) (.t 45))⟩, ⟨(some 47), none, (.pick (.t 43) (.c (.bool true)) (.t 46))⟩]) (.cond (.t 47) (.seq (.reg [⟨(some 4), none, (.mv (.c (.bool false)))⟩]) .ret) .skip)) (.seq (.seq (.reg [⟨(some 48), none, (.mv (.t 9))⟩, ⟨(some 49), none, (.mv (.t 0))⟩, ⟨(some 50), none, (.call 11 [(.t 49)])⟩, ⟨(some 51), none, (.call 13 [(.t 48), (.t 50)])⟩, ⟨(some 52), none, (.un .not (.t 51))⟩]) (.cond (.t 52) (.seq (.reg [⟨(some 4), none, (.mv (.c (.bool false)))⟩]) .ret) .skip)) (.seq (.reg [⟨(some 4), none, (.mv (.c (.bool true)))⟩]) .ret))))))))))
def ro7 : List AOp := [(.mv (.t 4))]
theorem fun7 : Fun Try.prog 7 53 ac7 ro7 := ⟨Try.f7, _, Try.func7, by kernel_rfl, rfl, rfl, by kernel_rfl, by kernel_rfl, by decide⟩
def ac20 : AC := (.seq (.reg [⟨(some 4), none, (.mv (.c (.int .i64 0)))⟩, ⟨(some 5), none, (.mv (.c (.int .i64 0)))⟩, ⟨(some 6), none, (.mv (.c (.bool false)))⟩]) (.seq (.seq (.reg [⟨(some 13), none, (.mv (.t 0))⟩, ⟨(some 14), none, (.mv (.t 1))⟩, ⟨(some 15), none, (.call 39 [(.t 13), (.t 14)])⟩, ⟨(some 16), none, (.un .not (.t 15))⟩]) (.cond (.t 16) (.seq (.reg [⟨(some 4), none, (.mv (.c (.int .i64 0)))⟩, ⟨(some 5), none, (.mv (.c (.int .i64 0)))⟩, ⟨(some 6), none, (.mv (.c (.bool false)))⟩]) .ret) .skip)) (.seq (.reg [⟨(some 17), none, (.mv (.t 0))⟩, ⟨(some 18), none, (.mv (.t 1))⟩, ⟨(some 19), none, (.call 42 [(.t 17), (.t 18)])⟩, ⟨(some 7), none, (.mv (.t 19))⟩]) (.seq (.reg [⟨(some 20), none, (.mv (.t 7))⟩, ⟨(some 21), none, (.call 43 [(.t 20)])⟩, ⟨(some 8), none, (.mv (.t 21))⟩]) (.seq (.seq (.reg [⟨(some 22), none, (.mv (.t 8))⟩, ⟨(some 23), none, (.bin .lss (.t 22) (.c (.int .i64 2)))⟩]) (.cond (.t 23) (.seq (.reg [⟨(some 4), none, (.mv (.c (.int .i64 0)))⟩, ⟨(some 5), none, (.mv (.c (.int .i64 0)))⟩, ⟨(some 6), none, (.mv (.c (.bool false)))⟩]) .ret) .skip)) (.seq (.reg [⟨(some 24), none, (.mv (.t 8))⟩, ⟨(some 25), none, (.mv (.t 8))⟩, ⟨(some 26), none, (.bin .sub (.t 25) (.c (.int .i64 1)))⟩, ⟨(some 27), none, (.bin .mul (.t 24) (.t 26))⟩, ⟨(some 28), none, (.mv (.t 8))⟩, ⟨(some 29), none, (.mv (.t 8))⟩, ⟨(some 30), none, (.bin .sub (.t 29) (.c (.int .i64 1)))⟩, ⟨(some 31), none, (.bin .mul (.t 28) (.t 30))⟩, ⟨(some 9), none, (.mv (.t 27))⟩, ⟨(some 10), none, (.mv (.t 31))⟩]) (.seq (.seq (.reg [⟨(some 11), none, (.mv (.c (.int .i64 0)))⟩]) (.blk 0 (.loop (.seq (.seq (.reg [⟨(some 32), none, (.mv (.t 11))⟩, ⟨(some 33), none, (.mv (.t 7))⟩, ⟨(some 34), none, (.len (.t 33))⟩, ⟨(some 35), none, (.bin .lss (.t 32) (.t 34))⟩]) (.cond (.t 35) .skip (.exit 0))) (.seq (.blk 1 (.dreg [⟨(some 38), none, (.mv (.t 9))⟩, ⟨(some 39), none, (.mv (.t 7))⟩, ⟨(some 40), none, (.mv (.t 11))⟩, ⟨(some 41), none, (.ia 1 (.t 39) (.t 40))⟩, ⟨(some 42), none, (.ld false 1 (.t 41))⟩, ⟨(some 43), none, (.mv (.t 7))⟩, ⟨(some 44), none, (.mv (.t 11))⟩, ⟨(some 45), none, (.ia 1 (.t 43) (.t 44))⟩, ⟨(some 46), none, (.ld false 1 (.t 45))⟩, ⟨(some 47), none, (.bin .sub (.t 46) (.c (.int .i64 1)))⟩, ⟨(some 48), none, (.bin .mul (.t 42) (.t 47))⟩, ⟨(some 49), none, (.bin .sub (.t 38) (.t 48))⟩, ⟨(some 9), none, (.mv (.t 49))⟩] [[], [], [], [1, 2], [1, 2, 3], [], [], [5, 6], [5, 6, 7], [5, 6, 7, 8], [1, 2, 3, 4, 5, 6, 7, 8, 9], [0, 1, 2, 3, 4, 5, 6, 7, 8, 9, 10], [0, 1, 2, 3, 4, 5, 6, 7, 8, 9, 10, 11]])) (.reg [⟨(some 36), none, (.mv (.t 11))⟩, ⟨(some 37), none, (.bin .add (.t 36) (.c (.int .i64 1)))⟩, ⟨(some 11), none, (.mv (.t 37))⟩])))))) (.seq (.reg [⟨(some 50), none, (.mv (.t 9))⟩, ⟨(some 51), none, (.mv (.t 10))⟩, ⟨(some 52), none, (.call 37 [(.t 50), (.t 51)])⟩, ⟨(some 12), none, (.mv (.t 52))⟩]) (.seq (.dreg [⟨(some 53), none, (.mv (.t 9))⟩, ⟨(some 54), none, (.mv (.t 12))⟩, ⟨(some 55), none, (.bin .quo (.t 53) (.t 54))⟩, ⟨(some 56), none, (.mv (.t 10))⟩, ⟨(some 57), none, (.mv (.t 12))⟩, ⟨(some 58), none, (.bin .quo (.t 56) (.t 57))⟩, ⟨(some 4), none, (.mv (.t 55))⟩, ⟨(some 5), none, (.mv (.t 58))⟩, ⟨(some 6), none, (.mv (.c (.bool true)))⟩] [[], [], [0, 1], [], [], [3, 4], [0, 1, 2], [0, 1, 2, 3, 4, 5, 6], [0, 1, 2, 3, 4, 5, 6, 7]]) .ret)))))))))
def ro20 : List AOp := [(.mv (.t 4)), (.mv (.t 5)), (.mv (.t 6))]
theorem fun20 : Fun Try.prog 20 59 ac20 ro20 := ⟨Try.f20, _, Try.func20, by kernel_rfl, rfl, rfl, by kernel_rfl, by kernel_rfl, by decide⟩
def ac21 : AC := (.seq (.reg [⟨(some 4), none, (.mv (.c (.int .i64 0)))⟩, ⟨(some 5), none, (.mv (.c (.int .i64 0)))⟩, ⟨(some 6), none, (.mv (.c (.bool false)))⟩]) (.seq (.reg [⟨(some 16), none, (.mv (.t 0))⟩, ⟨(some 17), none, (.mv (.t 1))⟩, ⟨(some 18), none, (.call 41 [(.t 16), (.t 17)])⟩, ⟨(some 15), none, (.mv (.t 18))⟩, ⟨(some 19), none, (.ext (.t 15) 0)⟩, ⟨(some 20), none, (.ext (.t 15) 1)⟩, ⟨(some 7), none, (.mv (.t 19))⟩, ⟨(some 8), none, (.mv (.t 20))⟩]) (.seq (.reg [⟨(some 9), none, (.mv (.c (.int .i64 0)))⟩, ⟨(some 10), none, (.mv (.c (.int .i64 0)))⟩]) (.seq (.seq (.reg [⟨(some 21), none, (.mv (.t 7))⟩, ⟨(some 22), none, (.len (.t 21))⟩, ⟨(some 23), none, (.mv (.c (.int .i64 0)))⟩]) (.blk 0 (.loop (.seq (.reg [⟨(some 24), none, (.bin .lss (.t 23) (.t 22))⟩]) (.seq (.cond (.t 24) .skip (.exit 0)) (.seq (.blk 1 (.seq (.reg [⟨(some 25), none, (.ia 5 (.t 21) (.t 23))⟩, ⟨(some 26), none, (.ld true 5 (.t 25))⟩, ⟨(some 12), none, (.alloc [(.int .i64 0), (.str ⟨#[]⟩), (.int .i64 0), (.int .i64 0), (.int .i64 0)])⟩, ⟨none, none, (.st 5 (.t 12) (.t 26))⟩]) (.seq (.reg [⟨(some 27), none, (.mv (.t 9))⟩, ⟨(some 28), none, (.fa 2 (.t 12))⟩, ⟨(some 29), none, (.ld false 1 (.t 28))⟩, ⟨(some 30), none, (.bin .add (.t 27) (.t 29))⟩, ⟨(some 9), none, (.mv (.t 30))⟩]) (.reg [⟨(some 31), none, (.mv (.t 10))⟩, ⟨(some 32), none, (.fa 2 (.t 12))⟩, ⟨(some 33), none, (.ld false 1 (.t 32))⟩, ⟨(some 34), none, (.fa 2 (.t 12))⟩, ⟨(some 35), none, (.ld false 1 (.t 34))⟩, ⟨(some 36), none, (.bin .sub (.t 35) (.c (.int .i64 1)))⟩, ⟨(some 37), none, (.bin .mul (.t 33) (.t 36))⟩, ⟨(some 38), none, (.bin .add (.t 31) (.t 37))⟩, ⟨(some 10), none, (.mv (.t 38))⟩])))) (.reg [⟨(some 39), none, (.bin .add (.t 23) (.c (.int .i64 1)))⟩, ⟨(some 23), none, (.mv (.t 39))⟩]))))))) (.seq (.seq (.reg [⟨(some 40), none, (.mv (.t 8))⟩, ⟨(some 41), none, (.un .not (.t 40))⟩, ⟨(some 42), none, (.mv (.t 41))⟩, ⟨(some 43), (some (42, false)), (.mv (.t 9))⟩, ⟨(some 44), (some (42, false)), (.bin .lss (.t 43) (.c (.int .i64 2)))⟩, ⟨(some 45), none, (.pick (.t 42) (.c (.bool true)) (.t 44))⟩]) (.cond (.t 45) (.seq (.reg [⟨(some 4), none, (.mv (.c (.int .i64 0)))⟩, ⟨(some 5), none, (.mv (.c (.int .i64 0)))⟩, ⟨(some 6), none, (.mv (.c (.bool false)))⟩]) .ret) .skip)) (.seq (.reg [⟨(some 46), none, (.mv (.t 9))⟩, ⟨(some 47), none, (.mv (.t 9))⟩, ⟨(some 48), none, (.bin .sub (.t 47) (.c (.int .i64 1)))⟩, ⟨(some 49), none, (.bin .mul (.t 46) (.t 48))⟩, ⟨(some 13), none, (.mv (.t 49))⟩]) (.seq (.reg [⟨(some 50), none, (.mv (.t 13))⟩, ⟨(some 51), none, (.mv (.t 10))⟩, ⟨(some 52), none, (.bin .sub (.t 50) (.t 51))⟩, ⟨(some 53), none, (.mv (.t 13))⟩, ⟨(some 54), none, (.call 38 [(.t 52), (.t 53)])⟩, ⟨(some 14), none, (.mv (.t 54))⟩]) (.seq (.dreg [⟨(some 55), none, (.mv (.t 13))⟩, ⟨(some 56), none, (.mv (.t 10))⟩, ⟨(some 57), none, (.bin .sub (.t 55) (.t 56))⟩, ⟨(some 58), none, (.mv (.t 14))⟩, ⟨(some 59), none, (.bin .quo (.t 57) (.t 58))⟩, ⟨(some 60), none, (.mv (.t 13))⟩, ⟨(some 61), none, (.mv (.t 14))⟩, ⟨(some 62), none, (.bin .quo (.t 60) (.t 61))⟩, ⟨(some 4), none, (.mv (.t 59))⟩, ⟨(some 5), none, (.mv (.t 62))⟩, ⟨(some 6), none, (.mv (.c (.bool true)))⟩] [[], [], [0, 1], [], [0, 1, 2, 3], [], [], [5, 6], [0, 1, 2, 3, 4], [0, 1, 2, 3, 4, 5, 6, 7, 8], [0, 1, 2, 3, 4, 5, 6, 7, 8, 9]]) .ret))))))))
def ro21 : List AOp := [(.mv (.t 4)), (.mv (.t 5)), (.mv (.t 6))]
theorem fun21 : Fun Try.prog 21 63 ac21 ro21 := ⟨Try.f21, _, Try.func21, by kernel_rfl, rfl, rfl, by kernel_rfl, by kernel_rfl, by decide⟩

noncomputable def dvA (xs : List Fd) (c : Int) : Int := sI (fun f => f.c = c) Fd.n xs xs.length
noncomputable def dvB (xs : List Fd) (c : Int) : Int := sI (fun f => f.c = c) (fun f => φ2 f.n) xs xs.length
open Classical in
noncomputable def dvs (xs : List Fd) (c : Int) : Int × Int × Bool := if Asked xs c ∧ 2 ≤ dvA xs c then ((dvA xs c * (dvA xs c - 1) - dvB xs c).tdiv (Int.gcd (dvA xs c * (dvA xs c - 1) - dvB xs c) (dvA xs c * (dvA xs c - 1)) : Nat), (dvA xs c * (dvA xs c - 1)).tdiv (Int.gcd (dvA xs c * (dvA xs c - 1) - dvB xs c) (dvA xs c * (dvA xs c - 1)) : Nat), true) else (0, 0, false)
theorem dv_b {xs : List Fd} {c : Int} (hG : GoodF xs) : 0 ≤ dvA xs c ∧ dvA xs c ≤ 300000 ∧ 0 ≤ dvB xs c ∧ dvB xs c ≤ dvA xs c * (dvA xs c - 1) := by
  obtain ⟨a1, a2, a3, a4⟩ := sq_le (c := c) hG xs.length (Nat.le_refl _)
  have := hG.1
  exact ⟨a1, by unfold dvA; omega, a3, a4⟩
theorem sqA {a : Int} (h0 : 2 ≤ a) (h1 : a ≤ 300000) : 2 ≤ a * (a - 1) ∧ a * (a - 1) ≤ 90000000000 :=
  ⟨Int.le_trans (show (2 : Int) ≤ 2 * 1 by decide) (Int.mul_le_mul h0 (show (1 : Int) ≤ a - 1 by omega) (by decide) (by omega)), Int.le_trans (Int.mul_le_mul h1 (show a - 1 ≤ 300000 by omega) (by omega) (by decide)) (by decide)⟩
theorem con20 (nn : Bool) (xs : List Fd) (c : Int) (hlen : xs.length ≤ 1048576) (hsz : szB xs) : Con Try.prog 20 true [.vw nn (xs.map fRow), .int .i64 c] (.tup [.int .i64 (dvs xs c).1, .int .i64 (dvs xs c).2.1, .bool (dvs xs c).2.2]) [] := by
  classical
  refine con_of_wp mixed fun20 (by simp) [] plain_nil ?_
  unfold ac20 ro20
  simp only [zipT]
  have c1 := con39 nn xs c hlen hsz
  by_cases hA : Asked xs c
  · rw [decide_eq_true hA] at c1
    have hG := hA.1
    have c2 := con42 nn xs c hG
    have h30 := hG.1
    have hcl := cnts_len c xs
    have htl := typs_len xs xs.length
    have hcb := cnts_b (c := c) hG
    have c3 := con43 true (cnts c xs) (by omega) hcb
    obtain ⟨b1, b2, b3, b4⟩ := dv_b (c := c) hG
    have s1 : sm (cnts c xs) (cnts c xs).length = dvA xs c := cnts_sum hG
    have s2 : sm ((cnts c xs).map φ2) (cnts c xs).length = dvB xs c := cnts_sum2 hG
    rw [s1] at c3
    have hL : (cnts c xs).length ≤ 30 := by omega
    unfold dvs
    generalize dvA xs c = A at *
    generalize dvB xs c = B at *
    generalize cnts c xs = ws at *
    by_cases h2 : 2 ≤ A
    · rw [if_pos ⟨hA, h2⟩]
      have d2 : decide (A < 2) = false := decide_eq_false (by omega)
      obtain ⟨q1, q2⟩ := sqA h2 b2
      have hgp := gcd_pos2 (a := A * (A - 1) - B) (b := A * (A - 1)) (by omega)
      have e1 := quo_b (a := A * (A - 1) - B) (by omega) hgp
      have e2 := quo_b (a := A * (A - 1)) (by omega) hgp
      have c4 := con37 (a := A * (A - 1) - B) (b := A * (A - 1)) (by omega) (by omega)
      generalize Int.gcd (A * (A - 1) - B) (A * (A - 1)) = g at *
      have hz : decide ((g : Int) = 0) = false := decide_eq_false (by omega)
      have hsb : ∀ k, k ≤ ws.length → 0 ≤ sm (ws.map φ2) k ∧ sm (ws.map φ2) k ≤ 3000000000 := fun k hk => by
        have := sm_bd (ws := ws.map φ2) (B := 100000000) (fun j hj => by
          rw [List.length_map] at hj
          have e : (ws.map φ2).getD j default = φ2 (ws.getD j default) := by simp [List.getD_eq_getElem?_getD, List.getElem?_map, List.getElem?_eq_getElem hj]
          rw [e]
          exact φ2_b (hcb j hj).1 (hcb j hj).2) k (by rw [List.length_map]; exact hk)
        omega
      have e0 : ∀ n : Nat, 0 + ((n : Int)).toNat = n := fun n => by simp
      repeat (first | refine wG_call c1 rfl rfl ?_ | refine wG_call1 c2 rfl rfl ?_ | refine wG_call c3 (ag_sl rfl rfl rfl iRow_plain ag_nil) rfl ?_ | (first
    | refine wC_a rfl ?_
    | refine q_s rfl ?_
    | refine q_b rfl ?_
    | refine wG_nil ?_
    | refine wG_g rfl ?_
    | refine wG_pure (o_len_vwm rfl) ?_
    | refine wG_pure (o_not_d rfl) ?_
    | refine wG_p rfl (by first | exact rfl | omega) ?_
    | refine wG_pure (o_str2 rfl rfl rfl) ?_
    | refine wG_pure (e_istr rfl rfl (by omega)) ?_
    | refine wG_pure (e_istr0 rfl rfl (by omega)) ?_
    | refine wG_pure (o_not rfl) ?_
    | refine wG_pure (e_ia_vw0 rfl rfl (by omega) rfl) ?_
    | refine wG_pure (e_ia_vwp rfl rfl (by omega) rfl) ?_
    | refine wG_pure (e_ia_vwm rfl rfl (by omega) (by omega) rfl) ?_
    | refine wG_pure (e_ia_vwi rfl rfl (by omega) rfl) ?_
    | refine wG_pure (e_ia_vwn rfl rfl (by omega) (by omega) rfl) ?_
    | refine wG_n rfl rfl ?_
    | refine wG_u rfl rfl ?_
    | refine wG_new (o_mks rfl rfl (by omega) (by decide)) ?_))
      simp only [d2]
      repeat (first
    | refine wC_a rfl ?_
    | refine q_s rfl ?_
    | refine q_b rfl ?_
    | refine wG_nil ?_
    | refine wG_g rfl ?_
    | refine wG_pure (o_len_vwm rfl) ?_
    | refine wG_pure (o_not_d rfl) ?_
    | refine wG_p rfl (by first | exact rfl | omega) ?_
    | refine wG_pure (o_str2 rfl rfl rfl) ?_
    | refine wG_pure (e_istr rfl rfl (by omega)) ?_
    | refine wG_pure (e_istr0 rfl rfl (by omega)) ?_
    | refine wG_pure (o_not rfl) ?_
    | refine wG_pure (e_ia_vw0 rfl rfl (by omega) rfl) ?_
    | refine wG_pure (e_ia_vwp rfl rfl (by omega) rfl) ?_
    | refine wG_pure (e_ia_vwm rfl rfl (by omega) (by omega) rfl) ?_
    | refine wG_pure (e_ia_vwi rfl rfl (by omega) rfl) ?_
    | refine wG_pure (e_ia_vwn rfl rfl (by omega) (by omega) rfl) ?_
    | refine wG_n rfl rfl ?_
    | refine wG_u rfl rfl ?_
    | refine wG_new (o_mks rfl rfl (by omega) (by decide)) ?_)
      refine wC_loop Nat (fun k => ⟨[(7, .sl 0 1 0 ws.length), (9, .int .i64 (A * (A - 1) - sm (ws.map φ2) k)), (10, .int .i64 (A * (A - 1))), (11, .int .i64 (k : Int))], [(0, some (ws.map iRow))], 1⟩) (fun k => k ≤ ws.length) (fun k => ws.length - k) 0 (Nat.zero_le _) ?_ (fun _ _ => Nat.zero_le _) ?_
      · refine ⟨⟨⟨rfl, rfl⟩, ⟨?_, rfl⟩, ⟨rfl, rfl⟩, ⟨rfl, rfl⟩, trivial⟩, ⟨rfl, Nat.zero_lt_one, ltrI _ _⟩, trivial⟩
        show AV.int _ _ = AV.int _ _
        congr 1; simp [sm]
      intro k hk
      have hk1 := hsb k hk
      repeat (first
    | refine wC_a rfl ?_
    | refine q_s rfl ?_
    | refine q_b rfl ?_
    | refine wG_nil ?_
    | refine wG_g rfl ?_
    | refine wG_pure (o_len_vwm rfl) ?_
    | refine wG_pure (o_not_d rfl) ?_
    | refine wG_p rfl (by first | exact rfl | omega) ?_
    | refine wG_pure (o_str2 rfl rfl rfl) ?_
    | refine wG_pure (e_istr rfl rfl (by omega)) ?_
    | refine wG_pure (e_istr0 rfl rfl (by omega)) ?_
    | refine wG_pure (o_not rfl) ?_
    | refine wG_pure (e_ia_vw0 rfl rfl (by omega) rfl) ?_
    | refine wG_pure (e_ia_vwp rfl rfl (by omega) rfl) ?_
    | refine wG_pure (e_ia_vwm rfl rfl (by omega) (by omega) rfl) ?_
    | refine wG_pure (e_ia_vwi rfl rfl (by omega) rfl) ?_
    | refine wG_pure (e_ia_vwn rfl rfl (by omega) (by omega) rfl) ?_
    | refine wG_n rfl rfl ?_
    | refine wG_u rfl rfl ?_
    | refine wG_new (o_mks rfl rfl (by omega) (by decide)) ?_)
      refine wC_cond_d rfl (fun h5 => ?_) (fun h5 => ?_)
      · have hk2 : k < ws.length := by omega
        have hat : (ws.map iRow)[k]? = some (iRow (ws.getD k default)) := by simp [List.getElem?_map, List.getElem?_eq_getElem hk2, List.getD_eq_getElem?_getD]
        have e : (ws.map φ2).getD k default = φ2 (ws.getD k default) := by simp [List.getD_eq_getElem?_getD, List.getElem?_map, List.getElem?_eq_getElem hk2]
        have hup : sm (ws.map φ2) (k + 1) = sm (ws.map φ2) k + ws.getD k default * (ws.getD k default - 1) := by rw [sm, e]; rfl
        have hw := hcb k hk2
        have hf := φ2_b hw.1 hw.2
        unfold φ2 at hf
        repeat (first | refine wC_dregE ?_ | (refine wE_v (e_ia_sl rfl rfl (by omega) (by omega)) rfl ?_; simp only [e0]) | refine wE_v (o_ldf_pt rfl rfl hat rfl) rfl ?_ | (first
    | refine wC_a rfl ?_
    | refine q_s rfl ?_
    | refine q_b rfl ?_
    | refine wG_nil ?_
    | refine wG_g rfl ?_
    | refine wG_pure (o_len_vwm rfl) ?_
    | refine wG_pure (o_not_d rfl) ?_
    | refine wG_p rfl (by first | exact rfl | omega) ?_
    | refine wG_pure (o_str2 rfl rfl rfl) ?_
    | refine wG_pure (e_istr rfl rfl (by omega)) ?_
    | refine wG_pure (e_istr0 rfl rfl (by omega)) ?_
    | refine wG_pure (o_not rfl) ?_
    | refine wG_pure (e_ia_vw0 rfl rfl (by omega) rfl) ?_
    | refine wG_pure (e_ia_vwp rfl rfl (by omega) rfl) ?_
    | refine wG_pure (e_ia_vwm rfl rfl (by omega) (by omega) rfl) ?_
    | refine wG_pure (e_ia_vwi rfl rfl (by omega) rfl) ?_
    | refine wG_pure (e_ia_vwn rfl rfl (by omega) (by omega) rfl) ?_
    | refine wG_n rfl rfl ?_
    | refine wG_u rfl rfl ?_
    | refine wG_new (o_mks rfl rfl (by omega) (by decide)) ?_) | (first
    | refine wE_nil (by kernel_rfl) ?_
    | refine wE_gy rfl ?_
    | refine wE_gn rfl rfl rfl ?_
    | refine wE_gu rfl rfl ?_
    | refine wE_gnn rfl rfl rfl ?_
    | refine wE_v (o_len_vwm rfl) rfl ?_
    | refine wE_v (o_not_d rfl) rfl ?_
    | refine wE_p rfl (by first | exact rfl | omega) rfl ?_
    | refine wE_v (o_str2 rfl rfl rfl) rfl ?_
    | refine wE_v (e_istr rfl rfl (by omega)) rfl ?_
    | refine wE_v (e_istr0 rfl rfl (by omega)) rfl ?_
    | refine wE_v (o_not rfl) rfl ?_
    | refine wE_v (e_ia_vw0 rfl rfl (by omega) rfl) rfl ?_
    | refine wE_v (e_ia_vwp rfl rfl (by omega) rfl) rfl ?_
    | refine wE_v (e_ia_vwm rfl rfl (by omega) (by omega) rfl) rfl ?_
    | refine wE_v (e_ia_vwi rfl rfl (by omega) rfl) rfl ?_
    | refine wE_v (e_ia_vwn rfl rfl (by omega) (by omega) rfl) rfl ?_
    | refine wE_n rfl rfl rfl ?_
    | refine wE_u rfl rfl rfl ?_
    | refine wE_new (o_mks rfl rfl (by omega) (by decide)) rfl ?_))
        refine ⟨k + 1, hk2, by omega, ⟨⟨rfl, rfl⟩, ⟨?_, rfl⟩, ⟨rfl, rfl⟩, ⟨rfl, rfl⟩, trivial⟩, ⟨rfl, Nat.zero_lt_one, ltrI _ _⟩, trivial⟩
        rw [hup]
        show AV.int _ _ = AV.int _ _
        congr 1; omega
      · have hk3 : k = ws.length := by omega
        subst hk3
        rw [s2]
        repeat (first | refine wG_call c4 rfl rfl ?_ | refine wC_dregE ?_ | (first
    | refine wC_a rfl ?_
    | refine q_s rfl ?_
    | refine q_b rfl ?_
    | refine wG_nil ?_
    | refine wG_g rfl ?_
    | refine wG_pure (o_len_vwm rfl) ?_
    | refine wG_pure (o_not_d rfl) ?_
    | refine wG_p rfl (by first | exact rfl | omega) ?_
    | refine wG_pure (o_str2 rfl rfl rfl) ?_
    | refine wG_pure (e_istr rfl rfl (by omega)) ?_
    | refine wG_pure (e_istr0 rfl rfl (by omega)) ?_
    | refine wG_pure (o_not rfl) ?_
    | refine wG_pure (e_ia_vw0 rfl rfl (by omega) rfl) ?_
    | refine wG_pure (e_ia_vwp rfl rfl (by omega) rfl) ?_
    | refine wG_pure (e_ia_vwm rfl rfl (by omega) (by omega) rfl) ?_
    | refine wG_pure (e_ia_vwi rfl rfl (by omega) rfl) ?_
    | refine wG_pure (e_ia_vwn rfl rfl (by omega) (by omega) rfl) ?_
    | refine wG_n rfl rfl ?_
    | refine wG_u rfl rfl ?_
    | refine wG_new (o_mks rfl rfl (by omega) (by decide)) ?_) | (first
    | refine wE_nil (by kernel_rfl) ?_
    | refine wE_gy rfl ?_
    | refine wE_gn rfl rfl rfl ?_
    | refine wE_gu rfl rfl ?_
    | refine wE_gnn rfl rfl rfl ?_
    | refine wE_v (o_len_vwm rfl) rfl ?_
    | refine wE_v (o_not_d rfl) rfl ?_
    | refine wE_p rfl (by first | exact rfl | omega) rfl ?_
    | refine wE_v (o_str2 rfl rfl rfl) rfl ?_
    | refine wE_v (e_istr rfl rfl (by omega)) rfl ?_
    | refine wE_v (e_istr0 rfl rfl (by omega)) rfl ?_
    | refine wE_v (o_not rfl) rfl ?_
    | refine wE_v (e_ia_vw0 rfl rfl (by omega) rfl) rfl ?_
    | refine wE_v (e_ia_vwp rfl rfl (by omega) rfl) rfl ?_
    | refine wE_v (e_ia_vwm rfl rfl (by omega) (by omega) rfl) rfl ?_
    | refine wE_v (e_ia_vwi rfl rfl (by omega) rfl) rfl ?_
    | refine wE_v (e_ia_vwn rfl rfl (by omega) (by omega) rfl) rfl ?_
    | refine wE_n rfl rfl rfl ?_
    | refine wE_u rfl rfl rfl ?_
    | refine wE_new (o_mks rfl rfl (by omega) (by decide)) rfl ?_))
        repeat (first | refine wE_v (o_quo rfl rfl (by omega) (by omega) (by omega)) rfl ?_ | (first
    | refine wC_a rfl ?_
    | refine q_s rfl ?_
    | refine q_b rfl ?_
    | refine wG_nil ?_
    | refine wG_g rfl ?_
    | refine wG_pure (o_len_vwm rfl) ?_
    | refine wG_pure (o_not_d rfl) ?_
    | refine wG_p rfl (by first | exact rfl | omega) ?_
    | refine wG_pure (o_str2 rfl rfl rfl) ?_
    | refine wG_pure (e_istr rfl rfl (by omega)) ?_
    | refine wG_pure (e_istr0 rfl rfl (by omega)) ?_
    | refine wG_pure (o_not rfl) ?_
    | refine wG_pure (e_ia_vw0 rfl rfl (by omega) rfl) ?_
    | refine wG_pure (e_ia_vwp rfl rfl (by omega) rfl) ?_
    | refine wG_pure (e_ia_vwm rfl rfl (by omega) (by omega) rfl) ?_
    | refine wG_pure (e_ia_vwi rfl rfl (by omega) rfl) ?_
    | refine wG_pure (e_ia_vwn rfl rfl (by omega) (by omega) rfl) ?_
    | refine wG_n rfl rfl ?_
    | refine wG_u rfl rfl ?_
    | refine wG_new (o_mks rfl rfl (by omega) (by decide)) ?_) | (first
    | refine wE_nil (by kernel_rfl) ?_
    | refine wE_gy rfl ?_
    | refine wE_gn rfl rfl rfl ?_
    | refine wE_gu rfl rfl ?_
    | refine wE_gnn rfl rfl rfl ?_
    | refine wE_v (o_len_vwm rfl) rfl ?_
    | refine wE_v (o_not_d rfl) rfl ?_
    | refine wE_p rfl (by first | exact rfl | omega) rfl ?_
    | refine wE_v (o_str2 rfl rfl rfl) rfl ?_
    | refine wE_v (e_istr rfl rfl (by omega)) rfl ?_
    | refine wE_v (e_istr0 rfl rfl (by omega)) rfl ?_
    | refine wE_v (o_not rfl) rfl ?_
    | refine wE_v (e_ia_vw0 rfl rfl (by omega) rfl) rfl ?_
    | refine wE_v (e_ia_vwp rfl rfl (by omega) rfl) rfl ?_
    | refine wE_v (e_ia_vwm rfl rfl (by omega) (by omega) rfl) rfl ?_
    | refine wE_v (e_ia_vwi rfl rfl (by omega) rfl) rfl ?_
    | refine wE_v (e_ia_vwn rfl rfl (by omega) (by omega) rfl) rfl ?_
    | refine wE_n rfl rfl rfl ?_
    | refine wE_u rfl rfl rfl ?_
    | refine wE_new (o_mks rfl rfl (by omega) (by decide)) rfl ?_))
        exact ret_pl (.inr rfl) (retVs_3 (retV_mv rfl) (retV_mv rfl) (retV_mv rfl)) rfl rfl (by simp)
    · rw [if_neg (fun h => h2 h.2)]
      have d2 : decide (A < 2) = true := decide_eq_true (by omega)
      repeat (first | refine wG_call c1 rfl rfl ?_ | refine wG_call1 c2 rfl rfl ?_ | refine wG_call c3 (ag_sl rfl rfl rfl iRow_plain ag_nil) rfl ?_ | (first
    | refine wC_a rfl ?_
    | refine q_s rfl ?_
    | refine q_b rfl ?_
    | refine wG_nil ?_
    | refine wG_g rfl ?_
    | refine wG_pure (o_len_vwm rfl) ?_
    | refine wG_pure (o_not_d rfl) ?_
    | refine wG_p rfl (by first | exact rfl | omega) ?_
    | refine wG_pure (o_str2 rfl rfl rfl) ?_
    | refine wG_pure (e_istr rfl rfl (by omega)) ?_
    | refine wG_pure (e_istr0 rfl rfl (by omega)) ?_
    | refine wG_pure (o_not rfl) ?_
    | refine wG_pure (e_ia_vw0 rfl rfl (by omega) rfl) ?_
    | refine wG_pure (e_ia_vwp rfl rfl (by omega) rfl) ?_
    | refine wG_pure (e_ia_vwm rfl rfl (by omega) (by omega) rfl) ?_
    | refine wG_pure (e_ia_vwi rfl rfl (by omega) rfl) ?_
    | refine wG_pure (e_ia_vwn rfl rfl (by omega) (by omega) rfl) ?_
    | refine wG_n rfl rfl ?_
    | refine wG_u rfl rfl ?_
    | refine wG_new (o_mks rfl rfl (by omega) (by decide)) ?_))
      simp only [d2]
      repeat (first
    | refine wC_a rfl ?_
    | refine q_s rfl ?_
    | refine q_b rfl ?_
    | refine wG_nil ?_
    | refine wG_g rfl ?_
    | refine wG_pure (o_len_vwm rfl) ?_
    | refine wG_pure (o_not_d rfl) ?_
    | refine wG_p rfl (by first | exact rfl | omega) ?_
    | refine wG_pure (o_str2 rfl rfl rfl) ?_
    | refine wG_pure (e_istr rfl rfl (by omega)) ?_
    | refine wG_pure (e_istr0 rfl rfl (by omega)) ?_
    | refine wG_pure (o_not rfl) ?_
    | refine wG_pure (e_ia_vw0 rfl rfl (by omega) rfl) ?_
    | refine wG_pure (e_ia_vwp rfl rfl (by omega) rfl) ?_
    | refine wG_pure (e_ia_vwm rfl rfl (by omega) (by omega) rfl) ?_
    | refine wG_pure (e_ia_vwi rfl rfl (by omega) rfl) ?_
    | refine wG_pure (e_ia_vwn rfl rfl (by omega) (by omega) rfl) ?_
    | refine wG_n rfl rfl ?_
    | refine wG_u rfl rfl ?_
    | refine wG_new (o_mks rfl rfl (by omega) (by decide)) ?_)
      exact ret_pl (.inr rfl) (retVs_3 (retV_mv rfl) (retV_mv rfl) (retV_mv rfl)) rfl rfl (by simp)
  · rw [decide_eq_false hA] at c1
    have e : dvs xs c = (0, 0, false) := by unfold dvs; rw [if_neg (fun h => hA h.1)]
    rw [e]
    repeat (first | refine wG_call c1 rfl rfl ?_ | (first
    | refine wC_a rfl ?_
    | refine q_s rfl ?_
    | refine q_b rfl ?_
    | refine wG_nil ?_
    | refine wG_g rfl ?_
    | refine wG_pure (o_len_vwm rfl) ?_
    | refine wG_pure (o_not_d rfl) ?_
    | refine wG_p rfl (by first | exact rfl | omega) ?_
    | refine wG_pure (o_str2 rfl rfl rfl) ?_
    | refine wG_pure (e_istr rfl rfl (by omega)) ?_
    | refine wG_pure (e_istr0 rfl rfl (by omega)) ?_
    | refine wG_pure (o_not rfl) ?_
    | refine wG_pure (e_ia_vw0 rfl rfl (by omega) rfl) ?_
    | refine wG_pure (e_ia_vwp rfl rfl (by omega) rfl) ?_
    | refine wG_pure (e_ia_vwm rfl rfl (by omega) (by omega) rfl) ?_
    | refine wG_pure (e_ia_vwi rfl rfl (by omega) rfl) ?_
    | refine wG_pure (e_ia_vwn rfl rfl (by omega) (by omega) rfl) ?_
    | refine wG_n rfl rfl ?_
    | refine wG_u rfl rfl ?_
    | refine wG_new (o_mks rfl rfl (by omega) (by decide)) ?_))
    exact ret_pl (.inr rfl) (retVs_3 (retV_mv rfl) (retV_mv rfl) (retV_mv rfl)) rfl rfl (by simp)
theorem con21 (xs : List Fd) (c : Int) (hlen : xs.length ≤ 1048576) (hsz : szB xs) : Con Try.prog 21 true [.vw true (xs.map fRow), .int .i64 c] (.tup [.int .i64 (dvs xs c).1, .int .i64 (dvs xs c).2.1, .bool (dvs xs c).2.2]) [] := by
  classical
  refine con_of_wp mixed fun21 (by simp) [] plain_nil ?_
  unfold ac21 ro21
  simp only [zipT]
  by_cases hA : Asked xs c
  · have c1 := con41_yes xs c hlen hsz hA
    have hG := hA.1
    have h30 := hG.1
    have hkl := keep_le c xs
    obtain ⟨b1, b2, b3, b4⟩ := dv_b (c := c) hG
    have s1 : sI (fun _ => True) Fd.n (keep c xs) (keep c xs).length = dvA xs c := by rw [sI_keep]; simp only [and_true]; rfl
    have s2 : sI (fun _ => True) (fun f => φ2 f.n) (keep c xs) (keep c xs).length = dvB xs c := by rw [sI_keep]; simp only [and_true]; rfl
    have hnb : ∀ i, i ≤ (keep c xs).length → 0 ≤ sI (fun _ => True) Fd.n (keep c xs) i ∧ sI (fun _ => True) Fd.n (keep c xs) i ≤ 30000000 := fun i hi => sI_bK hG (fun _ => gn) hi
    have hfb : ∀ i, i ≤ (keep c xs).length → 0 ≤ sI (fun _ => True) (fun f => φ2 f.n) (keep c xs) i ∧ sI (fun _ => True) (fun f => φ2 f.n) (keep c xs) i ≤ 3000000000 := fun i hi => by
      have := sI_b (p := fun _ => True) (g := fun f => φ2 f.n) (xs := keep c xs) (M := 100000000) (by decide) (fun j hj => by
        have := (keep_good hG hj).2.2.1
        exact φ2_b (by omega) (by omega)) i hi
      omega
    unfold dvs
    generalize dvA xs c = A at *
    generalize dvB xs c = B at *
    repeat (first | refine wG_call1 c1 rfl rfl ?_ | (first
    | refine wC_a rfl ?_
    | refine q_s rfl ?_
    | refine q_b rfl ?_
    | refine wG_nil ?_
    | refine wG_g rfl ?_
    | refine wG_pure (o_len_vwm rfl) ?_
    | refine wG_pure (o_not_d rfl) ?_
    | refine wG_p rfl (by first | exact rfl | omega) ?_
    | refine wG_pure (o_str2 rfl rfl rfl) ?_
    | refine wG_pure (e_istr rfl rfl (by omega)) ?_
    | refine wG_pure (e_istr0 rfl rfl (by omega)) ?_
    | refine wG_pure (o_not rfl) ?_
    | refine wG_pure (e_ia_vw0 rfl rfl (by omega) rfl) ?_
    | refine wG_pure (e_ia_vwp rfl rfl (by omega) rfl) ?_
    | refine wG_pure (e_ia_vwm rfl rfl (by omega) (by omega) rfl) ?_
    | refine wG_pure (e_ia_vwi rfl rfl (by omega) rfl) ?_
    | refine wG_pure (e_ia_vwn rfl rfl (by omega) (by omega) rfl) ?_
    | refine wG_n rfl rfl ?_
    | refine wG_u rfl rfl ?_
    | refine wG_new (o_mks rfl rfl (by omega) (by decide)) ?_))
    refine wC_loop Nat (fun i => ⟨[(8, .bool true), (9, .int .i64 (sI (fun _ => True) Fd.n (keep c xs) i)), (10, .int .i64 (sI (fun _ => True) (fun f => φ2 f.n) (keep c xs) i)), (21, .sl 0 5 0 (keep c xs).length), (22, .int .i64 ((keep c xs).length : Int)), (23, .int .i64 (i : Int))], [(0, some (kObj c xs))], 1⟩) (fun i => i ≤ (keep c xs).length) (fun i => (keep c xs).length - i) 0 (Nat.zero_le _) ?_ (fun _ _ => Nat.zero_le _) ?_
    · exact ⟨⟨⟨rfl, rfl⟩, ⟨rfl, rfl⟩, ⟨rfl, rfl⟩, ⟨rfl, rfl⟩, ⟨rfl, rfl⟩, ⟨rfl, rfl⟩, trivial⟩, ⟨rfl, Nat.zero_lt_one, fill_ltr xs c 1⟩, trivial⟩
    intro i hi
    have ha := hnb i hi
    have hb := hfb i hi
    repeat (first
    | refine wC_a rfl ?_
    | refine q_s rfl ?_
    | refine q_b rfl ?_
    | refine wG_nil ?_
    | refine wG_g rfl ?_
    | refine wG_pure (o_len_vwm rfl) ?_
    | refine wG_pure (o_not_d rfl) ?_
    | refine wG_p rfl (by first | exact rfl | omega) ?_
    | refine wG_pure (o_str2 rfl rfl rfl) ?_
    | refine wG_pure (e_istr rfl rfl (by omega)) ?_
    | refine wG_pure (e_istr0 rfl rfl (by omega)) ?_
    | refine wG_pure (o_not rfl) ?_
    | refine wG_pure (e_ia_vw0 rfl rfl (by omega) rfl) ?_
    | refine wG_pure (e_ia_vwp rfl rfl (by omega) rfl) ?_
    | refine wG_pure (e_ia_vwm rfl rfl (by omega) (by omega) rfl) ?_
    | refine wG_pure (e_ia_vwi rfl rfl (by omega) rfl) ?_
    | refine wG_pure (e_ia_vwn rfl rfl (by omega) (by omega) rfl) ?_
    | refine wG_n rfl rfl ?_
    | refine wG_u rfl rfl ?_
    | refine wG_new (o_mks rfl rfl (by omega) (by decide)) ?_)
    refine wC_cond_d rfl (fun h5 => ?_) (fun h5 => ?_)
    · have hi2 : i < (keep c xs).length := by omega
      have hrow := kObj_at hi2
      have hgf := (keep_good hG hi2).2.2.1
      have hf := φ2_b (n := ((keep c xs).getD i default).n) (by omega) (by omega)
      unfold φ2 at hf
      have e0 : 0 + ((i : Int)).toNat = i := by simp
      have u1 : sI (fun _ => True) Fd.n (keep c xs) (i + 1) = sI (fun _ => True) Fd.n (keep c xs) i + ((keep c xs).getD i default).n := sI_y trivial
      have u2 : sI (fun _ => True) (fun f => φ2 f.n) (keep c xs) (i + 1) = sI (fun _ => True) (fun f => φ2 f.n) (keep c xs) i + ((keep c xs).getD i default).n * (((keep c xs).getD i default).n - 1) := sI_y trivial
      repeat (first | (refine wG_pure (e_ia_sl rfl rfl (by omega) (by omega)) ?_; simp only [e0]) | refine wG_pure (o_ldt_pt rfl rfl hrow rfl rfl) ?_ | refine wG_upd (o_st_agg rfl hg_here rfl rfl rfl rfl rfl) ?_ | (first
    | refine wC_a rfl ?_
    | refine q_s rfl ?_
    | refine q_b rfl ?_
    | refine wG_nil ?_
    | refine wG_g rfl ?_
    | refine wG_pure (o_len_vwm rfl) ?_
    | refine wG_pure (o_not_d rfl) ?_
    | refine wG_p rfl (by first | exact rfl | omega) ?_
    | refine wG_pure (o_str2 rfl rfl rfl) ?_
    | refine wG_pure (e_istr rfl rfl (by omega)) ?_
    | refine wG_pure (e_istr0 rfl rfl (by omega)) ?_
    | refine wG_pure (o_not rfl) ?_
    | refine wG_pure (e_ia_vw0 rfl rfl (by omega) rfl) ?_
    | refine wG_pure (e_ia_vwp rfl rfl (by omega) rfl) ?_
    | refine wG_pure (e_ia_vwm rfl rfl (by omega) (by omega) rfl) ?_
    | refine wG_pure (e_ia_vwi rfl rfl (by omega) rfl) ?_
    | refine wG_pure (e_ia_vwn rfl rfl (by omega) (by omega) rfl) ?_
    | refine wG_n rfl rfl ?_
    | refine wG_u rfl rfl ?_
    | refine wG_new (o_mks rfl rfl (by omega) (by decide)) ?_))
      refine ⟨i + 1, hi2, by omega, ⟨⟨rfl, rfl⟩, ⟨?_, rfl⟩, ⟨?_, rfl⟩, ⟨rfl, rfl⟩, ⟨rfl, rfl⟩, ⟨rfl, rfl⟩, trivial⟩, ⟨rfl, Nat.zero_lt_one, fill_ltr xs c 1⟩, trivial⟩
      · rw [u1]; rfl
      · rw [u2]; rfl
    · have hi3 : i = (keep c xs).length := by omega
      subst hi3
      rw [s1, s2]
      by_cases h2 : 2 ≤ A
      · rw [if_pos ⟨hA, h2⟩]
        have d2 : decide (A < 2) = false := decide_eq_false (by omega)
        obtain ⟨q1, q2⟩ := sqA h2 b2
        have hgp := gcd_pos2 (a := A * (A - 1) - B) (b := A * (A - 1)) (by omega)
        have e1 := quo_b (a := A * (A - 1) - B) (by omega) hgp
        have e2 := quo_b (a := A * (A - 1)) (by omega) hgp
        have c4 := con38 (a := A * (A - 1) - B) (b := A * (A - 1)) (by omega) (by omega)
        generalize Int.gcd (A * (A - 1) - B) (A * (A - 1)) = g at *
        have hz : decide ((g : Int) = 0) = false := decide_eq_false (by omega)
        repeat (first
    | refine wC_a rfl ?_
    | refine q_s rfl ?_
    | refine q_b rfl ?_
    | refine wG_nil ?_
    | refine wG_g rfl ?_
    | refine wG_pure (o_len_vwm rfl) ?_
    | refine wG_pure (o_not_d rfl) ?_
    | refine wG_p rfl (by first | exact rfl | omega) ?_
    | refine wG_pure (o_str2 rfl rfl rfl) ?_
    | refine wG_pure (e_istr rfl rfl (by omega)) ?_
    | refine wG_pure (e_istr0 rfl rfl (by omega)) ?_
    | refine wG_pure (o_not rfl) ?_
    | refine wG_pure (e_ia_vw0 rfl rfl (by omega) rfl) ?_
    | refine wG_pure (e_ia_vwp rfl rfl (by omega) rfl) ?_
    | refine wG_pure (e_ia_vwm rfl rfl (by omega) (by omega) rfl) ?_
    | refine wG_pure (e_ia_vwi rfl rfl (by omega) rfl) ?_
    | refine wG_pure (e_ia_vwn rfl rfl (by omega) (by omega) rfl) ?_
    | refine wG_n rfl rfl ?_
    | refine wG_u rfl rfl ?_
    | refine wG_new (o_mks rfl rfl (by omega) (by decide)) ?_)
        simp only [d2]
        repeat (first | refine wG_call c4 rfl rfl ?_ | refine wC_dregE ?_ | (first
    | refine wC_a rfl ?_
    | refine q_s rfl ?_
    | refine q_b rfl ?_
    | refine wG_nil ?_
    | refine wG_g rfl ?_
    | refine wG_pure (o_len_vwm rfl) ?_
    | refine wG_pure (o_not_d rfl) ?_
    | refine wG_p rfl (by first | exact rfl | omega) ?_
    | refine wG_pure (o_str2 rfl rfl rfl) ?_
    | refine wG_pure (e_istr rfl rfl (by omega)) ?_
    | refine wG_pure (e_istr0 rfl rfl (by omega)) ?_
    | refine wG_pure (o_not rfl) ?_
    | refine wG_pure (e_ia_vw0 rfl rfl (by omega) rfl) ?_
    | refine wG_pure (e_ia_vwp rfl rfl (by omega) rfl) ?_
    | refine wG_pure (e_ia_vwm rfl rfl (by omega) (by omega) rfl) ?_
    | refine wG_pure (e_ia_vwi rfl rfl (by omega) rfl) ?_
    | refine wG_pure (e_ia_vwn rfl rfl (by omega) (by omega) rfl) ?_
    | refine wG_n rfl rfl ?_
    | refine wG_u rfl rfl ?_
    | refine wG_new (o_mks rfl rfl (by omega) (by decide)) ?_) | (first
    | refine wE_nil (by kernel_rfl) ?_
    | refine wE_gy rfl ?_
    | refine wE_gn rfl rfl rfl ?_
    | refine wE_gu rfl rfl ?_
    | refine wE_gnn rfl rfl rfl ?_
    | refine wE_v (o_len_vwm rfl) rfl ?_
    | refine wE_v (o_not_d rfl) rfl ?_
    | refine wE_p rfl (by first | exact rfl | omega) rfl ?_
    | refine wE_v (o_str2 rfl rfl rfl) rfl ?_
    | refine wE_v (e_istr rfl rfl (by omega)) rfl ?_
    | refine wE_v (e_istr0 rfl rfl (by omega)) rfl ?_
    | refine wE_v (o_not rfl) rfl ?_
    | refine wE_v (e_ia_vw0 rfl rfl (by omega) rfl) rfl ?_
    | refine wE_v (e_ia_vwp rfl rfl (by omega) rfl) rfl ?_
    | refine wE_v (e_ia_vwm rfl rfl (by omega) (by omega) rfl) rfl ?_
    | refine wE_v (e_ia_vwi rfl rfl (by omega) rfl) rfl ?_
    | refine wE_v (e_ia_vwn rfl rfl (by omega) (by omega) rfl) rfl ?_
    | refine wE_n rfl rfl rfl ?_
    | refine wE_u rfl rfl rfl ?_
    | refine wE_new (o_mks rfl rfl (by omega) (by decide)) rfl ?_))
        repeat (first | refine wE_v (o_quo rfl rfl (by omega) (by omega) (by omega)) rfl ?_ | (first
    | refine wC_a rfl ?_
    | refine q_s rfl ?_
    | refine q_b rfl ?_
    | refine wG_nil ?_
    | refine wG_g rfl ?_
    | refine wG_pure (o_len_vwm rfl) ?_
    | refine wG_pure (o_not_d rfl) ?_
    | refine wG_p rfl (by first | exact rfl | omega) ?_
    | refine wG_pure (o_str2 rfl rfl rfl) ?_
    | refine wG_pure (e_istr rfl rfl (by omega)) ?_
    | refine wG_pure (e_istr0 rfl rfl (by omega)) ?_
    | refine wG_pure (o_not rfl) ?_
    | refine wG_pure (e_ia_vw0 rfl rfl (by omega) rfl) ?_
    | refine wG_pure (e_ia_vwp rfl rfl (by omega) rfl) ?_
    | refine wG_pure (e_ia_vwm rfl rfl (by omega) (by omega) rfl) ?_
    | refine wG_pure (e_ia_vwi rfl rfl (by omega) rfl) ?_
    | refine wG_pure (e_ia_vwn rfl rfl (by omega) (by omega) rfl) ?_
    | refine wG_n rfl rfl ?_
    | refine wG_u rfl rfl ?_
    | refine wG_new (o_mks rfl rfl (by omega) (by decide)) ?_) | (first
    | refine wE_nil (by kernel_rfl) ?_
    | refine wE_gy rfl ?_
    | refine wE_gn rfl rfl rfl ?_
    | refine wE_gu rfl rfl ?_
    | refine wE_gnn rfl rfl rfl ?_
    | refine wE_v (o_len_vwm rfl) rfl ?_
    | refine wE_v (o_not_d rfl) rfl ?_
    | refine wE_p rfl (by first | exact rfl | omega) rfl ?_
    | refine wE_v (o_str2 rfl rfl rfl) rfl ?_
    | refine wE_v (e_istr rfl rfl (by omega)) rfl ?_
    | refine wE_v (e_istr0 rfl rfl (by omega)) rfl ?_
    | refine wE_v (o_not rfl) rfl ?_
    | refine wE_v (e_ia_vw0 rfl rfl (by omega) rfl) rfl ?_
    | refine wE_v (e_ia_vwp rfl rfl (by omega) rfl) rfl ?_
    | refine wE_v (e_ia_vwm rfl rfl (by omega) (by omega) rfl) rfl ?_
    | refine wE_v (e_ia_vwi rfl rfl (by omega) rfl) rfl ?_
    | refine wE_v (e_ia_vwn rfl rfl (by omega) (by omega) rfl) rfl ?_
    | refine wE_n rfl rfl rfl ?_
    | refine wE_u rfl rfl rfl ?_
    | refine wE_new (o_mks rfl rfl (by omega) (by decide)) rfl ?_))
        exact ret_pl (.inr rfl) (retVs_3 (retV_mv rfl) (retV_mv rfl) (retV_mv rfl)) rfl rfl (by simp)
      · rw [if_neg (fun h => h2 h.2)]
        have d2 : decide (A < 2) = true := decide_eq_true (by omega)
        repeat (first
    | refine wC_a rfl ?_
    | refine q_s rfl ?_
    | refine q_b rfl ?_
    | refine wG_nil ?_
    | refine wG_g rfl ?_
    | refine wG_pure (o_len_vwm rfl) ?_
    | refine wG_pure (o_not_d rfl) ?_
    | refine wG_p rfl (by first | exact rfl | omega) ?_
    | refine wG_pure (o_str2 rfl rfl rfl) ?_
    | refine wG_pure (e_istr rfl rfl (by omega)) ?_
    | refine wG_pure (e_istr0 rfl rfl (by omega)) ?_
    | refine wG_pure (o_not rfl) ?_
    | refine wG_pure (e_ia_vw0 rfl rfl (by omega) rfl) ?_
    | refine wG_pure (e_ia_vwp rfl rfl (by omega) rfl) ?_
    | refine wG_pure (e_ia_vwm rfl rfl (by omega) (by omega) rfl) ?_
    | refine wG_pure (e_ia_vwi rfl rfl (by omega) rfl) ?_
    | refine wG_pure (e_ia_vwn rfl rfl (by omega) (by omega) rfl) ?_
    | refine wG_n rfl rfl ?_
    | refine wG_u rfl rfl ?_
    | refine wG_new (o_mks rfl rfl (by omega) (by decide)) ?_)
        simp only [d2]
        repeat (first
    | refine wC_a rfl ?_
    | refine q_s rfl ?_
    | refine q_b rfl ?_
    | refine wG_nil ?_
    | refine wG_g rfl ?_
    | refine wG_pure (o_len_vwm rfl) ?_
    | refine wG_pure (o_not_d rfl) ?_
    | refine wG_p rfl (by first | exact rfl | omega) ?_
    | refine wG_pure (o_str2 rfl rfl rfl) ?_
    | refine wG_pure (e_istr rfl rfl (by omega)) ?_
    | refine wG_pure (e_istr0 rfl rfl (by omega)) ?_
    | refine wG_pure (o_not rfl) ?_
    | refine wG_pure (e_ia_vw0 rfl rfl (by omega) rfl) ?_
    | refine wG_pure (e_ia_vwp rfl rfl (by omega) rfl) ?_
    | refine wG_pure (e_ia_vwm rfl rfl (by omega) (by omega) rfl) ?_
    | refine wG_pure (e_ia_vwi rfl rfl (by omega) rfl) ?_
    | refine wG_pure (e_ia_vwn rfl rfl (by omega) (by omega) rfl) ?_
    | refine wG_n rfl rfl ?_
    | refine wG_u rfl rfl ?_
    | refine wG_new (o_mks rfl rfl (by omega) (by decide)) ?_)
        exact ret_pl (.inr rfl) (retVs_3 (retV_mv rfl) (retV_mv rfl) (retV_mv rfl)) rfl rfl (by simp)
  · have c1 := con41_no xs c hlen hsz hA
    have e : dvs xs c = (0, 0, false) := by unfold dvs; rw [if_neg (fun h => hA h.1)]
    rw [e]
    repeat (first | refine wG_call c1 rfl rfl ?_ | (first
    | refine wC_a rfl ?_
    | refine q_s rfl ?_
    | refine q_b rfl ?_
    | refine wG_nil ?_
    | refine wG_g rfl ?_
    | refine wG_pure (o_len_vwm rfl) ?_
    | refine wG_pure (o_not_d rfl) ?_
    | refine wG_p rfl (by first | exact rfl | omega) ?_
    | refine wG_pure (o_str2 rfl rfl rfl) ?_
    | refine wG_pure (e_istr rfl rfl (by omega)) ?_
    | refine wG_pure (e_istr0 rfl rfl (by omega)) ?_
    | refine wG_pure (o_not rfl) ?_
    | refine wG_pure (e_ia_vw0 rfl rfl (by omega) rfl) ?_
    | refine wG_pure (e_ia_vwp rfl rfl (by omega) rfl) ?_
    | refine wG_pure (e_ia_vwm rfl rfl (by omega) (by omega) rfl) ?_
    | refine wG_pure (e_ia_vwi rfl rfl (by omega) rfl) ?_
    | refine wG_pure (e_ia_vwn rfl rfl (by omega) (by omega) rfl) ?_
    | refine wG_n rfl rfl ?_
    | refine wG_u rfl rfl ?_
    | refine wG_new (o_mks rfl rfl (by omega) (by decide)) ?_))
    refine wC_loop Unit (fun _ => ⟨[(8, .bool false), (9, .int .i64 0), (10, .int .i64 0), (21, .nilS), (22, .int .i64 0), (23, .int .i64 0)], [], 0⟩) (fun _ => True) (fun _ => 0) () trivial ?_ (fun _ _ => Nat.zero_le _) ?_
    · simp [LeP, leT, leH, lk, AV.ltr, ltrL, Ab.hg, upd, -List.getD_eq_getElem?_getD, -Int.default_eq_zero]
    rintro ⟨⟩ -
    repeat (first
    | refine wC_a rfl ?_
    | refine q_s rfl ?_
    | refine q_b rfl ?_
    | refine wG_nil ?_
    | refine wG_g rfl ?_
    | refine wG_pure (o_len_vwm rfl) ?_
    | refine wG_pure (o_not_d rfl) ?_
    | refine wG_p rfl (by first | exact rfl | omega) ?_
    | refine wG_pure (o_str2 rfl rfl rfl) ?_
    | refine wG_pure (e_istr rfl rfl (by omega)) ?_
    | refine wG_pure (e_istr0 rfl rfl (by omega)) ?_
    | refine wG_pure (o_not rfl) ?_
    | refine wG_pure (e_ia_vw0 rfl rfl (by omega) rfl) ?_
    | refine wG_pure (e_ia_vwp rfl rfl (by omega) rfl) ?_
    | refine wG_pure (e_ia_vwm rfl rfl (by omega) (by omega) rfl) ?_
    | refine wG_pure (e_ia_vwi rfl rfl (by omega) rfl) ?_
    | refine wG_pure (e_ia_vwn rfl rfl (by omega) (by omega) rfl) ?_
    | refine wG_n rfl rfl ?_
    | refine wG_u rfl rfl ?_
    | refine wG_new (o_mks rfl rfl (by omega) (by decide)) ?_)
    exact ret_pl (.inr rfl) (retVs_3 (retV_mv rfl) (retV_mv rfl) (retV_mv rfl)) rfl rfl (by simp)
theorem con7 (nn : Bool) (xs : List Fd) (c : Int) (hlen : xs.length ≤ 9223372036854775807) (hsz : ∀ i, i < xs.length → (xs.getD i default).t.size ≤ 9223372036854775807) : Con Try.prog 7 true [.vw nn (xs.map fRow), .int .i64 c] (.bool true) [] := by
  refine con_of_wp mixed fun7 (by simp) [] plain_nil ?_
  unfold ac7 ro7
  simp only [zipT]
  have c9 := con9 nn xs hlen hsz 1048576 (by omega) (by omega)
  repeat (first | refine wG_call c9 rfl rfl ?_ | (first
    | refine wC_a rfl ?_
    | refine q_s rfl ?_
    | refine q_b rfl ?_
    | refine wG_nil ?_
    | refine wG_g rfl ?_
    | refine wG_pure (o_len_vwm rfl) ?_
    | refine wG_pure (o_not_d rfl) ?_
    | refine wG_p rfl (by first | exact rfl | omega) ?_
    | refine wG_pure (o_str2 rfl rfl rfl) ?_
    | refine wG_pure (e_istr rfl rfl (by omega)) ?_
    | refine wG_pure (e_istr0 rfl rfl (by omega)) ?_
    | refine wG_pure (o_not rfl) ?_
    | refine wG_pure (e_ia_vw0 rfl rfl (by omega) rfl) ?_
    | refine wG_pure (e_ia_vwp rfl rfl (by omega) rfl) ?_
    | refine wG_pure (e_ia_vwm rfl rfl (by omega) (by omega) rfl) ?_
    | refine wG_pure (e_ia_vwi rfl rfl (by omega) rfl) ?_
    | refine wG_pure (e_ia_vwn rfl rfl (by omega) (by omega) rfl) ?_
    | refine wG_n rfl rfl ?_
    | refine wG_u rfl rfl ?_
    | refine wG_new (o_mks rfl rfl (by omega) (by decide)) ?_))
  refine wC_cond_d rfl (fun h => ?_) (fun h => ?_)
  · repeat (first
    | refine wC_a rfl ?_
    | refine q_s rfl ?_
    | refine q_b rfl ?_
    | refine wG_nil ?_
    | refine wG_g rfl ?_
    | refine wG_pure (o_len_vwm rfl) ?_
    | refine wG_pure (o_not_d rfl) ?_
    | refine wG_p rfl (by first | exact rfl | omega) ?_
    | refine wG_pure (o_str2 rfl rfl rfl) ?_
    | refine wG_pure (e_istr rfl rfl (by omega)) ?_
    | refine wG_pure (e_istr0 rfl rfl (by omega)) ?_
    | refine wG_pure (o_not rfl) ?_
    | refine wG_pure (e_ia_vw0 rfl rfl (by omega) rfl) ?_
    | refine wG_pure (e_ia_vwp rfl rfl (by omega) rfl) ?_
    | refine wG_pure (e_ia_vwm rfl rfl (by omega) (by omega) rfl) ?_
    | refine wG_pure (e_ia_vwi rfl rfl (by omega) rfl) ?_
    | refine wG_pure (e_ia_vwn rfl rfl (by omega) (by omega) rfl) ?_
    | refine wG_n rfl rfl ?_
    | refine wG_u rfl rfl ?_
    | refine wG_new (o_mks rfl rfl (by omega) (by decide)) ?_)
    exact ret_boolE (.inr rfl) ⟨_, retV_mv rfl, rfl⟩
  obtain ⟨g1, g2, g3⟩ := szFS_ok (by omega) (Int.not_lt.1 h)
  have hs : xs.length ≤ 1048576 := by omega
  have hb : szB xs := fun i hi => by have := g3 i hi; omega
  have cT := con11 nn xs hs
  repeat' (first | refine wG_call1 cT rfl rfl ?_ | refine wG_call (con20 true xs c hs hb) (ag_sl rfl rfl rfl fRow_plain (ag_int rfl ag_nil)) rfl ?_ | refine wG_call (con21 xs c hs hb) (ag_sl rfl rfl rfl fRow_plain (ag_int rfl ag_nil)) rfl ?_ | refine wG_call (con13 true true xs hs) (ag_sl rfl rfl rfl fRow_plain (ag_sl rfl rfl rfl fRow_plain ag_nil)) rfl ?_ | (first
    | refine wC_a rfl ?_
    | refine q_s rfl ?_
    | refine q_b rfl ?_
    | refine wG_nil ?_
    | refine wG_g rfl ?_
    | refine wG_pure (o_len_vwm rfl) ?_
    | refine wG_pure (o_not_d rfl) ?_
    | refine wG_p rfl (by first | exact rfl | omega) ?_
    | refine wG_pure (o_str2 rfl rfl rfl) ?_
    | refine wG_pure (e_istr rfl rfl (by omega)) ?_
    | refine wG_pure (e_istr0 rfl rfl (by omega)) ?_
    | refine wG_pure (o_not rfl) ?_
    | refine wG_pure (e_ia_vw0 rfl rfl (by omega) rfl) ?_
    | refine wG_pure (e_ia_vwp rfl rfl (by omega) rfl) ?_
    | refine wG_pure (e_ia_vwm rfl rfl (by omega) (by omega) rfl) ?_
    | refine wG_pure (e_ia_vwi rfl rfl (by omega) rfl) ?_
    | refine wG_pure (e_ia_vwn rfl rfl (by omega) (by omega) rfl) ?_
    | refine wG_n rfl rfl ?_
    | refine wG_u rfl rfl ?_
    | refine wG_new (o_mks rfl rfl (by omega) (by decide)) ?_) | (refine wG_gd rfl (fun hgt => ?_) (fun hgf => ?_) <;> (first | simp only [eq_true hgt, decide_true] | simp only [eq_false hgf, decide_false])) | refine wC_cond_d rfl (fun hg => ?_) (fun hg => ?_))
  any_goals contradiction
  exact ret_boolE (.inr rfl) ⟨_, retV_mv rfl, rfl⟩
end Go.Proofs.Ytjfppdgomnjnmaa.Fnd
