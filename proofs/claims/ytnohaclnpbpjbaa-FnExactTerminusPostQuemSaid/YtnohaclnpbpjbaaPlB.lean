/- The greatest of independent years: both sides. -/
import Derived.Test.YtnohaclnpbpjbaaPlA
import Derived.Test.YtnohaclnpbpjbaaPsA
namespace Go.Proofs.Ytnohaclnpbpjbaa.Dst
open Go Go.Proofs.Ytnohaclnpbpjbaa.Ab Go.Proofs.Ytnohaclnpbpjbaa.Il
attribute [local irreducible] wpO wpC wpDr wpQ wpG wpE stepA seqQ blkQ Ret RetG ev
set_option maxRecDepth 10000
set_option maxHeartbeats 8000000
set_option linter.unusedSimpArgs false
set_option linter.unusedVariables false

def ac17 : AC := (.seq (.reg [⟨(some 2), none, (.alloc [(.int .i64 0), .nilS])⟩, ⟨(some 3), none, (.mv (.c (.bool false)))⟩]) (.seq (.reg [⟨(some 14), none, (.build [(.int .i64 0), .nilS] [])⟩, ⟨(some 4), none, (.alloc [(.int .i64 0), .nilS])⟩, ⟨none, none, (.st 2 (.t 4) (.t 14))⟩]) (.seq (.seq (.reg [⟨(some 15), none, (.mv (.t 0))⟩, ⟨(some 16), none, (.len (.t 15))⟩, ⟨(some 17), none, (.call 47 [(.t 16), (.c (.int .i64 1)), (.c (.int .i64 4))])⟩, ⟨(some 18), none, (.un .not (.t 17))⟩]) (.cond (.t 18) (.seq (.reg [⟨(some 19), none, (.ld true 2 (.t 4))⟩, ⟨none, none, (.st 2 (.t 2) (.t 19))⟩, ⟨(some 3), none, (.mv (.c (.bool false)))⟩]) .ret) .skip)) (.seq (.reg [⟨(some 5), none, (.mv (.c (.int .i64 2100)))⟩, ⟨(some 6), none, (.mv (.c (.int .i64 (-20000))))⟩, ⟨(some 7), none, (.mv (.c (.int .i64 1)))⟩]) (.seq (.seq (.reg [⟨(some 8), none, (.mv (.c (.int .i64 0)))⟩]) (.blk 0 (.loop (.seq (.seq (.reg [⟨(some 20), none, (.mv (.t 8))⟩, ⟨(some 21), none, (.mv (.t 0))⟩, ⟨(some 22), none, (.len (.t 21))⟩, ⟨(some 23), none, (.bin .lss (.t 20) (.t 22))⟩]) (.cond (.t 23) .skip (.exit 0))) (.seq (.blk 1 (.seq (.seq (.reg [⟨(some 26), none, (.mv (.t 0))⟩, ⟨(some 27), none, (.mv (.t 8))⟩, ⟨(some 28), none, (.ia 2 (.t 26) (.t 27))⟩, ⟨(some 29), none, (.ld true 2 (.t 28))⟩, ⟨(some 30), none, (.call 48 [(.t 29)])⟩, ⟨(some 31), none, (.un .not (.t 30))⟩, ⟨(some 32), none, (.mv (.t 31))⟩, ⟨(some 33), (some (32, false)), (.mv (.t 7))⟩, ⟨(some 34), (some (32, false)), (.mv (.t 0))⟩, ⟨(some 35), (some (32, false)), (.mv (.t 8))⟩, ⟨(some 36), (some (32, false)), (.ia 2 (.t 34) (.t 35))⟩, ⟨(some 37), (some (32, false)), (.fa 1 (.t 36))⟩, ⟨(some 38), (some (32, false)), (.ld false 1 (.t 37))⟩, ⟨(some 39), (some (32, false)), (.call 49 [(.t 38)])⟩, ⟨(some 40), (some (32, false)), (.bin .quo (.c (.int .i64 1000000000000000)) (.t 39))⟩, ⟨(some 41), (some (32, false)), (.bin .gtr (.t 33) (.t 40))⟩, ⟨(some 42), none, (.pick (.t 32) (.c (.bool true)) (.t 41))⟩]) (.cond (.t 42) (.seq (.reg [⟨(some 43), none, (.ld true 2 (.t 4))⟩, ⟨none, none, (.st 2 (.t 2) (.t 43))⟩, ⟨(some 3), none, (.mv (.c (.bool false)))⟩]) .ret) .skip)) (.seq (.reg [⟨(some 44), none, (.mv (.t 7))⟩, ⟨(some 45), none, (.mv (.t 0))⟩, ⟨(some 46), none, (.mv (.t 8))⟩, ⟨(some 47), none, (.ia 2 (.t 45) (.t 46))⟩, ⟨(some 48), none, (.fa 1 (.t 47))⟩, ⟨(some 49), none, (.ld false 1 (.t 48))⟩, ⟨(some 50), none, (.call 49 [(.t 49)])⟩, ⟨(some 51), none, (.bin .mul (.t 44) (.t 50))⟩, ⟨(some 7), none, (.mv (.t 51))⟩]) (.seq (.reg [⟨(some 52), none, (.mv (.t 5))⟩, ⟨(some 53), none, (.mv (.t 0))⟩, ⟨(some 54), none, (.mv (.t 8))⟩, ⟨(some 55), none, (.ia 2 (.t 53) (.t 54))⟩, ⟨(some 56), none, (.fa 0 (.t 55))⟩, ⟨(some 57), none, (.ld false 1 (.t 56))⟩, ⟨(some 58), none, (.call 50 [(.t 52), (.t 57)])⟩, ⟨(some 5), none, (.mv (.t 58))⟩]) (.dreg [⟨(some 59), none, (.mv (.t 6))⟩, ⟨(some 60), none, (.mv (.t 0))⟩, ⟨(some 61), none, (.mv (.t 8))⟩, ⟨(some 62), none, (.ia 2 (.t 60) (.t 61))⟩, ⟨(some 63), none, (.fa 0 (.t 62))⟩, ⟨(some 64), none, (.ld false 1 (.t 63))⟩, ⟨(some 65), none, (.mv (.t 0))⟩, ⟨(some 66), none, (.mv (.t 8))⟩, ⟨(some 67), none, (.ia 2 (.t 65) (.t 66))⟩, ⟨(some 68), none, (.fa 1 (.t 67))⟩, ⟨(some 69), none, (.ld false 1 (.t 68))⟩, ⟨(some 70), none, (.len (.t 69))⟩, ⟨(some 71), none, (.bin .add (.t 64) (.t 70))⟩, ⟨(some 72), none, (.bin .sub (.t 71) (.c (.int .i64 1)))⟩, ⟨(some 73), none, (.call 51 [(.t 59), (.t 72)])⟩, ⟨(some 6), none, (.mv (.t 73))⟩] [[], [], [], [1, 2], [1, 2, 3], [1, 2, 3, 4], [], [], [6, 7], [6, 7, 8], [6, 7, 8, 9], [6, 7, 8, 9, 10], [1, 2, 3, 4, 5, 6, 7, 8, 9, 10, 11], [1, 2, 3, 4, 5, 6, 7, 8, 9, 10, 11, 12], [0, 1, 2, 3, 4, 5, 6, 7, 8, 9, 10, 11, 12, 13], [0, 1, 2, 3, 4, 5, 6, 7, 8, 9, 10, 11, 12, 13, 14]]))))) (.reg [⟨(some 24), none, (.mv (.t 8))⟩, ⟨(some 25), none, (.bin .add (.t 24) (.c (.int .i64 1)))⟩, ⟨(some 8), none, (.mv (.t 25))⟩])))))) (.seq (.seq (.reg [⟨(some 74), none, (.mv (.t 6))⟩, ⟨(some 75), none, (.mv (.t 5))⟩, ⟨(some 76), none, (.bin .sub (.t 74) (.t 75))⟩, ⟨(some 77), none, (.bin .geq (.t 76) (.c (.int .i64 200)))⟩]) (.cond (.t 77) (.seq (.reg [⟨(some 78), none, (.ld true 2 (.t 4))⟩, ⟨none, none, (.st 2 (.t 2) (.t 78))⟩, ⟨(some 3), none, (.mv (.c (.bool false)))⟩]) .ret) .skip)) (.seq (.reg [⟨(some 79), none, (.bsl 1 [(.int .i64 0)] 0 [])⟩, ⟨(some 9), none, (.mv (.t 79))⟩]) (.seq (.reg [⟨(some 10), none, (.mv (.c (.int .i64 0)))⟩]) (.seq (.seq (.reg [⟨(some 80), none, (.mv (.t 5))⟩, ⟨(some 11), none, (.mv (.t 80))⟩]) (.blk 2 (.loop (.seq (.seq (.reg [⟨(some 81), none, (.mv (.t 11))⟩, ⟨(some 82), none, (.mv (.t 6))⟩, ⟨(some 83), none, (.bin .leq (.t 81) (.t 82))⟩]) (.cond (.t 83) .skip (.exit 2))) (.seq (.blk 3 (.seq (.reg [⟨(some 12), none, (.mv (.c (.int .i64 1)))⟩]) (.seq (.seq (.reg [⟨(some 13), none, (.mv (.c (.int .i64 0)))⟩]) (.blk 4 (.loop (.seq (.seq (.reg [⟨(some 86), none, (.mv (.t 13))⟩, ⟨(some 87), none, (.mv (.t 0))⟩, ⟨(some 88), none, (.len (.t 87))⟩, ⟨(some 89), none, (.bin .lss (.t 86) (.t 88))⟩]) (.cond (.t 89) .skip (.exit 4))) (.seq (.blk 5 (.reg [⟨(some 92), none, (.mv (.t 12))⟩, ⟨(some 93), none, (.mv (.t 0))⟩, ⟨(some 94), none, (.mv (.t 13))⟩, ⟨(some 95), none, (.ia 2 (.t 93) (.t 94))⟩, ⟨(some 96), none, (.ld true 2 (.t 95))⟩, ⟨(some 97), none, (.mv (.t 11))⟩, ⟨(some 98), none, (.call 52 [(.t 96), (.t 97)])⟩, ⟨(some 99), none, (.bin .mul (.t 92) (.t 98))⟩, ⟨(some 12), none, (.mv (.t 99))⟩])) (.reg [⟨(some 90), none, (.mv (.t 13))⟩, ⟨(some 91), none, (.bin .add (.t 90) (.c (.int .i64 1)))⟩, ⟨(some 13), none, (.mv (.t 91))⟩])))))) (.seq (.reg [⟨(some 100), none, (.mv (.t 9))⟩, ⟨(some 101), none, (.mv (.t 12))⟩, ⟨(some 102), none, (.mv (.t 10))⟩, ⟨(some 103), none, (.bin .sub (.t 101) (.t 102))⟩, ⟨(some 104), none, (.bsl 1 [(.int .i64 0)] 1 [(0, (.t 103))])⟩, ⟨(some 105), none, (.app 1 8 [(.int .i64 0)] (.t 100) (.t 104))⟩, ⟨(some 9), none, (.mv (.t 105))⟩]) (.reg [⟨(some 106), none, (.mv (.t 12))⟩, ⟨(some 10), none, (.mv (.t 106))⟩]))))) (.reg [⟨(some 84), none, (.mv (.t 11))⟩, ⟨(some 85), none, (.bin .add (.t 84) (.c (.int .i64 1)))⟩, ⟨(some 11), none, (.mv (.t 85))⟩])))))) (.seq (.reg [⟨(some 107), none, (.mv (.t 5))⟩, ⟨(some 108), none, (.mv (.t 9))⟩, ⟨(some 109), none, (.call 53 [(.t 107), (.t 108)])⟩, ⟨(some 110), none, (.ext (.t 109) 0)⟩, ⟨(some 111), none, (.ext (.t 109) 1)⟩, ⟨none, none, (.st 2 (.t 2) (.t 110))⟩, ⟨(some 3), none, (.mv (.t 111))⟩]) .ret))))))))))
def ro17 : List AOp := [(.ld true 2 (.t 2)), (.mv (.t 3))]
theorem fun17 : Fun Try.prog 17 112 ac17 ro17 := ⟨Try.f17, _, Try.func17, by kernel_rfl, rfl, rfl, by kernel_rfl, by kernel_rfl, by decide⟩
def ac52 : AC := (.seq (.reg [⟨(some 2), none, (.box 2 true (.t 0))⟩, ⟨(some 4), none, (.mv (.c (.int .i64 0)))⟩]) (.seq (.dreg [⟨(some 6), none, (.mv (.t 1))⟩, ⟨(some 7), none, (.fa 0 (.t 2))⟩, ⟨(some 8), none, (.ld false 1 (.t 7))⟩, ⟨(some 9), none, (.bin .sub (.t 6) (.t 8))⟩, ⟨(some 10), none, (.bin .add (.t 9) (.c (.int .i64 1)))⟩, ⟨(some 11), none, (.call 51 [(.t 10), (.c (.int .i64 0))])⟩, ⟨(some 12), none, (.fa 1 (.t 2))⟩, ⟨(some 13), none, (.ld false 1 (.t 12))⟩, ⟨(some 14), none, (.len (.t 13))⟩, ⟨(some 15), none, (.call 50 [(.t 11), (.t 14)])⟩, ⟨(some 5), none, (.mv (.t 15))⟩] [[], [], [1], [0, 1, 2], [0, 1, 2, 3], [0, 1, 2, 3, 4], [], [6], [6, 7], [0, 1, 2, 3, 4, 5, 6, 7, 8], [0, 1, 2, 3, 4, 5, 6, 7, 8, 9]]) (.seq (.reg [⟨(some 16), none, (.fa 1 (.t 2))⟩, ⟨(some 17), none, (.ld false 1 (.t 16))⟩, ⟨(some 18), none, (.mv (.t 5))⟩, ⟨(some 19), none, (.slc 1 (.t 17) none (some (.t 18)))⟩, ⟨(some 20), none, (.call 49 [(.t 19)])⟩, ⟨(some 4), none, (.mv (.t 20))⟩]) .ret)))
def ro52 : List AOp := [(.mv (.t 4))]
theorem fun52 : Fun Try.prog 52 21 ac52 ro52 := ⟨Try.f52, _, Try.func52, by kernel_rfl, rfl, rfl, by kernel_rfl, by kernel_rfl, by decide⟩

/-! ### What must hold -/
def wgL (xs : List Dn) : Nat → Int
  | 0 => 1
  | i + 1 => wgL xs i * total (xs.getD i default).d
def okL (xs : List Dn) (i : Nat) : Prop := GoodD (xs.getD i default).d ∧ ¬ wgL xs i > (1000000000000000 : Int).tdiv (total (xs.getD i default).d)
def fsL (xs : List Dn) : Nat → Int
  | 0 => 2100
  | i + 1 => min (fsL xs i) (xs.getD i default).d.f
def lsL (xs : List Dn) : Nat → Int
  | 0 => -20000
  | i + 1 => max (lsL xs i) ((xs.getD i default).d.f + (xs.getD i default).d.ws.length - 1)
def GoodL (xs : List Dn) : Prop := (1 ≤ xs.length ∧ xs.length ≤ 4) ∧ (∀ i, i < xs.length → okL xs i) ∧ lsL xs xs.length - fsL xs xs.length < 200
theorem wgL_b {xs : List Dn} : ∀ i, (∀ j, j < i → okL xs j) → 1 ≤ wgL xs i ∧ wgL xs i ≤ 1000000000000000
  | 0, _ => by simp [wgL]
  | i + 1, h => by
    obtain ⟨h3, h4⟩ := wgL_b i (fun j hj => h j (by omega))
    obtain ⟨g1, g3⟩ := h i (by omega)
    have ht := g1.pos
    refine ⟨?_, ?_⟩
    · rw [wgL]
      have := Int.mul_le_mul h3 ht (by omega) (by omega)
      omega
    · rw [wgL]
      exact le_tdiv ht (by omega) g3
theorem fsL_b {xs : List Dn} : ∀ i, (∀ j, j < i → okL xs j) → (-20000 ≤ fsL xs i ∧ fsL xs i ≤ 2100) ∧ -20000 ≤ lsL xs i ∧ lsL xs i ≤ 2100 ∧ (0 < i → fsL xs i ≤ lsL xs i)
  | 0, _ => by simp [fsL, lsL]
  | i + 1, h => by
    obtain ⟨h1, h2, h3, h4⟩ := fsL_b i (fun j hj => h j (by omega))
    have g := (h i (by omega)).1
    have g1 := g.1
    have g2 := g.2.1
    rw [fsL, lsL]
    omega
theorem lt_upL {xs : List Dn} {i : Nat} (h : ∀ j, j < i → okL xs j) (h2 : okL xs i) : ∀ j, j < i + 1 → okL xs j := fun j hj => by
  rcases Nat.lt_or_ge j i with g | g
  · exact h j g
  · obtain rfl : j = i := by omega
    exact h2
/-! ### The weights -/
def unt (d : Ds) (y : Int) : Int := sm d.ws (clp d (y - d.f + 1))
theorem unt_b {d : Ds} (hG : GoodD d) (y : Int) : 0 ≤ unt d y ∧ unt d y ≤ total d := by
  have h1 := clp_le d (y - d.f + 1)
  have h2 := sm_mn hG.bnd (clp d (y - d.f + 1)) (d.ws.length - clp d (y - d.f + 1)) (by omega)
  rw [show clp d (y - d.f + 1) + (d.ws.length - clp d (y - d.f + 1)) = d.ws.length by omega] at h2
  exact ⟨(sm_b hG.bnd _ h1).1, h2⟩
theorem unt_up {d : Ds} (hG : GoodD d) (y : Int) : unt d y ≤ unt d (y + 1) := by
  have h1 := clp_le d (y + 1 - d.f + 1)
  have h3 : clp d (y - d.f + 1) ≤ clp d (y + 1 - d.f + 1) := by unfold clp; omega
  have h2 := sm_mn hG.bnd (clp d (y - d.f + 1)) (clp d (y + 1 - d.f + 1) - clp d (y - d.f + 1)) (by omega)
  rw [show clp d (y - d.f + 1) + (clp d (y + 1 - d.f + 1) - clp d (y - d.f + 1)) = clp d (y + 1 - d.f + 1) by omega] at h2
  exact h2
def nwL (xs : List Dn) (y : Int) : Nat → Int
  | 0 => 1
  | i + 1 => nwL xs y i * unt (xs.getD i default).d y
theorem nwL_b {xs : List Dn} (y : Int) : ∀ i, (∀ j, j < i → okL xs j) → 0 ≤ nwL xs y i ∧ nwL xs y i ≤ wgL xs i
  | 0, _ => by simp [nwL, wgL]
  | i + 1, h => by
    obtain ⟨h1, h2⟩ := nwL_b y i (fun j hj => h j (by omega))
    have g := unt_b (h i (by omega)).1 y
    have hw := wgL_b i (fun j hj => h j (by omega))
    rw [nwL, wgL]
    exact ⟨Int.mul_nonneg h1 g.1, Int.mul_le_mul h2 g.2 g.1 (by omega)⟩
theorem nwL_up {xs : List Dn} (y : Int) : ∀ i, (∀ j, j < i → okL xs j) → nwL xs y i ≤ nwL xs (y + 1) i
  | 0, _ => Int.le_refl _
  | i + 1, h => by
    have h1 := nwL_up y i (fun j hj => h j (by omega))
    have h2 := nwL_b (y + 1) i (fun j hj => h j (by omega))
    have g := unt_b (h i (by omega)).1 y
    have g2 := unt_up (h i (by omega)).1 y
    rw [nwL, nwL]
    exact Int.mul_le_mul h1 g2 g.1 h2.1
def bfL (xs : List Dn) : Nat → Int
  | 0 => 0
  | t + 1 => nwL xs (fsL xs xs.length + t) xs.length
def gL (xs : List Dn) (t : Nat) : Int := nwL xs (fsL xs xs.length + t) xs.length - bfL xs t
def nL (xs : List Dn) : Nat := (lsL xs xs.length - fsL xs xs.length + 1).toNat
theorem bfL_b {xs : List Dn} (hG : GoodL xs) : ∀ t, 0 ≤ bfL xs t ∧ bfL xs t ≤ 1000000000000000
  | 0 => by simp [bfL]
  | t + 1 => by
    have h1 := nwL_b (fsL xs xs.length + t) xs.length hG.2.1
    have h2 := wgL_b xs.length hG.2.1
    rw [bfL]; omega
theorem gL_b {xs : List Dn} (hG : GoodL xs) (t : Nat) : 0 ≤ gL xs t ∧ gL xs t ≤ 1000000000000000 := by
  have h1 := nwL_b (fsL xs xs.length + t) xs.length hG.2.1
  have h2 := wgL_b xs.length hG.2.1
  have h3 := bfL_b hG t
  refine ⟨?_, by unfold gL; omega⟩
  cases t with
  | zero =>
    show 0 ≤ nwL xs (fsL xs xs.length + ((0 : Nat) : Int)) xs.length - 0
    omega
  | succ t =>
    have h4 := nwL_up (fsL xs xs.length + t) xs.length hG.2.1
    have e : fsL xs xs.length + ((t + 1 : Nat) : Int) = fsL xs xs.length + t + 1 := by omega
    show 0 ≤ nwL xs (fsL xs xs.length + ((t + 1 : Nat) : Int)) xs.length - nwL xs (fsL xs xs.length + t) xs.length
    rw [e]; omega
theorem vL_b {xs : List Dn} (hG : GoodL xs) (n : Nat) : bnd (lG n (gL xs)) 1000000000000000 := by
  intro j hj
  rw [lG_len] at hj
  rw [lG_get hj]
  exact gL_b hG j
/-! ### The specification -/
theorem con52 (nn : Bool) (d : Ds) (hG : GoodD d) (y : Int) (hy : -100000 ≤ y ∧ y ≤ 100000) : Con Try.prog 52 true [.agg (dRow nn d), .int .i64 y] (.int .i64 (unt d y)) [] := by
  refine con_of_wp mixed fun52 (by simp) [] plain_nil ?_
  unfold ac52 ro52
  simp only [zipT]
  have h60 := hG.1
  have hf := hG.2.1
  have hc := clp_le d (y - d.f + 1)
  have e1 : min (max (y - d.f + 1) 0) (d.ws.length : Int) = ((clp d (y - d.f + 1) : Nat) : Int) := by unfold clp; omega
  have cS : Con Try.prog 49 true [.vw nn (((d.ws.drop 0).take (clp d (y - d.f + 1) - 0)).map iRow)] (.int .i64 (unt d y)) [] := by
    have hlen : ((d.ws.drop 0).take (clp d (y - d.f + 1) - 0)).length = clp d (y - d.f + 1) := by
      rw [List.length_take, List.length_drop]; omega
    have := con49 nn ((d.ws.drop 0).take (clp d (y - d.f + 1) - 0)) (by omega) (B := 1000000) (fun j hj => by
      rw [hlen] at hj
      rw [sl_get (by omega)]
      exact hG.bnd _ (by omega)) (by decide) (by omega)
    rw [hlen] at this
    have e : ∀ k, k ≤ clp d (y - d.f + 1) → sm ((d.ws.drop 0).take (clp d (y - d.f + 1) - 0)) k = sm d.ws k := by
      intro k
      induction k with
      | zero => intro _; rfl
      | succ k ih => intro hk; rw [sm, sm, ih (by omega), sl_get (by omega), Nat.zero_add]
    rw [e _ (Nat.le_refl _)] at this
    exact this
  repeat (first | refine wC_dregE ?_ | refine wE_call (con51 _ _) rfl rfl rfl ?_ | refine wE_call (con50 _ _) rfl rfl rfl ?_ | (first
    | refine wC_a rfl ?_
    | refine q_s rfl ?_
    | refine q_b rfl ?_
    | refine wG_nil ?_
    | refine wG_g rfl ?_
    | refine wG_pure (o_len_vwm rfl) ?_
    | refine wG_pure (o_not_d rfl) ?_
    | refine wG_p rfl (by first | exact rfl | omega) ?_
    | refine wG_pure (o_str2 rfl rfl rfl) ?_
    | refine wG_pure (e_istr rfl rfl (by omega)) ?_
    | refine wG_pure (e_istr0 rfl rfl (by omega)) ?_
    | refine wG_pure (o_not rfl) ?_
    | refine wG_pure (e_ia_vw0 rfl rfl (by omega) rfl) ?_
    | refine wG_pure (e_ia_vwp rfl rfl (by omega) rfl) ?_
    | refine wG_pure (e_ia_vwm rfl rfl (by omega) (by omega) rfl) ?_
    | refine wG_pure (e_ia_vwi rfl rfl (by omega) rfl) ?_
    | refine wG_pure (e_ia_vwn rfl rfl (by omega) (by omega) rfl) ?_
    | refine wG_n rfl rfl ?_
    | refine wG_u rfl rfl ?_
    | refine wG_new (o_mks rfl rfl (by omega) (by decide)) ?_) | (first
    | refine wE_nil (by kernel_rfl) ?_
    | refine wE_gy rfl ?_
    | refine wE_gn rfl rfl rfl ?_
    | refine wE_gu rfl rfl ?_
    | refine wE_gnn rfl rfl rfl ?_
    | refine wE_v (o_len_vwm rfl) rfl ?_
    | refine wE_v (o_not_d rfl) rfl ?_
    | refine wE_p rfl (by first | exact rfl | omega) rfl ?_
    | refine wE_v (o_str2 rfl rfl rfl) rfl ?_
    | refine wE_v (e_istr rfl rfl (by omega)) rfl ?_
    | refine wE_v (e_istr0 rfl rfl (by omega)) rfl ?_
    | refine wE_v (o_not rfl) rfl ?_
    | refine wE_v (e_ia_vw0 rfl rfl (by omega) rfl) rfl ?_
    | refine wE_v (e_ia_vwp rfl rfl (by omega) rfl) rfl ?_
    | refine wE_v (e_ia_vwm rfl rfl (by omega) (by omega) rfl) rfl ?_
    | refine wE_v (e_ia_vwi rfl rfl (by omega) rfl) rfl ?_
    | refine wE_v (e_ia_vwn rfl rfl (by omega) (by omega) rfl) rfl ?_
    | refine wE_n rfl rfl rfl ?_
    | refine wE_u rfl rfl rfl ?_
    | refine wE_new (o_mks rfl rfl (by omega) (by decide)) rfl ?_))
  simp only [e1]
  repeat (first | refine wG_call cS rfl rfl ?_ | refine wG_pure (o_slc_m (l := 0) (h := clp d (y - d.f + 1)) rfl bd_n (bd_i rfl) (by omega) hc (okI _)) ?_ | (first
    | refine wC_a rfl ?_
    | refine q_s rfl ?_
    | refine q_b rfl ?_
    | refine wG_nil ?_
    | refine wG_g rfl ?_
    | refine wG_pure (o_len_vwm rfl) ?_
    | refine wG_pure (o_not_d rfl) ?_
    | refine wG_p rfl (by first | exact rfl | omega) ?_
    | refine wG_pure (o_str2 rfl rfl rfl) ?_
    | refine wG_pure (e_istr rfl rfl (by omega)) ?_
    | refine wG_pure (e_istr0 rfl rfl (by omega)) ?_
    | refine wG_pure (o_not rfl) ?_
    | refine wG_pure (e_ia_vw0 rfl rfl (by omega) rfl) ?_
    | refine wG_pure (e_ia_vwp rfl rfl (by omega) rfl) ?_
    | refine wG_pure (e_ia_vwm rfl rfl (by omega) (by omega) rfl) ?_
    | refine wG_pure (e_ia_vwi rfl rfl (by omega) rfl) ?_
    | refine wG_pure (e_ia_vwn rfl rfl (by omega) (by omega) rfl) ?_
    | refine wG_n rfl rfl ?_
    | refine wG_u rfl rfl ?_
    | refine wG_new (o_mks rfl rfl (by omega) (by decide)) ?_))
  exact ret_intE (.inr rfl) ⟨_, retV_mv rfl, rfl⟩
theorem nD_ltr1 {x : Dn} (n : Nat) : ∀ row ∈ [nD x], ∀ y ∈ row, AV.ltr n y = true := fun row hr y hy => by
  simp at hr; subst hr
  simp [nD, dRow] at hy
  rcases hy with rfl | rfl <;> rfl
theorem con17_all (nn : Bool) (xs : List Dn) (h3 : xs.length ≤ 1048576) (hL : LenN xs 1048576) (v : AV) (rs : List Nat) (objs : List Ab.Rows) (hv : v.nvf = true) (hp : PlainObjs objs)
    (hend : (GoodL xs ∧ mkOK (fsL xs xs.length) (scO (lG (nL xs) (gL xs))) → v = mYes (mkO (fsL xs xs.length) (scO (lG (nL xs) (gL xs)))) ∧ rs = [3] ∧ objs = [(mkO (fsL xs xs.length) (scO (lG (nL xs) (gL xs)))).ws.map iRow]) ∧ (¬ (GoodL xs ∧ mkOK (fsL xs xs.length) (scO (lG (nL xs) (gL xs)))) → v = mNo ∧ rs = [] ∧ objs = [])) :
    Con Try.prog 17 true [.vw nn (xs.map nD)] v objs := by
  classical
  suffices key : Con Try.prog 17 v.nvf [.vw nn (xs.map nD)] v objs by rwa [hv] at key
  refine con_of_wp mixed fun17 (by simp) rs hp ?_
  unfold ac17 ro17
  simp only [zipT]
  have c1 := con47 (xs.length : Int) 1 4
  by_cases hn : 1 ≤ (xs.length : Int) ∧ (xs.length : Int) ≤ 4
  case neg =>
    rw [decide_eq_false hn] at c1
    obtain ⟨rfl, rfl, rfl⟩ := hend.2 (fun h => hn (by have := h.1.1; omega))
    repeat (first | refine wG_call c1 rfl rfl ?_ | (first
    | refine wC_a rfl ?_
    | refine q_s rfl ?_
    | refine q_b rfl ?_
    | refine wG_nil ?_
    | refine wG_g rfl ?_
    | refine wG_pure (o_len_vwm rfl) ?_
    | refine wG_pure (o_not_d rfl) ?_
    | refine wG_p rfl (by first | exact rfl | omega) ?_
    | refine wG_pure (o_str2 rfl rfl rfl) ?_
    | refine wG_pure (e_istr rfl rfl (by omega)) ?_
    | refine wG_pure (e_istr0 rfl rfl (by omega)) ?_
    | refine wG_pure (o_not rfl) ?_
    | refine wG_pure (e_ia_vw0 rfl rfl (by omega) rfl) ?_
    | refine wG_pure (e_ia_vwp rfl rfl (by omega) rfl) ?_
    | refine wG_pure (e_ia_vwm rfl rfl (by omega) (by omega) rfl) ?_
    | refine wG_pure (e_ia_vwi rfl rfl (by omega) rfl) ?_
    | refine wG_pure (e_ia_vwn rfl rfl (by omega) (by omega) rfl) ?_
    | refine wG_n rfl rfl ?_
    | refine wG_u rfl rfl ?_
    | refine wG_new (o_mks rfl rfl (by omega) (by decide)) ?_))
    exact ret_d0 (.inr rfl) rfl (retV_ldt rfl rfl rfl rfl rfl) (retV_mv rfl)
  rw [decide_eq_true hn] at c1
  repeat (first | refine wG_call c1 rfl rfl ?_ | (first
    | refine wC_a rfl ?_
    | refine q_s rfl ?_
    | refine q_b rfl ?_
    | refine wG_nil ?_
    | refine wG_g rfl ?_
    | refine wG_pure (o_len_vwm rfl) ?_
    | refine wG_pure (o_not_d rfl) ?_
    | refine wG_p rfl (by first | exact rfl | omega) ?_
    | refine wG_pure (o_str2 rfl rfl rfl) ?_
    | refine wG_pure (e_istr rfl rfl (by omega)) ?_
    | refine wG_pure (e_istr0 rfl rfl (by omega)) ?_
    | refine wG_pure (o_not rfl) ?_
    | refine wG_pure (e_ia_vw0 rfl rfl (by omega) rfl) ?_
    | refine wG_pure (e_ia_vwp rfl rfl (by omega) rfl) ?_
    | refine wG_pure (e_ia_vwm rfl rfl (by omega) (by omega) rfl) ?_
    | refine wG_pure (e_ia_vwi rfl rfl (by omega) rfl) ?_
    | refine wG_pure (e_ia_vwn rfl rfl (by omega) (by omega) rfl) ?_
    | refine wG_n rfl rfl ?_
    | refine wG_u rfl rfl ?_
    | refine wG_new (o_mks rfl rfl (by omega) (by decide)) ?_))
  refine wC_loop Nat (fun i => ⟨[(0, .vw nn (xs.map nD)), (2, .pt 0 0 0), (4, .pt 1 0 0), (5, .int .i64 (fsL xs i)), (6, .int .i64 (lsL xs i)), (7, .int .i64 (wgL xs i)), (8, .int .i64 (i : Int))], [(1, some [[.int .i64 0, .nilS]]), (0, some [[.int .i64 0, .nilS]])], 2⟩) (fun i => i ≤ xs.length ∧ ∀ j, j < i → okL xs j) (fun i => xs.length - i) 0 ⟨Nat.zero_le _, fun j hj => absurd hj (Nat.not_lt_zero _)⟩ ?_ (fun _ _ => Nat.zero_le _) ?_
  · exact ⟨⟨⟨rfl, rfl⟩, ⟨rfl, rfl⟩, ⟨rfl, rfl⟩, ⟨rfl, rfl⟩, ⟨rfl, rfl⟩, ⟨rfl, rfl⟩, ⟨rfl, rfl⟩, trivial⟩, ⟨rfl, by show 1 < 2; decide, by simp [AV.ltr]⟩, ⟨rfl, by show 0 < 2; decide, by simp [AV.ltr]⟩, trivial⟩
  rintro i ⟨hi, hok⟩
  obtain ⟨w1, w2⟩ := wgL_b i hok
  obtain ⟨b1, b2, b3, _⟩ := fsL_b i hok
  repeat (first
    | refine wC_a rfl ?_
    | refine q_s rfl ?_
    | refine q_b rfl ?_
    | refine wG_nil ?_
    | refine wG_g rfl ?_
    | refine wG_pure (o_len_vwm rfl) ?_
    | refine wG_pure (o_not_d rfl) ?_
    | refine wG_p rfl (by first | exact rfl | omega) ?_
    | refine wG_pure (o_str2 rfl rfl rfl) ?_
    | refine wG_pure (e_istr rfl rfl (by omega)) ?_
    | refine wG_pure (e_istr0 rfl rfl (by omega)) ?_
    | refine wG_pure (o_not rfl) ?_
    | refine wG_pure (e_ia_vw0 rfl rfl (by omega) rfl) ?_
    | refine wG_pure (e_ia_vwp rfl rfl (by omega) rfl) ?_
    | refine wG_pure (e_ia_vwm rfl rfl (by omega) (by omega) rfl) ?_
    | refine wG_pure (e_ia_vwi rfl rfl (by omega) rfl) ?_
    | refine wG_pure (e_ia_vwn rfl rfl (by omega) (by omega) rfl) ?_
    | refine wG_n rfl rfl ?_
    | refine wG_u rfl rfl ?_
    | refine wG_new (o_mks rfl rfl (by omega) (by decide)) ?_)
  refine wC_cond_d rfl (fun h5 => ?_) (fun h5 => ?_)
  · have hi2 : i < xs.length := by omega
    have e2 := con48 (xs.getD i default).b (xs.getD i default).d (hL i hi2)
    by_cases g2 : GoodD (xs.getD i default).d
    case neg =>
      rw [decide_eq_false g2] at e2
      obtain ⟨rfl, rfl, rfl⟩ := hend.2 (fun h => g2 (h.1.2.1 i hi2).1)
      repeat (first | refine wG_call e2 rfl rfl ?_ | (first
    | refine wC_a rfl ?_
    | refine q_s rfl ?_
    | refine q_b rfl ?_
    | refine wG_nil ?_
    | refine wG_g rfl ?_
    | refine wG_pure (o_len_vwm rfl) ?_
    | refine wG_pure (o_not_d rfl) ?_
    | refine wG_p rfl (by first | exact rfl | omega) ?_
    | refine wG_pure (o_str2 rfl rfl rfl) ?_
    | refine wG_pure (e_istr rfl rfl (by omega)) ?_
    | refine wG_pure (e_istr0 rfl rfl (by omega)) ?_
    | refine wG_pure (o_not rfl) ?_
    | refine wG_pure (e_ia_vw0 rfl rfl (by omega) rfl) ?_
    | refine wG_pure (e_ia_vwp rfl rfl (by omega) rfl) ?_
    | refine wG_pure (e_ia_vwm rfl rfl (by omega) (by omega) rfl) ?_
    | refine wG_pure (e_ia_vwi rfl rfl (by omega) rfl) ?_
    | refine wG_pure (e_ia_vwn rfl rfl (by omega) (by omega) rfl) ?_
    | refine wG_n rfl rfl ?_
    | refine wG_u rfl rfl ?_
    | refine wG_new (o_mks rfl rfl (by omega) (by decide)) ?_))
      exact ret_d0 (.inr rfl) rfl (retV_ldt rfl rfl rfl rfl rfl) (retV_mv rfl)
    rw [decide_eq_true g2] at e2
    have h60 := g2.1
    have hff := g2.2.1
    have e4 := con49 (xs.getD i default).b (xs.getD i default).d.ws (hL i hi2) g2.bnd (by decide) (by omega)
    rw [show sm (xs.getD i default).d.ws (xs.getD i default).d.ws.length = total (xs.getD i default).d from rfl] at e4
    have ht := g2.pos
    have ht2 := g2.total_b.2
    have hdv : (1000000000000000 : Int).tdiv (total (xs.getD i default).d) ≤ 1000000000000000 ∧ 0 ≤ (1000000000000000 : Int).tdiv (total (xs.getD i default).d) := by
      rw [Int.tdiv_eq_ediv_of_nonneg (by omega)]
      exact ⟨Int.ediv_le_self _ (by omega), Int.ediv_nonneg (by omega) (by omega)⟩
    repeat (first | refine wG_call e2 rfl rfl ?_ | refine wG_call e4 rfl rfl ?_ | (first
    | refine wC_a rfl ?_
    | refine q_s rfl ?_
    | refine q_b rfl ?_
    | refine wG_nil ?_
    | refine wG_g rfl ?_
    | refine wG_pure (o_len_vwm rfl) ?_
    | refine wG_pure (o_not_d rfl) ?_
    | refine wG_p rfl (by first | exact rfl | omega) ?_
    | refine wG_pure (o_str2 rfl rfl rfl) ?_
    | refine wG_pure (e_istr rfl rfl (by omega)) ?_
    | refine wG_pure (e_istr0 rfl rfl (by omega)) ?_
    | refine wG_pure (o_not rfl) ?_
    | refine wG_pure (e_ia_vw0 rfl rfl (by omega) rfl) ?_
    | refine wG_pure (e_ia_vwp rfl rfl (by omega) rfl) ?_
    | refine wG_pure (e_ia_vwm rfl rfl (by omega) (by omega) rfl) ?_
    | refine wG_pure (e_ia_vwi rfl rfl (by omega) rfl) ?_
    | refine wG_pure (e_ia_vwn rfl rfl (by omega) (by omega) rfl) ?_
    | refine wG_n rfl rfl ?_
    | refine wG_u rfl rfl ?_
    | refine wG_new (o_mks rfl rfl (by omega) (by decide)) ?_))
    by_cases g4 : wgL xs i > (1000000000000000 : Int).tdiv (total (xs.getD i default).d)
    · simp only [decide_eq_true g4]
      obtain ⟨rfl, rfl, rfl⟩ := hend.2 (fun h => (h.1.2.1 i hi2).2 g4)
      repeat (first
    | refine wC_a rfl ?_
    | refine q_s rfl ?_
    | refine q_b rfl ?_
    | refine wG_nil ?_
    | refine wG_g rfl ?_
    | refine wG_pure (o_len_vwm rfl) ?_
    | refine wG_pure (o_not_d rfl) ?_
    | refine wG_p rfl (by first | exact rfl | omega) ?_
    | refine wG_pure (o_str2 rfl rfl rfl) ?_
    | refine wG_pure (e_istr rfl rfl (by omega)) ?_
    | refine wG_pure (e_istr0 rfl rfl (by omega)) ?_
    | refine wG_pure (o_not rfl) ?_
    | refine wG_pure (e_ia_vw0 rfl rfl (by omega) rfl) ?_
    | refine wG_pure (e_ia_vwp rfl rfl (by omega) rfl) ?_
    | refine wG_pure (e_ia_vwm rfl rfl (by omega) (by omega) rfl) ?_
    | refine wG_pure (e_ia_vwi rfl rfl (by omega) rfl) ?_
    | refine wG_pure (e_ia_vwn rfl rfl (by omega) (by omega) rfl) ?_
    | refine wG_n rfl rfl ?_
    | refine wG_u rfl rfl ?_
    | refine wG_new (o_mks rfl rfl (by omega) (by decide)) ?_)
      exact ret_d0 (.inr rfl) rfl (retV_ldt rfl rfl rfl rfl rfl) (retV_mv rfl)
    · simp only [decide_eq_false g4]
      have hw := le_tdiv ht (by omega) g4
      have hw0 : 0 ≤ wgL xs i * total (xs.getD i default).d := Int.mul_nonneg (by omega) (by omega)
      repeat (first | refine wC_dregE ?_ | refine wG_call e4 rfl rfl ?_ | refine wG_call (con50 _ _) rfl rfl ?_ | refine wE_call (con51 _ _) rfl rfl rfl ?_ | (first
    | refine wC_a rfl ?_
    | refine q_s rfl ?_
    | refine q_b rfl ?_
    | refine wG_nil ?_
    | refine wG_g rfl ?_
    | refine wG_pure (o_len_vwm rfl) ?_
    | refine wG_pure (o_not_d rfl) ?_
    | refine wG_p rfl (by first | exact rfl | omega) ?_
    | refine wG_pure (o_str2 rfl rfl rfl) ?_
    | refine wG_pure (e_istr rfl rfl (by omega)) ?_
    | refine wG_pure (e_istr0 rfl rfl (by omega)) ?_
    | refine wG_pure (o_not rfl) ?_
    | refine wG_pure (e_ia_vw0 rfl rfl (by omega) rfl) ?_
    | refine wG_pure (e_ia_vwp rfl rfl (by omega) rfl) ?_
    | refine wG_pure (e_ia_vwm rfl rfl (by omega) (by omega) rfl) ?_
    | refine wG_pure (e_ia_vwi rfl rfl (by omega) rfl) ?_
    | refine wG_pure (e_ia_vwn rfl rfl (by omega) (by omega) rfl) ?_
    | refine wG_n rfl rfl ?_
    | refine wG_u rfl rfl ?_
    | refine wG_new (o_mks rfl rfl (by omega) (by decide)) ?_) | (first
    | refine wE_nil (by kernel_rfl) ?_
    | refine wE_gy rfl ?_
    | refine wE_gn rfl rfl rfl ?_
    | refine wE_gu rfl rfl ?_
    | refine wE_gnn rfl rfl rfl ?_
    | refine wE_v (o_len_vwm rfl) rfl ?_
    | refine wE_v (o_not_d rfl) rfl ?_
    | refine wE_p rfl (by first | exact rfl | omega) rfl ?_
    | refine wE_v (o_str2 rfl rfl rfl) rfl ?_
    | refine wE_v (e_istr rfl rfl (by omega)) rfl ?_
    | refine wE_v (e_istr0 rfl rfl (by omega)) rfl ?_
    | refine wE_v (o_not rfl) rfl ?_
    | refine wE_v (e_ia_vw0 rfl rfl (by omega) rfl) rfl ?_
    | refine wE_v (e_ia_vwp rfl rfl (by omega) rfl) rfl ?_
    | refine wE_v (e_ia_vwm rfl rfl (by omega) (by omega) rfl) rfl ?_
    | refine wE_v (e_ia_vwi rfl rfl (by omega) rfl) rfl ?_
    | refine wE_v (e_ia_vwn rfl rfl (by omega) (by omega) rfl) rfl ?_
    | refine wE_n rfl rfl rfl ?_
    | refine wE_u rfl rfl rfl ?_
    | refine wE_new (o_mks rfl rfl (by omega) (by decide)) rfl ?_))
      exact ⟨i + 1, ⟨hi2, lt_upL hok ⟨g2, g4⟩⟩, by omega, ⟨⟨rfl, rfl⟩, ⟨rfl, rfl⟩, ⟨rfl, rfl⟩, ⟨rfl, rfl⟩, ⟨rfl, rfl⟩, ⟨rfl, rfl⟩, ⟨rfl, rfl⟩, trivial⟩, ⟨rfl, by show 1 < 2; decide, by simp [AV.ltr]⟩, ⟨rfl, by show 0 < 2; decide, by simp [AV.ltr]⟩, trivial⟩
  have hi3 : i = xs.length := by omega
  subst hi3
  obtain ⟨_, _, _, b4⟩ := fsL_b xs.length hok
  have b4 := b4 (by omega)
  by_cases hsp : lsL xs xs.length - fsL xs xs.length ≥ 200
  · have d1 : decide (lsL xs xs.length - fsL xs xs.length ≥ 200) = true := decide_eq_true hsp
    obtain ⟨rfl, rfl, rfl⟩ := hend.2 (fun h => by have := h.1.2.2; omega)
    repeat (first
    | refine wC_a rfl ?_
    | refine q_s rfl ?_
    | refine q_b rfl ?_
    | refine wG_nil ?_
    | refine wG_g rfl ?_
    | refine wG_pure (o_len_vwm rfl) ?_
    | refine wG_pure (o_not_d rfl) ?_
    | refine wG_p rfl (by first | exact rfl | omega) ?_
    | refine wG_pure (o_str2 rfl rfl rfl) ?_
    | refine wG_pure (e_istr rfl rfl (by omega)) ?_
    | refine wG_pure (e_istr0 rfl rfl (by omega)) ?_
    | refine wG_pure (o_not rfl) ?_
    | refine wG_pure (e_ia_vw0 rfl rfl (by omega) rfl) ?_
    | refine wG_pure (e_ia_vwp rfl rfl (by omega) rfl) ?_
    | refine wG_pure (e_ia_vwm rfl rfl (by omega) (by omega) rfl) ?_
    | refine wG_pure (e_ia_vwi rfl rfl (by omega) rfl) ?_
    | refine wG_pure (e_ia_vwn rfl rfl (by omega) (by omega) rfl) ?_
    | refine wG_n rfl rfl ?_
    | refine wG_u rfl rfl ?_
    | refine wG_new (o_mks rfl rfl (by omega) (by decide)) ?_)
    simp only [d1]
    repeat (first
    | refine wC_a rfl ?_
    | refine q_s rfl ?_
    | refine q_b rfl ?_
    | refine wG_nil ?_
    | refine wG_g rfl ?_
    | refine wG_pure (o_len_vwm rfl) ?_
    | refine wG_pure (o_not_d rfl) ?_
    | refine wG_p rfl (by first | exact rfl | omega) ?_
    | refine wG_pure (o_str2 rfl rfl rfl) ?_
    | refine wG_pure (e_istr rfl rfl (by omega)) ?_
    | refine wG_pure (e_istr0 rfl rfl (by omega)) ?_
    | refine wG_pure (o_not rfl) ?_
    | refine wG_pure (e_ia_vw0 rfl rfl (by omega) rfl) ?_
    | refine wG_pure (e_ia_vwp rfl rfl (by omega) rfl) ?_
    | refine wG_pure (e_ia_vwm rfl rfl (by omega) (by omega) rfl) ?_
    | refine wG_pure (e_ia_vwi rfl rfl (by omega) rfl) ?_
    | refine wG_pure (e_ia_vwn rfl rfl (by omega) (by omega) rfl) ?_
    | refine wG_n rfl rfl ?_
    | refine wG_u rfl rfl ?_
    | refine wG_new (o_mks rfl rfl (by omega) (by decide)) ?_)
    exact ret_d0 (.inr rfl) rfl (retV_ldt rfl rfl rfl rfl rfl) (retV_mv rfl)
  have d1 : decide (lsL xs xs.length - fsL xs xs.length ≥ 200) = false := decide_eq_false hsp
  have hG : GoodL xs := ⟨by omega, hok, by omega⟩
  have hnL : ((nL xs : Nat) : Int) = lsL xs xs.length - fsL xs xs.length + 1 := by unfold nL; omega
  have hww := wgL_b xs.length hok
  repeat (first
    | refine wC_a rfl ?_
    | refine q_s rfl ?_
    | refine q_b rfl ?_
    | refine wG_nil ?_
    | refine wG_g rfl ?_
    | refine wG_pure (o_len_vwm rfl) ?_
    | refine wG_pure (o_not_d rfl) ?_
    | refine wG_p rfl (by first | exact rfl | omega) ?_
    | refine wG_pure (o_str2 rfl rfl rfl) ?_
    | refine wG_pure (e_istr rfl rfl (by omega)) ?_
    | refine wG_pure (e_istr0 rfl rfl (by omega)) ?_
    | refine wG_pure (o_not rfl) ?_
    | refine wG_pure (e_ia_vw0 rfl rfl (by omega) rfl) ?_
    | refine wG_pure (e_ia_vwp rfl rfl (by omega) rfl) ?_
    | refine wG_pure (e_ia_vwm rfl rfl (by omega) (by omega) rfl) ?_
    | refine wG_pure (e_ia_vwi rfl rfl (by omega) rfl) ?_
    | refine wG_pure (e_ia_vwn rfl rfl (by omega) (by omega) rfl) ?_
    | refine wG_n rfl rfl ?_
    | refine wG_u rfl rfl ?_
    | refine wG_new (o_mks rfl rfl (by omega) (by decide)) ?_)
  simp only [d1]
  repeat (first
    | refine wC_a rfl ?_
    | refine q_s rfl ?_
    | refine q_b rfl ?_
    | refine wG_nil ?_
    | refine wG_g rfl ?_
    | refine wG_pure (o_len_vwm rfl) ?_
    | refine wG_pure (o_not_d rfl) ?_
    | refine wG_p rfl (by first | exact rfl | omega) ?_
    | refine wG_pure (o_str2 rfl rfl rfl) ?_
    | refine wG_pure (e_istr rfl rfl (by omega)) ?_
    | refine wG_pure (e_istr0 rfl rfl (by omega)) ?_
    | refine wG_pure (o_not rfl) ?_
    | refine wG_pure (e_ia_vw0 rfl rfl (by omega) rfl) ?_
    | refine wG_pure (e_ia_vwp rfl rfl (by omega) rfl) ?_
    | refine wG_pure (e_ia_vwm rfl rfl (by omega) (by omega) rfl) ?_
    | refine wG_pure (e_ia_vwi rfl rfl (by omega) rfl) ?_
    | refine wG_pure (e_ia_vwn rfl rfl (by omega) (by omega) rfl) ?_
    | refine wG_n rfl rfl ?_
    | refine wG_u rfl rfl ?_
    | refine wG_new (o_mks rfl rfl (by omega) (by decide)) ?_)
  refine wC_loopR Nat (fun t => ⟨[(0, .vw nn (xs.map nD)), (2, .pt 0 0 0), (5, .int .i64 (fsL xs xs.length)), (6, .int .i64 (lsL xs xs.length)), (9, .sl 2 1 0 t), (10, .int .i64 (bfL xs t)), (11, .int .i64 (fsL xs xs.length + t))], [(2, some ((lG t (gL xs)).map iRow)), (1, some [[.int .i64 0, .nilS]]), (0, some [[.int .i64 0, .nilS]])], 3⟩) (fun t => t ≤ nL xs) (fun t => nL xs - t) 0 (Nat.zero_le _) ⟨[0, 1, 2], ?_⟩ ?_
  · exact ⟨⟨⟨rfl, rfl⟩, ⟨rfl, rfl⟩, ⟨rfl, rfl⟩, ⟨rfl, rfl⟩, ⟨rfl, rfl⟩, ⟨rfl, rfl⟩, ⟨by show AV.int _ _ = AV.int _ _; congr 1; simp, rfl⟩, trivial⟩, ⟨⟨⟨_, rfl, rfl⟩, (by show 2 < 3; decide), ltrI _ _⟩, ⟨⟨_, rfl, rfl⟩, (by show 1 < 3; decide), by simp [AV.ltr]⟩, ⟨⟨_, rfl, rfl⟩, (by show 0 < 3; decide), by simp [AV.ltr]⟩, trivial⟩, rfl, by decide⟩
  intro t ht
  have hll := lG_len t (gL xs)
  have hup := lG_up t (gL xs)
  have hbf := bfL_b hG t
  have hgb := gL_b hG t
  repeat (first
    | refine wC_a rfl ?_
    | refine q_s rfl ?_
    | refine q_b rfl ?_
    | refine wG_nil ?_
    | refine wG_g rfl ?_
    | refine wG_pure (o_len_vwm rfl) ?_
    | refine wG_pure (o_not_d rfl) ?_
    | refine wG_p rfl (by first | exact rfl | omega) ?_
    | refine wG_pure (o_str2 rfl rfl rfl) ?_
    | refine wG_pure (e_istr rfl rfl (by omega)) ?_
    | refine wG_pure (e_istr0 rfl rfl (by omega)) ?_
    | refine wG_pure (o_not rfl) ?_
    | refine wG_pure (e_ia_vw0 rfl rfl (by omega) rfl) ?_
    | refine wG_pure (e_ia_vwp rfl rfl (by omega) rfl) ?_
    | refine wG_pure (e_ia_vwm rfl rfl (by omega) (by omega) rfl) ?_
    | refine wG_pure (e_ia_vwi rfl rfl (by omega) rfl) ?_
    | refine wG_pure (e_ia_vwn rfl rfl (by omega) (by omega) rfl) ?_
    | refine wG_n rfl rfl ?_
    | refine wG_u rfl rfl ?_
    | refine wG_new (o_mks rfl rfl (by omega) (by decide)) ?_)
  refine wC_cond_d rfl (fun h6 => ?_) (fun h6 => ?_)
  · repeat (first
    | refine wC_a rfl ?_
    | refine q_s rfl ?_
    | refine q_b rfl ?_
    | refine wG_nil ?_
    | refine wG_g rfl ?_
    | refine wG_pure (o_len_vwm rfl) ?_
    | refine wG_pure (o_not_d rfl) ?_
    | refine wG_p rfl (by first | exact rfl | omega) ?_
    | refine wG_pure (o_str2 rfl rfl rfl) ?_
    | refine wG_pure (e_istr rfl rfl (by omega)) ?_
    | refine wG_pure (e_istr0 rfl rfl (by omega)) ?_
    | refine wG_pure (o_not rfl) ?_
    | refine wG_pure (e_ia_vw0 rfl rfl (by omega) rfl) ?_
    | refine wG_pure (e_ia_vwp rfl rfl (by omega) rfl) ?_
    | refine wG_pure (e_ia_vwm rfl rfl (by omega) (by omega) rfl) ?_
    | refine wG_pure (e_ia_vwi rfl rfl (by omega) rfl) ?_
    | refine wG_pure (e_ia_vwn rfl rfl (by omega) (by omega) rfl) ?_
    | refine wG_n rfl rfl ?_
    | refine wG_u rfl rfl ?_
    | refine wG_new (o_mks rfl rfl (by omega) (by decide)) ?_)
    refine wC_loop Nat (fun i => ⟨[(0, .vw nn (xs.map nD)), (2, .pt 0 0 0), (5, .int .i64 (fsL xs xs.length)), (6, .int .i64 (lsL xs xs.length)), (9, .sl 2 1 0 t), (10, .int .i64 (bfL xs t)), (11, .int .i64 (fsL xs xs.length + t)), (12, .int .i64 (nwL xs (fsL xs xs.length + t) i)), (13, .int .i64 (i : Int))], [(2, some ((lG t (gL xs)).map iRow)), (1, some [[.int .i64 0, .nilS]]), (0, some [[.int .i64 0, .nilS]])], 3⟩) (fun i => i ≤ xs.length) (fun i => xs.length - i) 0 (Nat.zero_le _) ?_ (fun _ _ => Nat.zero_le _) ?_
    · exact ⟨⟨⟨rfl, rfl⟩, ⟨rfl, rfl⟩, ⟨rfl, rfl⟩, ⟨rfl, rfl⟩, ⟨rfl, rfl⟩, ⟨rfl, rfl⟩, ⟨rfl, rfl⟩, ⟨rfl, rfl⟩, ⟨rfl, rfl⟩, trivial⟩, ⟨rfl, by show 2 < 3; decide, ltrI _ _⟩, ⟨rfl, by show 1 < 3; decide, by simp [AV.ltr]⟩, ⟨rfl, by show 0 < 3; decide, by simp [AV.ltr]⟩, trivial⟩
    intro i hi4
    repeat (first
    | refine wC_a rfl ?_
    | refine q_s rfl ?_
    | refine q_b rfl ?_
    | refine wG_nil ?_
    | refine wG_g rfl ?_
    | refine wG_pure (o_len_vwm rfl) ?_
    | refine wG_pure (o_not_d rfl) ?_
    | refine wG_p rfl (by first | exact rfl | omega) ?_
    | refine wG_pure (o_str2 rfl rfl rfl) ?_
    | refine wG_pure (e_istr rfl rfl (by omega)) ?_
    | refine wG_pure (e_istr0 rfl rfl (by omega)) ?_
    | refine wG_pure (o_not rfl) ?_
    | refine wG_pure (e_ia_vw0 rfl rfl (by omega) rfl) ?_
    | refine wG_pure (e_ia_vwp rfl rfl (by omega) rfl) ?_
    | refine wG_pure (e_ia_vwm rfl rfl (by omega) (by omega) rfl) ?_
    | refine wG_pure (e_ia_vwi rfl rfl (by omega) rfl) ?_
    | refine wG_pure (e_ia_vwn rfl rfl (by omega) (by omega) rfl) ?_
    | refine wG_n rfl rfl ?_
    | refine wG_u rfl rfl ?_
    | refine wG_new (o_mks rfl rfl (by omega) (by decide)) ?_)
    refine wC_cond_d rfl (fun h7 => ?_) (fun h7 => ?_)
    · have hi5 : i < xs.length := by omega
      have g2 := (hok i hi5).1
      have cU := con52 (xs.getD i default).b (xs.getD i default).d g2 (fsL xs xs.length + t) (by omega)
      have n1 := nwL_b (fsL xs xs.length + t) (i + 1) (fun j hj => hok j (by omega))
      have n2 := wgL_b (i + 1) (fun j hj => hok j (by omega))
      rw [nwL] at n1
      repeat (first | refine wG_call cU rfl rfl ?_ | (first
    | refine wC_a rfl ?_
    | refine q_s rfl ?_
    | refine q_b rfl ?_
    | refine wG_nil ?_
    | refine wG_g rfl ?_
    | refine wG_pure (o_len_vwm rfl) ?_
    | refine wG_pure (o_not_d rfl) ?_
    | refine wG_p rfl (by first | exact rfl | omega) ?_
    | refine wG_pure (o_str2 rfl rfl rfl) ?_
    | refine wG_pure (e_istr rfl rfl (by omega)) ?_
    | refine wG_pure (e_istr0 rfl rfl (by omega)) ?_
    | refine wG_pure (o_not rfl) ?_
    | refine wG_pure (e_ia_vw0 rfl rfl (by omega) rfl) ?_
    | refine wG_pure (e_ia_vwp rfl rfl (by omega) rfl) ?_
    | refine wG_pure (e_ia_vwm rfl rfl (by omega) (by omega) rfl) ?_
    | refine wG_pure (e_ia_vwi rfl rfl (by omega) rfl) ?_
    | refine wG_pure (e_ia_vwn rfl rfl (by omega) (by omega) rfl) ?_
    | refine wG_n rfl rfl ?_
    | refine wG_u rfl rfl ?_
    | refine wG_new (o_mks rfl rfl (by omega) (by decide)) ?_))
      exact ⟨i + 1, hi5, by omega, ⟨⟨rfl, rfl⟩, ⟨rfl, rfl⟩, ⟨rfl, rfl⟩, ⟨rfl, rfl⟩, ⟨rfl, rfl⟩, ⟨rfl, rfl⟩, ⟨rfl, rfl⟩, ⟨rfl, rfl⟩, ⟨rfl, rfl⟩, trivial⟩, ⟨rfl, by show 2 < 3; decide, ltrI _ _⟩, ⟨rfl, by show 1 < 3; decide, by simp [AV.ltr]⟩, ⟨rfl, by show 0 < 3; decide, by simp [AV.ltr]⟩, trivial⟩
    · have hi6 : i = xs.length := by omega
      subst hi6
      have n1 := nwL_b (fsL xs xs.length + t) xs.length hok
      repeat (first | refine wG_app rfl rfl (by rw [List.length_map, hll]) (rows_sl rfl rfl rfl) (by simp) (by simp; omega) (by decide) ?_ | (first
    | refine wC_a rfl ?_
    | refine q_s rfl ?_
    | refine q_b rfl ?_
    | refine wG_nil ?_
    | refine wG_g rfl ?_
    | refine wG_pure (o_len_vwm rfl) ?_
    | refine wG_pure (o_not_d rfl) ?_
    | refine wG_p rfl (by first | exact rfl | omega) ?_
    | refine wG_pure (o_str2 rfl rfl rfl) ?_
    | refine wG_pure (e_istr rfl rfl (by omega)) ?_
    | refine wG_pure (e_istr0 rfl rfl (by omega)) ?_
    | refine wG_pure (o_not rfl) ?_
    | refine wG_pure (e_ia_vw0 rfl rfl (by omega) rfl) ?_
    | refine wG_pure (e_ia_vwp rfl rfl (by omega) rfl) ?_
    | refine wG_pure (e_ia_vwm rfl rfl (by omega) (by omega) rfl) ?_
    | refine wG_pure (e_ia_vwi rfl rfl (by omega) rfl) ?_
    | refine wG_pure (e_ia_vwn rfl rfl (by omega) (by omega) rfl) ?_
    | refine wG_n rfl rfl ?_
    | refine wG_u rfl rfl ?_
    | refine wG_new (o_mks rfl rfl (by omega) (by decide)) ?_))
      refine ⟨t + 1, by omega, by omega, [0, 1, 4], ?_⟩
      rw [hup]
      refine ⟨⟨⟨rfl, rfl⟩, ⟨rfl, rfl⟩, ⟨rfl, rfl⟩, ⟨rfl, rfl⟩, ⟨rfl, rfl⟩, ⟨rfl, rfl⟩, ⟨?_, rfl⟩, trivial⟩, ⟨⟨⟨_, rfl, ?_⟩, (by show 2 < 3; decide), ltrI _ _⟩, ⟨⟨_, rfl, rfl⟩, (by show 1 < 3; decide), by simp [AV.ltr]⟩, ⟨⟨_, rfl, rfl⟩, (by show 0 < 3; decide), by simp [AV.ltr]⟩, trivial⟩, rfl, by decide⟩
      · show AV.int _ _ = AV.int _ _
        congr 1
        show fsL xs xs.length + (t : Int) + 1 = _
        omega
      · rw [← rn_rows (rowsP _), List.map_append]; rfl
  · have ht3 : t = nL xs := by omega
    subst ht3
    have mb := vL_b hG (nL xs)
    have hl200 : (lG (nL xs) (gL xs)).length ≤ 200 := by rw [hll]; omega
    have hl0 : 0 < (lG (nL xs) (gL xs)).length := by rw [hll]; omega
    by_cases hk2 : mkOK (fsL xs xs.length) (scO (lG (nL xs) (gL xs)))
    · have c5 := con53_Y true (fsL xs xs.length) (lG (nL xs) (gL xs)) hl0 hl200 mb (by decide) (by decide) (by omega) (by omega) hk2
      obtain ⟨rfl, rfl, rfl⟩ := hend.1 ⟨hG, hk2⟩
      unfold mYes at c5
      repeat (first | refine wG_call1 c5 (ag_int rfl (ag_sl rfl rfl hll.symm iRow_plain ag_nil)) rfl ?_ | (first
    | refine wC_a rfl ?_
    | refine q_s rfl ?_
    | refine q_b rfl ?_
    | refine wG_nil ?_
    | refine wG_g rfl ?_
    | refine wG_pure (o_len_vwm rfl) ?_
    | refine wG_pure (o_not_d rfl) ?_
    | refine wG_p rfl (by first | exact rfl | omega) ?_
    | refine wG_pure (o_str2 rfl rfl rfl) ?_
    | refine wG_pure (e_istr rfl rfl (by omega)) ?_
    | refine wG_pure (e_istr0 rfl rfl (by omega)) ?_
    | refine wG_pure (o_not rfl) ?_
    | refine wG_pure (e_ia_vw0 rfl rfl (by omega) rfl) ?_
    | refine wG_pure (e_ia_vwp rfl rfl (by omega) rfl) ?_
    | refine wG_pure (e_ia_vwm rfl rfl (by omega) (by omega) rfl) ?_
    | refine wG_pure (e_ia_vwi rfl rfl (by omega) rfl) ?_
    | refine wG_pure (e_ia_vwn rfl rfl (by omega) (by omega) rfl) ?_
    | refine wG_n rfl rfl ?_
    | refine wG_u rfl rfl ?_
    | refine wG_new (o_mks rfl rfl (by omega) (by decide)) ?_))
      exact ret_db (.inr rfl) rfl (retV_ldt rfl rfl rfl rfl rfl) (retV_mv rfl) rfl
    · have c5 := con53_N true (fsL xs xs.length) (lG (nL xs) (gL xs)) hl0 hl200 mb (by decide) (by decide) (by omega) (by omega) hk2
      obtain ⟨rfl, rfl, rfl⟩ := hend.2 (fun h => hk2 h.2)
      unfold mNo at c5
      repeat (first | refine wG_call c5 (ag_int rfl (ag_sl rfl rfl hll.symm iRow_plain ag_nil)) rfl ?_ | (first
    | refine wC_a rfl ?_
    | refine q_s rfl ?_
    | refine q_b rfl ?_
    | refine wG_nil ?_
    | refine wG_g rfl ?_
    | refine wG_pure (o_len_vwm rfl) ?_
    | refine wG_pure (o_not_d rfl) ?_
    | refine wG_p rfl (by first | exact rfl | omega) ?_
    | refine wG_pure (o_str2 rfl rfl rfl) ?_
    | refine wG_pure (e_istr rfl rfl (by omega)) ?_
    | refine wG_pure (e_istr0 rfl rfl (by omega)) ?_
    | refine wG_pure (o_not rfl) ?_
    | refine wG_pure (e_ia_vw0 rfl rfl (by omega) rfl) ?_
    | refine wG_pure (e_ia_vwp rfl rfl (by omega) rfl) ?_
    | refine wG_pure (e_ia_vwm rfl rfl (by omega) (by omega) rfl) ?_
    | refine wG_pure (e_ia_vwi rfl rfl (by omega) rfl) ?_
    | refine wG_pure (e_ia_vwn rfl rfl (by omega) (by omega) rfl) ?_
    | refine wG_n rfl rfl ?_
    | refine wG_u rfl rfl ?_
    | refine wG_new (o_mks rfl rfl (by omega) (by decide)) ?_))
      exact ret_d0 (.inr rfl) rfl (retV_ldt rfl rfl rfl rfl rfl) (retV_mv rfl)
end Go.Proofs.Ytnohaclnpbpjbaa.Dst
