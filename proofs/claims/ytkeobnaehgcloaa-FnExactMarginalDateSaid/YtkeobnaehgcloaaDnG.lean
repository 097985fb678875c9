/- The datings by number: years as digits; the recursion visits them in this order. -/
import Derived.Test.YtkeobnaehgcloaaDnF
namespace Go.Proofs.Ytkeobnaehgcloaa.Dst
open Go Go.Proofs.Ytkeobnaehgcloaa.Ab Go.Proofs.Ytkeobnaehgcloaa.Il Go.Proofs.Ytkeobnaehgcloaa.Rec
attribute [local irreducible] wpO wpC wpDr wpQ wpG wpE stepA seqQ blkQ Ret RetG ev
set_option maxRecDepth 10000
set_option maxHeartbeats 8000000
set_option linter.unusedSimpArgs false
set_option linter.unusedVariables false

def ac67 : AC := (.seq (.reg [⟨(some 1), none, (.box 3 true (.t 0))⟩, ⟨(some 2), none, (.mv (.c (.int .i64 0)))⟩]) (.seq (.reg [⟨(some 3), none, (.mv (.c (.int .i64 1)))⟩]) (.seq (.seq (.reg [⟨(some 4), none, (.mv (.c (.int .i64 0)))⟩]) (.blk 0 (.loop (.seq (.seq (.reg [⟨(some 5), none, (.mv (.t 4))⟩, ⟨(some 6), none, (.fa 2 (.t 1))⟩, ⟨(some 7), none, (.ld false 1 (.t 6))⟩, ⟨(some 8), none, (.len (.t 7))⟩, ⟨(some 9), none, (.bin .lss (.t 5) (.t 8))⟩]) (.cond (.t 9) .skip (.exit 0))) (.seq (.blk 1 (.reg [⟨(some 12), none, (.mv (.t 3))⟩, ⟨(some 13), none, (.fa 2 (.t 1))⟩, ⟨(some 14), none, (.ld false 1 (.t 13))⟩, ⟨(some 15), none, (.mv (.t 4))⟩, ⟨(some 16), none, (.ia 2 (.t 14) (.t 15))⟩, ⟨(some 17), none, (.fa 1 (.t 16))⟩, ⟨(some 18), none, (.ld false 1 (.t 17))⟩, ⟨(some 19), none, (.len (.t 18))⟩, ⟨(some 20), none, (.bin .mul (.t 12) (.t 19))⟩, ⟨(some 3), none, (.mv (.t 20))⟩])) (.reg [⟨(some 10), none, (.mv (.t 4))⟩, ⟨(some 11), none, (.bin .add (.t 10) (.c (.int .i64 1)))⟩, ⟨(some 4), none, (.mv (.t 11))⟩])))))) (.seq (.reg [⟨(some 21), none, (.mv (.t 3))⟩, ⟨(some 2), none, (.mv (.t 21))⟩]) .ret))))
def ro67 : List AOp := [(.mv (.t 2))]
theorem fun67 : Fun Try.prog 67 22 ac67 ro67 := ⟨Try.f67, _, Try.func67, by kernel_rfl, rfl, rfl, by kernel_rfl, by kernel_rfl, by decide⟩
def ac68 : AC := (.seq (.reg [⟨(some 2), none, (.box 3 true (.t 0))⟩, ⟨(some 4), none, (.mv (.c .nilS))⟩]) (.seq (.reg [⟨(some 8), none, (.fa 2 (.t 2))⟩, ⟨(some 9), none, (.ld false 1 (.t 8))⟩, ⟨(some 10), none, (.len (.t 9))⟩, ⟨(some 11), none, (.mks 1 8 [(.int .i64 0)] (.t 10) (.t 10))⟩, ⟨(some 5), none, (.mv (.t 11))⟩]) (.seq (.seq (.reg [⟨(some 12), none, (.fa 2 (.t 2))⟩, ⟨(some 13), none, (.ld false 1 (.t 12))⟩, ⟨(some 14), none, (.len (.t 13))⟩, ⟨(some 15), none, (.bin .sub (.t 14) (.c (.int .i64 1)))⟩, ⟨(some 6), none, (.mv (.t 15))⟩]) (.blk 0 (.loop (.seq (.seq (.reg [⟨(some 16), none, (.mv (.t 6))⟩, ⟨(some 17), none, (.bin .geq (.t 16) (.c (.int .i64 0)))⟩]) (.cond (.t 17) .skip (.exit 0))) (.seq (.blk 1 (.seq (.reg [⟨(some 20), none, (.fa 2 (.t 2))⟩, ⟨(some 21), none, (.ld false 1 (.t 20))⟩, ⟨(some 22), none, (.mv (.t 6))⟩, ⟨(some 23), none, (.ia 2 (.t 21) (.t 22))⟩, ⟨(some 24), none, (.fa 1 (.t 23))⟩, ⟨(some 25), none, (.ld false 1 (.t 24))⟩, ⟨(some 26), none, (.len (.t 25))⟩, ⟨(some 7), none, (.mv (.t 26))⟩]) (.seq (.dreg [⟨(some 27), none, (.mv (.t 5))⟩, ⟨(some 28), none, (.mv (.t 6))⟩, ⟨(some 29), none, (.fa 2 (.t 2))⟩, ⟨(some 30), none, (.ld false 1 (.t 29))⟩, ⟨(some 31), none, (.mv (.t 6))⟩, ⟨(some 32), none, (.ia 2 (.t 30) (.t 31))⟩, ⟨(some 33), none, (.fa 0 (.t 32))⟩, ⟨(some 34), none, (.ld false 1 (.t 33))⟩, ⟨(some 35), none, (.mv (.t 1))⟩, ⟨(some 36), none, (.mv (.t 7))⟩, ⟨(some 37), none, (.bin .rem (.t 35) (.t 36))⟩, ⟨(some 38), none, (.bin .add (.t 34) (.t 37))⟩, ⟨(some 39), none, (.ia 1 (.t 27) (.t 28))⟩, ⟨none, none, (.st 1 (.t 39) (.t 38))⟩] [[], [], [], [2], [], [2, 3, 4], [2, 3, 4, 5], [2, 3, 4, 5, 6], [], [], [8, 9], [2, 3, 4, 5, 6, 7, 8, 9, 10], [0, 1, 2, 3, 4, 5, 6, 7, 8, 9, 10, 11], [0, 1, 2, 3, 4, 5, 6, 7, 8, 9, 10, 11, 12]]) (.reg [⟨(some 40), none, (.mv (.t 1))⟩, ⟨(some 41), none, (.mv (.t 7))⟩, ⟨(some 42), none, (.bin .quo (.t 40) (.t 41))⟩, ⟨(some 1), none, (.mv (.t 42))⟩])))) (.reg [⟨(some 18), none, (.mv (.t 6))⟩, ⟨(some 19), none, (.bin .sub (.t 18) (.c (.int .i64 1)))⟩, ⟨(some 6), none, (.mv (.t 19))⟩])))))) (.seq (.reg [⟨(some 43), none, (.mv (.t 5))⟩, ⟨(some 4), none, (.mv (.t 43))⟩]) .ret))))
def ro68 : List AOp := [(.mv (.t 4))]
theorem fun68 : Fun Try.prog 68 44 ac68 ro68 := ⟨Try.f68, _, Try.func68, by kernel_rfl, rfl, rfl, by kernel_rfl, by kernel_rfl, by decide⟩

/-! ### Folds -/
def fd {S : Type} (g : Nat → S → S) : Nat → S → S
  | 0, s => s
  | m + 1, s => g m (fd g m s)
theorem fd_congr {S : Type} {g h : Nat → S → S} : ∀ n, (∀ m, m < n → ∀ s, g m s = h m s) → ∀ s, fd g n s = fd h n s
  | 0, _, s => rfl
  | n + 1, H, s => by rw [fd, fd, fd_congr n (fun m hm => H m (by omega)) s, H n (by omega)]
theorem fd_id {S : Type} {g : Nat → S → S} : ∀ n, (∀ m, m < n → ∀ s, g m s = s) → ∀ s, fd g n s = s
  | 0, _, s => rfl
  | n + 1, H, s => by rw [fd, fd_id n (fun m hm => H m (by omega)) s, H n (by omega)]
theorem fd_add {S : Type} (g : Nat → S → S) (a : Nat) : ∀ b s, fd g (a + b) s = fd (fun m => g (a + m)) b (fd g a s)
  | 0, s => rfl
  | b + 1, s => by
    show g (a + b) (fd g (a + b) s) = g (a + b) (fd _ b _)
    rw [fd_add g a b s]
theorem fd_mul {S : Type} (g : Nat → S → S) (b : Nat) : ∀ a s, fd g (a * b) s = fd (fun k => fd (fun m => g (k * b + m)) b) a s
  | 0, s => by rw [Nat.zero_mul]; rfl
  | a + 1, s => by
    rw [Nat.succ_mul, fd_add, fd_mul g b a s]; rfl

/-! ### Years as digits -/
def ln (xs : List Dn) (j : Nat) : Nat := (xs.getD j default).d.ws.length
def cp (xs : List Dn) : Nat → Nat
  | 0 => 1
  | d + 1 => ln xs (xs.length - (d + 1)) * cp xs d
def yr (xs : List Dn) (m j : Nat) : Int := (xs.getD j default).d.f + ((m / cp xs (xs.length - (j + 1)) % ln xs j : Nat) : Int)
def yrs (xs : List Dn) (m : Nat) : List Int := (List.range xs.length).map (yr xs m)
def Yv (xs : List Dn) (i : Nat) (ys : List Int) (m : Nat) : List Int := (List.range xs.length).map fun j => if j < i then ys.getD j default else yr xs m j
theorem yrs_len (xs : List Dn) (m : Nat) : (yrs xs m).length = xs.length := by simp [yrs]
theorem Yv_len (xs : List Dn) (i : Nat) (ys : List Int) (m : Nat) : (Yv xs i ys m).length = xs.length := by simp [Yv]
theorem rg_getD {f : Nat → Int} {n j : Nat} (h : j < n) : ((List.range n).map f).getD j default = f j := by
  simp [List.getD_eq_getElem?_getD, List.getElem?_map, List.getElem?_range h]
theorem Yv_0 (xs : List Dn) (ys : List Int) (m : Nat) : Yv xs 0 ys m = yrs xs m := List.map_congr_left fun j _ => by simp
theorem cp_pos {xs : List Dn} (hp : ∀ j, j < xs.length → 0 < ln xs j) : ∀ d, d ≤ xs.length → 0 < cp xs d
  | 0, _ => Nat.one_pos
  | d + 1, h => Nat.mul_pos (hp _ (by omega)) (cp_pos hp d (by omega))
theorem cp_dvd {xs : List Dn} {e : Nat} : ∀ d, e < d → ∃ Q, cp xs d = Q * (ln xs (xs.length - (e + 1)) * cp xs e)
  | 0, h => absurd h (Nat.not_lt_zero _)
  | d + 1, h => by
    by_cases g : e = d
    · subst g
      exact ⟨1, by rw [Nat.one_mul]; rfl⟩
    · obtain ⟨Q, hQ⟩ := cp_dvd d (show e < d by omega)
      exact ⟨ln xs (xs.length - (d + 1)) * Q, by rw [cp, hQ, Nat.mul_assoc]⟩
theorem yr_add {xs : List Dn} (hp : ∀ j, j < xs.length → 0 < ln xs j) {d i j k m : Nat} (hid : i + (d + 1) = xs.length) (hj : i < j) (hj2 : j < xs.length) : yr xs (k * cp xs d + m) j = yr xs m j := by
  obtain ⟨Q, hQ⟩ := cp_dvd (xs := xs) (e := xs.length - (j + 1)) d (by omega)
  have hc := cp_pos hp (xs.length - (j + 1)) (by omega)
  have e1 : xs.length - (xs.length - (j + 1) + 1) = j := by omega
  rw [e1] at hQ
  unfold yr
  generalize cp xs (xs.length - (j + 1)) = c at *
  have e2 : k * cp xs d + m = (k * Q * ln xs j) * c + m := by rw [hQ]; simp only [Nat.mul_assoc]
  rw [e2, Nat.add_comm, Nat.add_mul_div_right _ _ hc, Nat.add_mul_mod_self_right]
theorem yr_at {xs : List Dn} (hp : ∀ j, j < xs.length → 0 < ln xs j) {d i k m : Nat} (hid : i + (d + 1) = xs.length) (hk : k < ln xs i) (hm : m < cp xs d) : yr xs (k * cp xs d + m) i = (xs.getD i default).d.f + k := by
  have hc := cp_pos hp d (by omega)
  unfold yr
  rw [show xs.length - (i + 1) = d by omega, Nat.add_comm, Nat.add_mul_div_right _ _ hc, Nat.div_eq_of_lt hm, Nat.zero_add, Nat.mod_eq_of_lt hk]
section
variable {σ : Type} {step : σ → List Int → Int → σ} {wt : List Int → Int} {xs : List Dn}
def Fs (step : σ → List Int → Int → σ) (wt : List Int → Int) (ys : List Int) (s : σ) : σ := if wt ys > 0 then step s ys (wt ys) else s
theorem exS_fd (hp : ∀ j, j < xs.length → 0 < ln xs j) (hw0 : ∀ j k, j < xs.length → k < ln xs j → ¬ pk0 xs j k → ∀ ys : List Int, ys.length = xs.length → ys.getD j default = (xs.getD j default).d.f + k → ¬ wt ys > 0) :
    ∀ (d i : Nat) (ys : List Int) (s : σ), i + d = xs.length → ys.length = xs.length → (exS step wt xs d i (ys, s)).2 = fd (fun m => Fs step wt (Yv xs i ys m)) (cp xs d) s ∧ (exS step wt xs d i (ys, s)).1.length = xs.length ∧ ∀ j, j < i → (exS step wt xs d i (ys, s)).1.getD j default = ys.getD j default
  | 0, i, ys, s, hid, hl => by
    refine ⟨?_, hl, fun j _ => rfl⟩
    have hY : Yv xs i ys 0 = ys := by
      refine List.ext_getElem (by rw [Yv_len, hl]) fun j h1 h2 => ?_
      simp only [Yv, List.getElem_map, List.getElem_range]
      rw [if_pos (by omega), List.getD_eq_getElem?_getD, List.getElem?_eq_getElem h2]; rfl
    show (if wt ys > 0 then step s ys (wt ys) else s) = Fs step wt (Yv xs i ys 0) s
    rw [hY]; rfl
  | d + 1, i, ys, s, hid, hl => by
    have IH := exS_fd hp hw0 d (i + 1)
    have hi : i < xs.length := by omega
    have key : ∀ k, k ≤ ln xs i → (kF (pk0 xs i) (fun k t => exS step wt xs d (i + 1) (t.1.set i ((xs.getD i default).d.f + k), t.2)) k (ys, s)).2 = fd (fun k => fd (fun m => Fs step wt (Yv xs i ys (k * cp xs d + m))) (cp xs d)) k s ∧ (kF (pk0 xs i) (fun k t => exS step wt xs d (i + 1) (t.1.set i ((xs.getD i default).d.f + k), t.2)) k (ys, s)).1.length = xs.length ∧ ∀ j, j < i → (kF (pk0 xs i) (fun k t => exS step wt xs d (i + 1) (t.1.set i ((xs.getD i default).d.f + k), t.2)) k (ys, s)).1.getD j default = ys.getD j default := by
      intro k
      induction k with
      | zero => intro _; exact ⟨rfl, hl, fun _ _ => rfl⟩
      | succ k ih =>
        intro hk
        obtain ⟨i1, i2, i3⟩ := ih (by omega)
        rw [kF]
        generalize kF (pk0 xs i) (fun k t => exS step wt xs d (i + 1) (t.1.set i ((xs.getD i default).d.f + k), t.2)) k (ys, s) = t at *
        by_cases hpk : pk0 xs i k
        · rw [if_pos hpk]
          obtain ⟨q1, q2, q3⟩ := IH (t.1.set i ((xs.getD i default).d.f + k)) t.2 (by omega) (by simpa using i2)
          refine ⟨?_, q2, fun j hj => ?_⟩
          · rw [q1, fd, ← i1]
            refine fd_congr _ (fun m hm s' => ?_) _
            congr 1
            refine List.map_congr_left fun j hj => ?_
            have hj2 := List.mem_range.1 hj
            rcases Nat.lt_trichotomy j i with g | g | g
            · rw [if_pos (by omega), if_pos g, ← i3 j g]
              simp only [List.getD_eq_getElem?_getD]
              rw [List.getElem?_set_ne (by omega)]
            · subst g
              rw [if_pos (by omega), if_neg (by omega), yr_at hp hid (by omega) hm]
              simp only [List.getD_eq_getElem?_getD]
              rw [List.getElem?_set_self (by omega)]; rfl
            · rw [if_neg (by omega), if_neg (by omega), yr_add hp hid g hj2]
          · rw [q3 j (by omega), ← i3 j hj]
            simp only [List.getD_eq_getElem?_getD]
            rw [List.getElem?_set_ne (by omega)]
        · rw [if_neg hpk]
          refine ⟨?_, i2, i3⟩
          rw [fd, ← i1]
          refine (fd_id _ (fun m hm s' => ?_) _).symm
          unfold Fs
          rw [if_neg]
          refine hw0 i k hi (by omega) hpk _ (Yv_len _ _ _ _) ?_
          rw [Yv, rg_getD hi, if_neg (by omega), yr_at hp hid (by omega) hm]
    obtain ⟨k1, k2, k3⟩ := key (ln xs i) (Nat.le_refl _)
    refine ⟨?_, k2, k3⟩
    rw [show cp xs (d + 1) = ln xs i * cp xs d by rw [cp, show xs.length - (d + 1) = i by omega], fd_mul]
    exact k1
end
theorem prd_zero {xs : List Dn} {ys : List Int} {j : Nat} (h : atY (xs.getD j default).d (ys.getD j default) = 0) : ∀ i, j < i → prd xs ys i = 0
  | 0, hj => absurd hj (Nat.not_lt_zero _)
  | i + 1, hj => by
    rw [prd]
    by_cases e : j = i
    · subst e; rw [h, Int.mul_zero]
    · rw [prd_zero h i (by omega), Int.zero_mul]
theorem atY_f {d : Ds} {k : Nat} (h : k < d.ws.length) : atY d (d.f + k) = d.ws.getD k default := by
  unfold atY
  rw [if_pos (show inD d (d.f + k) from ⟨by omega, by omega⟩), show (d.f + (k : Int) - d.f).toNat = k by omega]
theorem wt_zero {r : Rc} {xs : List Dn} (hG : GoodN r xs) : ∀ j k, j < xs.length → k < ln xs j → ¬ pk0 xs j k → ∀ ys : List Int, ys.length = xs.length → ys.getD j default = (xs.getD j default).d.f + k → ¬ wtI r xs ys > 0 := by
  classical
  intro j k hj hk hpk ys hl he hc
  have gD := (hG.2.2 j hj).1
  have h0 : atY (xs.getD j default).d (ys.getD j default) = 0 := by
    rw [he, atY_f hk]
    have := (gD.2.2.2.1 k hk).1
    unfold pk0 wk at hpk
    omega
  have h1 := prd_zero h0 ys.length (by omega)
  unfold wtI at hc
  split at hc
  · omega
  · omega
theorem ln_pos {r : Rc} {xs : List Dn} (hG : GoodN r xs) : ∀ j, j < xs.length → 0 < ln xs j := fun j hj => by
  have := (hG.2.2 j hj).1.1.1
  unfold ln; omega
/-- All that the implementation visits: the datings by number. -/
theorem each_fd {σ : Type} {step : σ → List Int → Int → σ} {r : Rc} {xs : List Dn} (hG : GoodN r xs) (s : σ) : (exS step (wtI r xs) xs xs.length 0 (List.replicate xs.length 0, s)).2 = fd (fun m => Fs step (wtI r xs) (yrs xs m)) (cp xs xs.length) s := by
  have := (exS_fd (step := step) (wt := wtI r xs) (ln_pos hG) (wt_zero hG) xs.length 0 (List.replicate xs.length 0) s (by omega) (by simp)).1
  rw [this]
  exact fd_congr _ (fun m _ s' => by rw [Yv_0]) _
theorem mny_cp {xs : List Dn} : ∀ i, i ≤ xs.length → mny xs i * ((cp xs (xs.length - i) : Nat) : Int) = ((cp xs xs.length : Nat) : Int)
  | 0, _ => by simp [mny]
  | i + 1, h => by
    have ih := mny_cp (xs := xs) i (by omega)
    rw [show xs.length - i = (xs.length - (i + 1)) + 1 by omega, cp, show xs.length - (xs.length - (i + 1) + 1) = i by omega] at ih
    rw [mny, ← ih, Int.natCast_mul, Int.mul_assoc]; rfl
theorem mny_all {xs : List Dn} : mny xs xs.length = ((cp xs xs.length : Nat) : Int) := by
  have := mny_cp (xs := xs) xs.length (Nat.le_refl _)
  rw [Nat.sub_self] at this
  simpa [cp] using this
theorem cp_b {r : Rc} {xs : List Dn} (hG : GoodN r xs) : cp xs xs.length ≤ 5000 := by
  have := (okN_b (xs := xs) xs.length hG.2.2).1.2
  rw [mny_all] at this
  omega
theorem con67 (a b c : Bool) (r : Rc) (xs : List Dn) (hG : GoodN r xs) : Con Try.prog 67 true [.agg (dtR a b c r xs)] (.int .i64 ((cp xs xs.length : Nat) : Int)) [] := by
  refine con_of_wp mixed fun67 (by simp) [] plain_nil ?_
  unfold ac67 ro67
  simp only [zipT]
  rw [← mny_all]
  have h10 := hG.1.1
  have hn := hG.2.1
  repeat (first
    | refine wC_a rfl ?_
    | refine q_s rfl ?_
    | refine q_b rfl ?_
    | refine wG_nil ?_
    | refine wG_g rfl ?_
    | refine wG_pure (o_len_vwm rfl) ?_
    | refine wG_pure (o_not_d rfl) ?_
    | refine wG_p rfl (by first | exact rfl | omega) ?_
    | refine wG_pure (o_str2 rfl rfl rfl) ?_
    | refine wG_pure (e_istr rfl rfl (by omega)) ?_
    | refine wG_pure (e_istr0 rfl rfl (by omega)) ?_
    | refine wG_pure (o_not rfl) ?_
    | refine wG_pure (e_ia_vw0 rfl rfl (by omega) rfl) ?_
    | refine wG_pure (e_ia_vwp rfl rfl (by omega) rfl) ?_
    | refine wG_pure (e_ia_vwm rfl rfl (by omega) (by omega) rfl) ?_
    | refine wG_pure (e_ia_vwi rfl rfl (by omega) rfl) ?_
    | refine wG_pure (e_ia_vwn rfl rfl (by omega) (by omega) rfl) ?_
    | refine wG_n rfl rfl ?_
    | refine wG_u rfl rfl ?_
    | refine wG_new (o_mks rfl rfl (by omega) (by decide)) ?_)
  refine wC_loop Nat (fun i => ⟨[(1, .pt 0 0 0), (3, .int .i64 (mny xs i)), (4, .int .i64 (i : Int))], [(0, some [dtR a b c r xs])], 1⟩) (fun i => i ≤ xs.length) (fun i => xs.length - i) 0 (Nat.zero_le _) ?_ (fun _ _ => Nat.zero_le _) ?_
  · exact ⟨⟨⟨rfl, rfl⟩, ⟨rfl, rfl⟩, ⟨rfl, rfl⟩, trivial⟩, ⟨rfl, by show 0 < 1; decide, by simp [dtR, AV.ltr]⟩, trivial⟩
  intro i hi
  repeat (first
    | refine wC_a rfl ?_
    | refine q_s rfl ?_
    | refine q_b rfl ?_
    | refine wG_nil ?_
    | refine wG_g rfl ?_
    | refine wG_pure (o_len_vwm rfl) ?_
    | refine wG_pure (o_not_d rfl) ?_
    | refine wG_p rfl (by first | exact rfl | omega) ?_
    | refine wG_pure (o_str2 rfl rfl rfl) ?_
    | refine wG_pure (e_istr rfl rfl (by omega)) ?_
    | refine wG_pure (e_istr0 rfl rfl (by omega)) ?_
    | refine wG_pure (o_not rfl) ?_
    | refine wG_pure (e_ia_vw0 rfl rfl (by omega) rfl) ?_
    | refine wG_pure (e_ia_vwp rfl rfl (by omega) rfl) ?_
    | refine wG_pure (e_ia_vwm rfl rfl (by omega) (by omega) rfl) ?_
    | refine wG_pure (e_ia_vwi rfl rfl (by omega) rfl) ?_
    | refine wG_pure (e_ia_vwn rfl rfl (by omega) (by omega) rfl) ?_
    | refine wG_n rfl rfl ?_
    | refine wG_u rfl rfl ?_
    | refine wG_new (o_mks rfl rfl (by omega) (by decide)) ?_)
  refine wC_cond_d rfl (fun h5 => ?_) (fun h5 => ?_)
  · have hi2 : i < xs.length := by omega
    obtain ⟨⟨m1, m2⟩, m3, m4⟩ := okN_b (xs := xs) (i + 1) (fun j hj => hG.2.2 j (by omega))
    rw [mny] at m1 m2
    repeat (first
    | refine wC_a rfl ?_
    | refine q_s rfl ?_
    | refine q_b rfl ?_
    | refine wG_nil ?_
    | refine wG_g rfl ?_
    | refine wG_pure (o_len_vwm rfl) ?_
    | refine wG_pure (o_not_d rfl) ?_
    | refine wG_p rfl (by first | exact rfl | omega) ?_
    | refine wG_pure (o_str2 rfl rfl rfl) ?_
    | refine wG_pure (e_istr rfl rfl (by omega)) ?_
    | refine wG_pure (e_istr0 rfl rfl (by omega)) ?_
    | refine wG_pure (o_not rfl) ?_
    | refine wG_pure (e_ia_vw0 rfl rfl (by omega) rfl) ?_
    | refine wG_pure (e_ia_vwp rfl rfl (by omega) rfl) ?_
    | refine wG_pure (e_ia_vwm rfl rfl (by omega) (by omega) rfl) ?_
    | refine wG_pure (e_ia_vwi rfl rfl (by omega) rfl) ?_
    | refine wG_pure (e_ia_vwn rfl rfl (by omega) (by omega) rfl) ?_
    | refine wG_n rfl rfl ?_
    | refine wG_u rfl rfl ?_
    | refine wG_new (o_mks rfl rfl (by omega) (by decide)) ?_)
    exact ⟨i + 1, hi2, by omega, ⟨⟨rfl, rfl⟩, ⟨rfl, rfl⟩, ⟨rfl, rfl⟩, trivial⟩, ⟨rfl, by show 0 < 1; decide, by simp [dtR, AV.ltr]⟩, trivial⟩
  · have hi3 : i = xs.length := by omega
    subst hi3
    repeat (first
    | refine wC_a rfl ?_
    | refine q_s rfl ?_
    | refine q_b rfl ?_
    | refine wG_nil ?_
    | refine wG_g rfl ?_
    | refine wG_pure (o_len_vwm rfl) ?_
    | refine wG_pure (o_not_d rfl) ?_
    | refine wG_p rfl (by first | exact rfl | omega) ?_
    | refine wG_pure (o_str2 rfl rfl rfl) ?_
    | refine wG_pure (e_istr rfl rfl (by omega)) ?_
    | refine wG_pure (e_istr0 rfl rfl (by omega)) ?_
    | refine wG_pure (o_not rfl) ?_
    | refine wG_pure (e_ia_vw0 rfl rfl (by omega) rfl) ?_
    | refine wG_pure (e_ia_vwp rfl rfl (by omega) rfl) ?_
    | refine wG_pure (e_ia_vwm rfl rfl (by omega) (by omega) rfl) ?_
    | refine wG_pure (e_ia_vwi rfl rfl (by omega) rfl) ?_
    | refine wG_pure (e_ia_vwn rfl rfl (by omega) (by omega) rfl) ?_
    | refine wG_n rfl rfl ?_
    | refine wG_u rfl rfl ?_
    | refine wG_new (o_mks rfl rfl (by omega) (by decide)) ?_)
    exact ret_intE (.inr rfl) ⟨_, retV_mv rfl, rfl⟩
def yP (xs : List Dn) (m u : Nat) : List Int := (List.range xs.length).map fun j => if j < u then 0 else yr xs m j
theorem yP_get {xs : List Dn} {m u j : Nat} (h : j < xs.length) : ((yP xs m u).map iRow)[j]? = some (iRow (if j < u then 0 else yr xs m j)) := by
  rw [yP, List.map_map]; exact gRange h
theorem yP_set {xs : List Dn} {m u : Nat} (h : u < xs.length) : ((yP xs m (u + 1)).map iRow).set u (iRow (yr xs m u)) = (yP xs m u).map iRow := by
  rw [← List.map_set]
  congr 1
  refine List.ext_getElem (by simp [yP]) fun j h1 h2 => ?_
  rw [List.getElem_set]
  simp only [yP, List.getElem_map, List.getElem_range]
  by_cases e : u = j
  · subst e; rw [if_pos rfl, if_neg (Nat.lt_irrefl _)]
  · rw [if_neg e]
    by_cases g : j < u
    · rw [if_pos g, if_pos (by omega)]
    · rw [if_neg g, if_neg (by omega)]
theorem yP_0 (xs : List Dn) (m : Nat) : yP xs m 0 = yrs xs m := List.map_congr_left fun j _ => by simp
theorem yP_n (xs : List Dn) (m : Nat) : (yP xs m xs.length).map iRow = List.replicate xs.length [AV.int .i64 0] := by
  refine List.ext_getElem (by simp [yP]) fun j h1 h2 => ?_
  simp only [yP, List.getElem_map, List.getElem_range, List.getElem_replicate]
  have : j < xs.length := by simpa using h2
  rw [if_pos this]; rfl
theorem con68 (a b c : Bool) (r : Rc) (xs : List Dn) (hG : GoodN r xs) (m : Nat) (hm : m ≤ 1048576) : Con Try.prog 68 true [.agg (dtR a b c r xs), .int .i64 (m : Int)] (.sl 0 1 0 xs.length) [(yrs xs m).map iRow] := by
  refine con_of_wp mixed fun68 (by simp) [1] (plain_map iRow_plain _) ?_
  unfold ac68 ro68
  simp only [zipT]
  have h10 := hG.1.1
  have hn := hG.2.1
  have e0 : ∀ n : Nat, 0 + ((n : Int)).toNat = n := fun n => by simp
  repeat (first | refine wG_new (o_mks rfl rfl (by omega) (by decide)) ?_ | (first
    | refine wC_a rfl ?_
    | refine q_s rfl ?_
    | refine q_b rfl ?_
    | refine wG_nil ?_
    | refine wG_g rfl ?_
    | refine wG_pure (o_len_vwm rfl) ?_
    | refine wG_pure (o_not_d rfl) ?_
    | refine wG_p rfl (by first | exact rfl | omega) ?_
    | refine wG_pure (o_str2 rfl rfl rfl) ?_
    | refine wG_pure (e_istr rfl rfl (by omega)) ?_
    | refine wG_pure (e_istr0 rfl rfl (by omega)) ?_
    | refine wG_pure (o_not rfl) ?_
    | refine wG_pure (e_ia_vw0 rfl rfl (by omega) rfl) ?_
    | refine wG_pure (e_ia_vwp rfl rfl (by omega) rfl) ?_
    | refine wG_pure (e_ia_vwm rfl rfl (by omega) (by omega) rfl) ?_
    | refine wG_pure (e_ia_vwi rfl rfl (by omega) rfl) ?_
    | refine wG_pure (e_ia_vwn rfl rfl (by omega) (by omega) rfl) ?_
    | refine wG_n rfl rfl ?_
    | refine wG_u rfl rfl ?_
    | refine wG_new (o_mks rfl rfl (by omega) (by decide)) ?_))
  refine wC_loop Nat (fun u => ⟨[(1, .int .i64 ((m / cp xs (xs.length - u) : Nat) : Int)), (2, .pt 0 0 0), (5, .sl 1 1 0 xs.length), (6, .int .i64 ((u : Int) - 1))], [(1, some ((yP xs m u).map iRow)), (0, some [dtR a b c r xs])], 2⟩) (fun u => u ≤ xs.length) (fun u => u) xs.length (Nat.le_refl _) ?_ (fun _ _ => Nat.zero_le _) ?_
  · refine ⟨⟨⟨?_, rfl⟩, ⟨rfl, rfl⟩, ⟨rfl, rfl⟩, ⟨rfl, rfl⟩, trivial⟩, ⟨?_, by show 1 < 2; decide, ltrI _ _⟩, ⟨rfl, by show 0 < 2; decide, by simp [dtR, AV.ltr]⟩, trivial⟩
    · show AV.int _ _ = AV.int _ _
      rw [Nat.sub_self]
      simp [cp]
    · rw [yP_n]; rfl
  intro u hu
  repeat (first
    | refine wC_a rfl ?_
    | refine q_s rfl ?_
    | refine q_b rfl ?_
    | refine wG_nil ?_
    | refine wG_g rfl ?_
    | refine wG_pure (o_len_vwm rfl) ?_
    | refine wG_pure (o_not_d rfl) ?_
    | refine wG_p rfl (by first | exact rfl | omega) ?_
    | refine wG_pure (o_str2 rfl rfl rfl) ?_
    | refine wG_pure (e_istr rfl rfl (by omega)) ?_
    | refine wG_pure (e_istr0 rfl rfl (by omega)) ?_
    | refine wG_pure (o_not rfl) ?_
    | refine wG_pure (e_ia_vw0 rfl rfl (by omega) rfl) ?_
    | refine wG_pure (e_ia_vwp rfl rfl (by omega) rfl) ?_
    | refine wG_pure (e_ia_vwm rfl rfl (by omega) (by omega) rfl) ?_
    | refine wG_pure (e_ia_vwi rfl rfl (by omega) rfl) ?_
    | refine wG_pure (e_ia_vwn rfl rfl (by omega) (by omega) rfl) ?_
    | refine wG_n rfl rfl ?_
    | refine wG_u rfl rfl ?_
    | refine wG_new (o_mks rfl rfl (by omega) (by decide)) ?_)
  refine wC_cond_d rfl (fun h5 => ?_) (fun h5 => ?_)
  · obtain ⟨s, rfl⟩ : ∃ s, u = s + 1 := ⟨u - 1, by omega⟩
    have es : (((s + 1 : Nat)) : Int) - 1 = (s : Int) := by omega
    simp only [es]
    have hs2 : s < xs.length := by omega
    have gD := (hG.2.2 s hs2).1
    have hf := gD.2.1
    have hl1 := gD.1
    have hq : m / cp xs (xs.length - (s + 1)) ≤ 1048576 := Nat.le_trans (Nat.div_le_self _ _) hm
    have hmod : m / cp xs (xs.length - (s + 1)) % ln xs s < ln xs s := Nat.mod_lt _ (ln_pos hG s hs2)
    have hln : ln xs s = (xs.getD s default).d.ws.length := rfl
    have eq1 : (((m / cp xs (xs.length - (s + 1)) : Nat)) : Int).tmod (((xs.getD s default).d.ws.length : Nat) : Int) = ((m / cp xs (xs.length - (s + 1)) % ln xs s : Nat) : Int) := rfl
    have eq2 : (((m / cp xs (xs.length - (s + 1)) : Nat)) : Int).tdiv (((xs.getD s default).d.ws.length : Nat) : Int) = ((m / cp xs (xs.length - (s + 1)) / ln xs s : Nat) : Int) := rfl
    have hq2 : m / cp xs (xs.length - (s + 1)) / ln xs s ≤ 1048576 := Nat.le_trans (Nat.div_le_self _ _) hq
    have hdv : 0 ≤ (((m / cp xs (xs.length - (s + 1)) : Nat)) : Int).tdiv (((xs.getD s default).d.ws.length : Nat) : Int) ∧ (((m / cp xs (xs.length - (s + 1)) : Nat)) : Int).tdiv (((xs.getD s default).d.ws.length : Nat) : Int) ≤ 1048576 := by rw [eq2]; exact ⟨Int.natCast_nonneg _, Int.ofNat_le.2 hq2⟩
    have hgy := yP_get (m := m) (u := s + 1) hs2
    have hset := yP_set (m := m) hs2
    have hnx : m / cp xs (xs.length - s) = m / cp xs (xs.length - (s + 1)) / ln xs s := by
      rw [show xs.length - s = (xs.length - (s + 1)) + 1 by omega, cp, show xs.length - (xs.length - (s + 1) + 1) = s by omega, Nat.div_div_eq_div_mul, Nat.mul_comm]
    repeat (first | (refine wE_v (e_ia_sl rfl rfl (by omega) (by omega)) rfl ?_; simp only [e0]) | refine wE_upd (o_st1 rfl rfl hgy rfl rfl hset) rfl ?_ | (first
    | refine wC_a rfl ?_
    | refine q_s rfl ?_
    | refine q_b rfl ?_
    | refine wG_nil ?_
    | refine wG_g rfl ?_
    | refine wG_pure (o_len_vwm rfl) ?_
    | refine wG_pure (o_not_d rfl) ?_
    | refine wG_p rfl (by first | exact rfl | omega) ?_
    | refine wG_pure (o_str2 rfl rfl rfl) ?_
    | refine wG_pure (e_istr rfl rfl (by omega)) ?_
    | refine wG_pure (e_istr0 rfl rfl (by omega)) ?_
    | refine wG_pure (o_not rfl) ?_
    | refine wG_pure (e_ia_vw0 rfl rfl (by omega) rfl) ?_
    | refine wG_pure (e_ia_vwp rfl rfl (by omega) rfl) ?_
    | refine wG_pure (e_ia_vwm rfl rfl (by omega) (by omega) rfl) ?_
    | refine wG_pure (e_ia_vwi rfl rfl (by omega) rfl) ?_
    | refine wG_pure (e_ia_vwn rfl rfl (by omega) (by omega) rfl) ?_
    | refine wG_n rfl rfl ?_
    | refine wG_u rfl rfl ?_
    | refine wG_new (o_mks rfl rfl (by omega) (by decide)) ?_) | (first
    | refine wE_nil (by kernel_rfl) ?_
    | refine wE_gy rfl ?_
    | refine wE_gn rfl rfl rfl ?_
    | refine wE_gu rfl rfl ?_
    | refine wE_gnn rfl rfl rfl ?_
    | refine wE_v (o_len_vwm rfl) rfl ?_
    | refine wE_v (o_not_d rfl) rfl ?_
    | refine wE_p rfl (by first | exact rfl | omega) rfl ?_
    | refine wE_v (o_str2 rfl rfl rfl) rfl ?_
    | refine wE_v (e_istr rfl rfl (by omega)) rfl ?_
    | refine wE_v (e_istr0 rfl rfl (by omega)) rfl ?_
    | refine wE_v (o_not rfl) rfl ?_
    | refine wE_v (e_ia_vw0 rfl rfl (by omega) rfl) rfl ?_
    | refine wE_v (e_ia_vwp rfl rfl (by omega) rfl) rfl ?_
    | refine wE_v (e_ia_vwm rfl rfl (by omega) (by omega) rfl) rfl ?_
    | refine wE_v (e_ia_vwi rfl rfl (by omega) rfl) rfl ?_
    | refine wE_v (e_ia_vwn rfl rfl (by omega) (by omega) rfl) rfl ?_
    | refine wE_n rfl rfl rfl ?_
    | refine wE_u rfl rfl rfl ?_
    | refine wE_new (o_mks rfl rfl (by omega) (by decide)) rfl ?_) | refine wE_p rfl (by first | (rw [eq1]; omega) | (rw [eq2]; omega)) rfl ?_ | refine wG_p rfl (by first | (rw [eq1]; omega) | (rw [eq2]; omega)) ?_)
    refine ⟨s, by omega, by omega, ⟨⟨?_, rfl⟩, ⟨rfl, rfl⟩, ⟨rfl, rfl⟩, ⟨rfl, rfl⟩, trivial⟩, ⟨rfl, by show 1 < 2; decide, ltrI _ _⟩, ⟨rfl, by show 0 < 2; decide, by simp [dtR, AV.ltr]⟩, trivial⟩
    rw [hnx]; rfl
  · have hu0 : u = 0 := by omega
    subst hu0
    rw [yP_0]
    repeat (first
    | refine wC_a rfl ?_
    | refine q_s rfl ?_
    | refine q_b rfl ?_
    | refine wG_nil ?_
    | refine wG_g rfl ?_
    | refine wG_pure (o_len_vwm rfl) ?_
    | refine wG_pure (o_not_d rfl) ?_
    | refine wG_p rfl (by first | exact rfl | omega) ?_
    | refine wG_pure (o_str2 rfl rfl rfl) ?_
    | refine wG_pure (e_istr rfl rfl (by omega)) ?_
    | refine wG_pure (e_istr0 rfl rfl (by omega)) ?_
    | refine wG_pure (o_not rfl) ?_
    | refine wG_pure (e_ia_vw0 rfl rfl (by omega) rfl) ?_
    | refine wG_pure (e_ia_vwp rfl rfl (by omega) rfl) ?_
    | refine wG_pure (e_ia_vwm rfl rfl (by omega) (by omega) rfl) ?_
    | refine wG_pure (e_ia_vwi rfl rfl (by omega) rfl) ?_
    | refine wG_pure (e_ia_vwn rfl rfl (by omega) (by omega) rfl) ?_
    | refine wG_n rfl rfl ?_
    | refine wG_u rfl rfl ?_
    | refine wG_new (o_mks rfl rfl (by omega) (by decide)) ?_)
    exact ret_sl (.inr rfl) (retV_mv rfl) rfl
end Go.Proofs.Ytkeobnaehgcloaa.Dst
