/- Visiting every dating with a positive weight: the implementation's recursive closure. -/
import Derived.Test.YtkeobnaehgcloaaDnC
import Derived.Test.YtkeobnaehgcloaaShvA
namespace Go.Proofs.Ytkeobnaehgcloaa.Dst
open Go Go.Proofs.Ytkeobnaehgcloaa.Ab Go.Proofs.Ytkeobnaehgcloaa.Il Go.Proofs.Ytkeobnaehgcloaa.Rec
attribute [local irreducible] wpO wpC wpDr wpQ wpG wpE stepA seqQ blkQ Ret RetG ev
set_option maxRecDepth 10000
set_option maxHeartbeats 8000000
set_option linter.unusedSimpArgs false
set_option linter.unusedVariables false

def ac69 : AC := (.seq (.reg [⟨(some 2), none, (.box 3 true (.t 0))⟩, ⟨(some 3), none, (.box 1 false (.t 1))⟩]) (.seq (.reg [⟨(some 6), none, (.fa 2 (.t 2))⟩, ⟨(some 7), none, (.ld false 1 (.t 6))⟩, ⟨(some 8), none, (.len (.t 7))⟩, ⟨(some 9), none, (.mks 1 8 [(.int .i64 0)] (.t 8) (.t 8))⟩, ⟨(some 4), none, (.alloc [.nilS])⟩, ⟨none, none, (.st 1 (.t 4) (.t 9))⟩]) (.seq (.reg [⟨(some 5), none, (.alloc [.nilF])⟩]) (.seq (.reg [⟨(some 10), none, (.mkf 115 [(.t 4), (.t 2), (.t 3), (.t 5)])⟩, ⟨none, none, (.st 1 (.t 5) (.t 10))⟩]) (.reg [⟨(some 11), none, (.ld false 1 (.t 5))⟩, ⟨(some 12), none, (.callv (.t 11) [(.c (.int .i64 0))])⟩])))))
def ro69 : List AOp := []
theorem fun69 : Fun Try.prog 69 13 ac69 ro69 := ⟨Try.f69, _, Try.func69, by kernel_rfl, rfl, rfl, by kernel_rfl, by kernel_rfl, by decide⟩
def ac115 : AC := (.seq (.seq (.reg [⟨(some 9), none, (.mv (.t 0))⟩, ⟨(some 10), none, (.ld false 1 (.t 1))⟩, ⟨(some 11), none, (.len (.t 10))⟩, ⟨(some 12), none, (.bin .eql (.t 9) (.t 11))⟩]) (.cond (.t 12) (.seq (.seq (.reg [⟨(some 13), none, (.ld true 3 (.t 2))⟩, ⟨(some 14), none, (.ld false 1 (.t 1))⟩, ⟨(some 15), none, (.call 66 [(.t 13), (.t 14)])⟩, ⟨(some 6), none, (.mv (.t 15))⟩]) (.seq (.reg [⟨(some 16), none, (.mv (.t 6))⟩, ⟨(some 17), none, (.bin .gtr (.t 16) (.c (.int .i64 0)))⟩]) (.cond (.t 17) (.reg [⟨(some 18), none, (.ld false 1 (.t 3))⟩, ⟨(some 19), none, (.ld false 1 (.t 1))⟩, ⟨(some 20), none, (.mv (.t 6))⟩, ⟨(some 21), none, (.callv (.t 18) [(.t 19), (.t 20)])⟩]) .skip))) .ret) .skip)) (.seq (.reg [⟨(some 22), none, (.fa 2 (.t 2))⟩, ⟨(some 23), none, (.ld false 1 (.t 22))⟩, ⟨(some 24), none, (.mv (.t 0))⟩, ⟨(some 25), none, (.ia 2 (.t 23) (.t 24))⟩, ⟨(some 26), none, (.fa 1 (.t 25))⟩, ⟨(some 27), none, (.ld false 1 (.t 26))⟩, ⟨(some 28), none, (.len (.t 27))⟩, ⟨(some 29), none, (.mv (.c (.int .i64 0)))⟩]) (.blk 0 (.loop (.seq (.reg [⟨(some 30), none, (.bin .lss (.t 29) (.t 28))⟩]) (.seq (.cond (.t 30) .skip (.exit 0)) (.seq (.blk 1 (.seq (.reg [⟨(some 31), none, (.mv (.t 29))⟩, ⟨(some 32), none, (.ia 1 (.t 27) (.t 29))⟩, ⟨(some 33), none, (.ld false 1 (.t 32))⟩, ⟨(some 7), none, (.mv (.t 31))⟩, ⟨(some 8), none, (.mv (.t 33))⟩]) (.seq (.reg [⟨(some 34), none, (.mv (.t 8))⟩, ⟨(some 35), none, (.bin .gtr (.t 34) (.c (.int .i64 0)))⟩]) (.cond (.t 35) (.seq (.dreg [⟨(some 36), none, (.ld false 1 (.t 1))⟩, ⟨(some 37), none, (.mv (.t 0))⟩, ⟨(some 38), none, (.fa 2 (.t 2))⟩, ⟨(some 39), none, (.ld false 1 (.t 38))⟩, ⟨(some 40), none, (.mv (.t 0))⟩, ⟨(some 41), none, (.ia 2 (.t 39) (.t 40))⟩, ⟨(some 42), none, (.fa 0 (.t 41))⟩, ⟨(some 43), none, (.ld false 1 (.t 42))⟩, ⟨(some 44), none, (.mv (.t 7))⟩, ⟨(some 45), none, (.bin .add (.t 43) (.t 44))⟩, ⟨(some 46), none, (.ia 1 (.t 36) (.t 37))⟩, ⟨none, none, (.st 1 (.t 46) (.t 45))⟩] [[], [], [], [2], [], [2, 3, 4], [2, 3, 4, 5], [2, 3, 4, 5, 6], [], [2, 3, 4, 5, 6, 7, 8], [0, 1, 2, 3, 4, 5, 6, 7, 8, 9], [0, 1, 2, 3, 4, 5, 6, 7, 8, 9, 10]]) (.reg [⟨(some 47), none, (.ld false 1 (.t 4))⟩, ⟨(some 48), none, (.mv (.t 0))⟩, ⟨(some 49), none, (.bin .add (.t 48) (.c (.int .i64 1)))⟩, ⟨(some 50), none, (.callv (.t 47) [(.t 49)])⟩])) .skip)))) (.reg [⟨(some 51), none, (.bin .add (.t 29) (.c (.int .i64 1)))⟩, ⟨(some 29), none, (.mv (.t 51))⟩]))))))))
def ro115 : List AOp := []
theorem fun115 : Fun Try.prog 115 52 ac115 ro115 := ⟨Try.f115, _, Try.func115, by kernel_rfl, rfl, rfl, by kernel_rfl, by kernel_rfl, by decide⟩

/-- Step by step, those that p lets in. -/
def kF {S : Type} (p : Nat → Prop) [DecidablePred p] (g : Nat → S → S) : Nat → S → S
  | 0, s => s
  | k + 1, s => if p k then g k (kF p g k s) else kF p g k s
def wk (xs : List Dn) (i k : Nat) : Int := (xs.getD i default).d.ws.getD k default
def pk0 (xs : List Dn) (i k : Nat) : Prop := wk xs i k > 0
instance (xs : List Dn) (i k : Nat) : Decidable (pk0 xs i k) := by unfold pk0; infer_instance
section
variable {σ : Type} (step : σ → List Int → Int → σ) (wt : List Int → Int) (xs : List Dn)
/-- All datings with the years up to place i. -/
def exS : Nat → Nat → List Int × σ → List Int × σ
  | 0, _, st => (st.1, if wt st.1 > 0 then step st.2 st.1 (wt st.1) else st.2)
  | d + 1, i, st => kF (pk0 xs i) (fun k t => exS d (i + 1) (t.1.set i ((xs.getD i default).d.f + k), t.2)) (xs.getD i default).d.ws.length st
end
def eCap (N : Nat) : List AV := [.pt (N + 3) 0 0, .pt N 0 0, .pt (N + 1) 0 0, .pt (N + 4) 0 0]
def eF (D : List AV) (N fv : Nat) (caps : List AV) (n : Nat) (ys : List Int) (rest : List (Nat × Option Ab.Rows)) : List (Nat × Option Ab.Rows) :=
  (N + 2, some (ys.map iRow)) :: (N + 4, some [[.fn 115 (eCap N)]]) :: (N + 3, some [[.sl (N + 2) 1 0 n]]) :: (N + 1, some [[.fn fv caps]]) :: (N, some [D]) :: rest
section
variable {D : List AV} {N fv n : Nat} {caps : List AV} {ys : List Int} {rest : List (Nat × Option Ab.Rows)}
theorem eF_A : hg (eF D N fv caps n ys rest) (N + 2) = some (ys.map iRow) := hg_here
theorem eF_E : hg (eF D N fv caps n ys rest) (N + 4) = some [[.fn 115 (eCap N)]] := hg_skip (by omega) hg_here
theorem eF_Y : hg (eF D N fv caps n ys rest) (N + 3) = some [[.sl (N + 2) 1 0 n]] := hg_skip (by omega) (hg_skip (by omega) hg_here)
theorem eF_V : hg (eF D N fv caps n ys rest) (N + 1) = some [[.fn fv caps]] := hg_skip (by omega) (hg_skip (by omega) (hg_skip (by omega) hg_here))
theorem eF_D : hg (eF D N fv caps n ys rest) N = some [D] := hg_skip (by omega) (hg_skip (by omega) (hg_skip (by omega) (hg_skip (by omega) hg_here)))
theorem eF_wf {nr : Nat} (hN : N + 5 ≤ nr) (hD : ∀ x ∈ D, AV.ltr nr x = true) (hc : ltrL nr caps = true) (hr : wfH rest nr) : wfH (eF D N fv caps n ys rest) nr := by
  refine wfH_cons (by omega) (ltrI _ _) (wfH_cons (by omega) ?_ (wfH_cons (by omega) ?_ (wfH_cons (by omega) ?_ (wfH_cons (by omega) ?_ hr))))
  · simp [eCap, AV.ltr, ltrL]; omega
  · simp [AV.ltr]; omega
  · simp [AV.ltr, hc]
  · intro row hrow x hx
    simp at hrow; subst hrow
    exact hD x hx
theorem eF_set {i : Nat} {v : Int} : hg ((N + 2, some ((ys.map iRow).set i (iRow v))) :: eF D N fv caps n ys rest) = hg (eF D N fv caps n (ys.set i v) rest) := by
  unfold eF
  rw [hg_two, ← List.map_set]
end
theorem ltrL_le' {m n : Nat} (h : m ≤ n) : ∀ (cs : List AV), ltrL m cs = true → ltrL n cs = true := fun cs hc => ltrL_le h cs hc
section
variable {σ : Type} {step : σ → List Int → Int → σ} {J : σ → Prop} {hs : σ → List (Nat × Option Ab.Rows)} {nrS : σ → Nat} {a b c : Bool} {r : Rc} {xs : List Dn} {N fv : Nat} {caps : List AV}
theorem ext_sh (hG : GoodN r xs) (hN : ∀ s, N + 5 ≤ nrS s) (hwf : ∀ s, J s → wfH (hs s) (nrS s)) (hcp : ltrL N caps = true) (hmo : ∀ s ys w, nrS s ≤ nrS (step s ys w))
    (hv : ∀ s ys w, J s → ys.length = xs.length → 0 < w → wtI r xs ys = w → Sh Try.prog fv ([.sl (N + 2) 1 0 xs.length, .int .i64 w] ++ caps) (eF (dtR a b c r xs) N fv caps xs.length ys (hs s)) (nrS s) (.tup []) (eF (dtR a b c r xs) N fv caps xs.length ys (hs (step s ys w))) (nrS (step s ys w)) ∧ J (step s ys w)) :
    ∀ (d i : Nat) (st : List Int × σ), i + d = xs.length → st.1.length = xs.length → J st.2 →
      Sh Try.prog 115 (.int .i64 (i : Int) :: eCap N) (eF (dtR a b c r xs) N fv caps xs.length st.1 (hs st.2)) (nrS st.2) (.tup []) (eF (dtR a b c r xs) N fv caps xs.length (exS step (wtI r xs) xs d i st).1 (hs (exS step (wtI r xs) xs d i st).2)) (nrS (exS step (wtI r xs) xs d i st).2)
        ∧ (exS step (wtI r xs) xs d i st).1.length = xs.length ∧ J (exS step (wtI r xs) xs d i st).2 ∧ nrS st.2 ≤ nrS (exS step (wtI r xs) xs d i st).2
  | 0, i, (ys, s), hid, hl, hJ => by
    simp only at hl hJ ⊢
    have hi : i = xs.length := by omega
    subst hi
    have hD : ∀ m, ∀ x ∈ dtR a b c r xs, AV.ltr m x = true := fun m x hx => by simp [dtR] at hx; rcases hx with rfl | rfl | rfl <;> rfl
    have hE := fun s' (hJ' : J s') => eF_wf (n := xs.length) (ys := ys) (fv := fv) (hN s') (hD (nrS s')) (ltrL_le' (by have := hN s'; omega) caps hcp) (hwf s' hJ')
    have cw := con66 a b c true r xs ys hG hl
    have d1 : decide ((xs.length : Int) = (xs.length : Int)) = true := decide_eq_true rfl
    by_cases hw : wtI r xs ys > 0
    · obtain ⟨g1, g2⟩ := hv s ys _ hJ hl hw rfl
      have g3 := hmo s ys (wtI r xs ys)
      have e : exS step (wtI r xs) xs 0 xs.length (ys, s) = (ys, step s ys (wtI r xs ys)) := by simp only [exS, if_pos hw]
      rw [e]
      refine ⟨sh_of_wp mixed fun115 (by simp [eCap]) ?_, hl, g2, g3⟩
      unfold ac115 ro115 eCap
      simp only [zipT]
      repeat (first | refine wG_pure (o_ldf_pt rfl eF_Y rfl rfl) ?_ | (first
    | refine wC_a rfl ?_
    | refine q_s rfl ?_
    | refine q_b rfl ?_
    | refine wG_nil ?_
    | refine wG_g rfl ?_
    | refine wG_pure (o_len_vwm rfl) ?_
    | refine wG_pure (o_not_d rfl) ?_
    | refine wG_p rfl (by first | exact rfl | omega) ?_
    | refine wG_pure (o_str2 rfl rfl rfl) ?_
    | refine wG_pure (e_istr rfl rfl (by omega)) ?_
    | refine wG_pure (e_istr0 rfl rfl (by omega)) ?_
    | refine wG_pure (o_not rfl) ?_
    | refine wG_pure (e_ia_vw0 rfl rfl (by omega) rfl) ?_
    | refine wG_pure (e_ia_vwp rfl rfl (by omega) rfl) ?_
    | refine wG_pure (e_ia_vwm rfl rfl (by omega) (by omega) rfl) ?_
    | refine wG_pure (e_ia_vwi rfl rfl (by omega) rfl) ?_
    | refine wG_pure (e_ia_vwn rfl rfl (by omega) (by omega) rfl) ?_
    | refine wG_n rfl rfl ?_
    | refine wG_u rfl rfl ?_
    | refine wG_new (o_mks rfl rfl (by omega) (by decide)) ?_))
      simp only [d1]
      repeat (first | refine wG_pure (o_ldf_pt rfl eF_Y rfl rfl) ?_ | refine wG_pure (o_ldf_pt rfl eF_V rfl rfl) ?_ | refine wG_pure (o_ldt_pt rfl eF_D rfl rfl rfl) ?_ | refine wG_call cw (ag_any rfl (ag_sl rfl eF_A hl.symm iRow_plain ag_nil)) rfl ?_ | (first
    | refine wC_a rfl ?_
    | refine q_s rfl ?_
    | refine q_b rfl ?_
    | refine wG_nil ?_
    | refine wG_g rfl ?_
    | refine wG_pure (o_len_vwm rfl) ?_
    | refine wG_pure (o_not_d rfl) ?_
    | refine wG_p rfl (by first | exact rfl | omega) ?_
    | refine wG_pure (o_str2 rfl rfl rfl) ?_
    | refine wG_pure (e_istr rfl rfl (by omega)) ?_
    | refine wG_pure (e_istr0 rfl rfl (by omega)) ?_
    | refine wG_pure (o_not rfl) ?_
    | refine wG_pure (e_ia_vw0 rfl rfl (by omega) rfl) ?_
    | refine wG_pure (e_ia_vwp rfl rfl (by omega) rfl) ?_
    | refine wG_pure (e_ia_vwm rfl rfl (by omega) (by omega) rfl) ?_
    | refine wG_pure (e_ia_vwi rfl rfl (by omega) rfl) ?_
    | refine wG_pure (e_ia_vwn rfl rfl (by omega) (by omega) rfl) ?_
    | refine wG_n rfl rfl ?_
    | refine wG_u rfl rfl ?_
    | refine wG_new (o_mks rfl rfl (by omega) (by decide)) ?_))
      simp only [decide_eq_true hw]
      repeat (first | refine wG_pure (o_ldf_pt rfl eF_Y rfl rfl) ?_ | refine wG_pure (o_ldf_pt rfl eF_V rfl rfl) ?_ | refine wG_callSv rfl g1 rfl ?_ | (first
    | refine wC_a rfl ?_
    | refine q_s rfl ?_
    | refine q_b rfl ?_
    | refine wG_nil ?_
    | refine wG_g rfl ?_
    | refine wG_pure (o_len_vwm rfl) ?_
    | refine wG_pure (o_not_d rfl) ?_
    | refine wG_p rfl (by first | exact rfl | omega) ?_
    | refine wG_pure (o_str2 rfl rfl rfl) ?_
    | refine wG_pure (e_istr rfl rfl (by omega)) ?_
    | refine wG_pure (e_istr0 rfl rfl (by omega)) ?_
    | refine wG_pure (o_not rfl) ?_
    | refine wG_pure (e_ia_vw0 rfl rfl (by omega) rfl) ?_
    | refine wG_pure (e_ia_vwp rfl rfl (by omega) rfl) ?_
    | refine wG_pure (e_ia_vwm rfl rfl (by omega) (by omega) rfl) ?_
    | refine wG_pure (e_ia_vwi rfl rfl (by omega) rfl) ?_
    | refine wG_pure (e_ia_vwn rfl rfl (by omega) (by omega) rfl) ?_
    | refine wG_n rfl rfl ?_
    | refine wG_u rfl rfl ?_
    | refine wG_new (o_mks rfl rfl (by omega) (by decide)) ?_))
      exact ⟨trivial, [], rfl, Le_of ⟨⟨rfl, rfl⟩, trivial⟩ (fun q rows hq => hq) (hE _ g2), g3⟩
    · have e : exS step (wtI r xs) xs 0 xs.length (ys, s) = (ys, s) := by simp only [exS, if_neg hw]
      rw [e]
      refine ⟨sh_of_wp mixed fun115 (by simp [eCap]) ?_, hl, hJ, Nat.le_refl _⟩
      unfold ac115 ro115 eCap
      simp only [zipT]
      repeat (first | refine wG_pure (o_ldf_pt rfl eF_Y rfl rfl) ?_ | (first
    | refine wC_a rfl ?_
    | refine q_s rfl ?_
    | refine q_b rfl ?_
    | refine wG_nil ?_
    | refine wG_g rfl ?_
    | refine wG_pure (o_len_vwm rfl) ?_
    | refine wG_pure (o_not_d rfl) ?_
    | refine wG_p rfl (by first | exact rfl | omega) ?_
    | refine wG_pure (o_str2 rfl rfl rfl) ?_
    | refine wG_pure (e_istr rfl rfl (by omega)) ?_
    | refine wG_pure (e_istr0 rfl rfl (by omega)) ?_
    | refine wG_pure (o_not rfl) ?_
    | refine wG_pure (e_ia_vw0 rfl rfl (by omega) rfl) ?_
    | refine wG_pure (e_ia_vwp rfl rfl (by omega) rfl) ?_
    | refine wG_pure (e_ia_vwm rfl rfl (by omega) (by omega) rfl) ?_
    | refine wG_pure (e_ia_vwi rfl rfl (by omega) rfl) ?_
    | refine wG_pure (e_ia_vwn rfl rfl (by omega) (by omega) rfl) ?_
    | refine wG_n rfl rfl ?_
    | refine wG_u rfl rfl ?_
    | refine wG_new (o_mks rfl rfl (by omega) (by decide)) ?_))
      simp only [d1]
      repeat (first | refine wG_pure (o_ldf_pt rfl eF_Y rfl rfl) ?_ | refine wG_pure (o_ldf_pt rfl eF_V rfl rfl) ?_ | refine wG_pure (o_ldt_pt rfl eF_D rfl rfl rfl) ?_ | refine wG_call cw (ag_any rfl (ag_sl rfl eF_A hl.symm iRow_plain ag_nil)) rfl ?_ | (first
    | refine wC_a rfl ?_
    | refine q_s rfl ?_
    | refine q_b rfl ?_
    | refine wG_nil ?_
    | refine wG_g rfl ?_
    | refine wG_pure (o_len_vwm rfl) ?_
    | refine wG_pure (o_not_d rfl) ?_
    | refine wG_p rfl (by first | exact rfl | omega) ?_
    | refine wG_pure (o_str2 rfl rfl rfl) ?_
    | refine wG_pure (e_istr rfl rfl (by omega)) ?_
    | refine wG_pure (e_istr0 rfl rfl (by omega)) ?_
    | refine wG_pure (o_not rfl) ?_
    | refine wG_pure (e_ia_vw0 rfl rfl (by omega) rfl) ?_
    | refine wG_pure (e_ia_vwp rfl rfl (by omega) rfl) ?_
    | refine wG_pure (e_ia_vwm rfl rfl (by omega) (by omega) rfl) ?_
    | refine wG_pure (e_ia_vwi rfl rfl (by omega) rfl) ?_
    | refine wG_pure (e_ia_vwn rfl rfl (by omega) (by omega) rfl) ?_
    | refine wG_n rfl rfl ?_
    | refine wG_u rfl rfl ?_
    | refine wG_new (o_mks rfl rfl (by omega) (by decide)) ?_))
      simp only [decide_eq_false hw]
      repeat (first
    | refine wC_a rfl ?_
    | refine q_s rfl ?_
    | refine q_b rfl ?_
    | refine wG_nil ?_
    | refine wG_g rfl ?_
    | refine wG_pure (o_len_vwm rfl) ?_
    | refine wG_pure (o_not_d rfl) ?_
    | refine wG_p rfl (by first | exact rfl | omega) ?_
    | refine wG_pure (o_str2 rfl rfl rfl) ?_
    | refine wG_pure (e_istr rfl rfl (by omega)) ?_
    | refine wG_pure (e_istr0 rfl rfl (by omega)) ?_
    | refine wG_pure (o_not rfl) ?_
    | refine wG_pure (e_ia_vw0 rfl rfl (by omega) rfl) ?_
    | refine wG_pure (e_ia_vwp rfl rfl (by omega) rfl) ?_
    | refine wG_pure (e_ia_vwm rfl rfl (by omega) (by omega) rfl) ?_
    | refine wG_pure (e_ia_vwi rfl rfl (by omega) rfl) ?_
    | refine wG_pure (e_ia_vwn rfl rfl (by omega) (by omega) rfl) ?_
    | refine wG_n rfl rfl ?_
    | refine wG_u rfl rfl ?_
    | refine wG_new (o_mks rfl rfl (by omega) (by decide)) ?_)
      exact ⟨trivial, [], rfl, Le_of ⟨⟨rfl, rfl⟩, trivial⟩ (fun q rows hq => hq) (hE _ hJ), Nat.le_refl _⟩
  | d + 1, i, (ys, s), hid, hl, hJ => by
    have IH := ext_sh hG hN hwf hcp hmo hv d (i + 1)
    simp only at hl hJ ⊢
    have hi : i < xs.length := by omega
    have gD := (hG.2.2 i hi).1
    have hn10 := hG.1.1
    have hnl := hG.2.1
    have hD : ∀ m, ∀ x ∈ dtR a b c r xs, AV.ltr m x = true := fun m x hx => by simp [dtR] at hx; rcases hx with rfl | rfl | rfl <;> rfl
    have hE := fun ys' s' (hJ' : J s') => eF_wf (n := xs.length) (ys := ys') (fv := fv) (hN s') (hD (nrS s')) (ltrL_le' (by have := hN s'; omega) caps hcp) (hwf s' hJ')
    have d1 : decide ((i : Int) = (xs.length : Int)) = false := decide_eq_false (by omega)
    obtain ⟨T, hT⟩ : ∃ T : Nat → List Int × σ, ∀ k, T k = kF (pk0 xs i) (fun k t => exS step (wtI r xs) xs d (i + 1) (t.1.set i ((xs.getD i default).d.f + k), t.2)) k (ys, s) := ⟨_, fun k => rfl⟩
    have eT : exS step (wtI r xs) xs (d + 1) i (ys, s) = T (xs.getD i default).d.ws.length := by rw [hT]; rfl
    have T0 : T 0 = (ys, s) := by rw [hT]; rfl
    have Tn : ∀ k, ¬ pk0 xs i k → T (k + 1) = T k := fun k hk => by rw [hT, hT, kF, if_neg hk]
    have Ty : ∀ k, pk0 xs i k → T (k + 1) = exS step (wtI r xs) xs d (i + 1) ((T k).1.set i ((xs.getD i default).d.f + k), (T k).2) := fun k hk => by rw [hT, hT, kF, if_pos hk]
    have hI : ∀ k, (T k).1.length = xs.length ∧ J (T k).2 ∧ nrS s ≤ nrS (T k).2 := by
      intro k
      induction k with
      | zero => rw [T0]; exact ⟨hl, hJ, Nat.le_refl _⟩
      | succ k ih =>
        by_cases hk : pk0 xs i k
        · rw [Ty k hk]
          obtain ⟨_, q1, q2, q3⟩ := IH ((T k).1.set i ((xs.getD i default).d.f + k), (T k).2) (by omega) (by simpa using ih.1) ih.2.1
          exact ⟨q1, q2, Nat.le_trans ih.2.2 q3⟩
        · rw [Tn k hk]; exact ih
    rw [eT]
    refine ⟨sh_of_wp mixed fun115 (by simp [eCap]) ?_, (hI _).1, (hI _).2.1, (hI _).2.2⟩
    clear hT eT
    unfold ac115 ro115 eCap
    simp only [zipT]
    have e0 : ∀ n : Nat, 0 + ((n : Int)).toNat = n := fun n => by simp
    repeat (first | refine wG_pure (o_ldf_pt rfl eF_Y rfl rfl) ?_ | (first
    | refine wC_a rfl ?_
    | refine q_s rfl ?_
    | refine q_b rfl ?_
    | refine wG_nil ?_
    | refine wG_g rfl ?_
    | refine wG_pure (o_len_vwm rfl) ?_
    | refine wG_pure (o_not_d rfl) ?_
    | refine wG_p rfl (by first | exact rfl | omega) ?_
    | refine wG_pure (o_str2 rfl rfl rfl) ?_
    | refine wG_pure (e_istr rfl rfl (by omega)) ?_
    | refine wG_pure (e_istr0 rfl rfl (by omega)) ?_
    | refine wG_pure (o_not rfl) ?_
    | refine wG_pure (e_ia_vw0 rfl rfl (by omega) rfl) ?_
    | refine wG_pure (e_ia_vwp rfl rfl (by omega) rfl) ?_
    | refine wG_pure (e_ia_vwm rfl rfl (by omega) (by omega) rfl) ?_
    | refine wG_pure (e_ia_vwi rfl rfl (by omega) rfl) ?_
    | refine wG_pure (e_ia_vwn rfl rfl (by omega) (by omega) rfl) ?_
    | refine wG_n rfl rfl ?_
    | refine wG_u rfl rfl ?_
    | refine wG_new (o_mks rfl rfl (by omega) (by decide)) ?_))
    simp only [d1]
    repeat (first | refine wG_pure (o_ldf_pt rfl eF_D rfl rfl) ?_ | (first
    | refine wC_a rfl ?_
    | refine q_s rfl ?_
    | refine q_b rfl ?_
    | refine wG_nil ?_
    | refine wG_g rfl ?_
    | refine wG_pure (o_len_vwm rfl) ?_
    | refine wG_pure (o_not_d rfl) ?_
    | refine wG_p rfl (by first | exact rfl | omega) ?_
    | refine wG_pure (o_str2 rfl rfl rfl) ?_
    | refine wG_pure (e_istr rfl rfl (by omega)) ?_
    | refine wG_pure (e_istr0 rfl rfl (by omega)) ?_
    | refine wG_pure (o_not rfl) ?_
    | refine wG_pure (e_ia_vw0 rfl rfl (by omega) rfl) ?_
    | refine wG_pure (e_ia_vwp rfl rfl (by omega) rfl) ?_
    | refine wG_pure (e_ia_vwm rfl rfl (by omega) (by omega) rfl) ?_
    | refine wG_pure (e_ia_vwi rfl rfl (by omega) rfl) ?_
    | refine wG_pure (e_ia_vwn rfl rfl (by omega) (by omega) rfl) ?_
    | refine wG_n rfl rfl ?_
    | refine wG_u rfl rfl ?_
    | refine wG_new (o_mks rfl rfl (by omega) (by decide)) ?_))
    refine wC_loopS Nat (fun k => ⟨[(0, .int .i64 (i : Int)), (1, .pt (N + 3) 0 0), (2, .pt N 0 0), (3, .pt (N + 1) 0 0), (4, .pt (N + 4) 0 0), (27, .vw (xs.getD i default).b ((xs.getD i default).d.ws.map iRow)), (28, .int .i64 ((xs.getD i default).d.ws.length : Int)), (29, .int .i64 (k : Int))], eF (dtR a b c r xs) N fv caps xs.length (T k).1 (hs (T k).2), nrS (T k).2⟩) (fun k => k ≤ (xs.getD i default).d.ws.length) (fun k => (xs.getD i default).d.ws.length - k) 0 (Nat.zero_le _) ?_ (fun k _ => (hI k).2.2) ?_
    · have := hN s
      rw [T0]
      exact Le_of ⟨⟨rfl, rfl⟩, ⟨rfl, by simp [AV.ltr]; omega⟩, ⟨rfl, by simp [AV.ltr]; omega⟩, ⟨rfl, by simp [AV.ltr]; omega⟩, ⟨rfl, by simp [AV.ltr]; omega⟩, ⟨rfl, rfl⟩, ⟨rfl, rfl⟩, ⟨rfl, rfl⟩, trivial⟩ (fun q rows hq => hq) (hE _ _ hJ)
    intro k hk
    obtain ⟨l1, l2, l3⟩ := hI k
    obtain ⟨m1, m2, m3⟩ := hI (k + 1)
    have hN1 := hN (T (k + 1)).2
    repeat (first
    | refine wC_a rfl ?_
    | refine q_s rfl ?_
    | refine q_b rfl ?_
    | refine wG_nil ?_
    | refine wG_g rfl ?_
    | refine wG_pure (o_len_vwm rfl) ?_
    | refine wG_pure (o_not_d rfl) ?_
    | refine wG_p rfl (by first | exact rfl | omega) ?_
    | refine wG_pure (o_str2 rfl rfl rfl) ?_
    | refine wG_pure (e_istr rfl rfl (by omega)) ?_
    | refine wG_pure (e_istr0 rfl rfl (by omega)) ?_
    | refine wG_pure (o_not rfl) ?_
    | refine wG_pure (e_ia_vw0 rfl rfl (by omega) rfl) ?_
    | refine wG_pure (e_ia_vwp rfl rfl (by omega) rfl) ?_
    | refine wG_pure (e_ia_vwm rfl rfl (by omega) (by omega) rfl) ?_
    | refine wG_pure (e_ia_vwi rfl rfl (by omega) rfl) ?_
    | refine wG_pure (e_ia_vwn rfl rfl (by omega) (by omega) rfl) ?_
    | refine wG_n rfl rfl ?_
    | refine wG_u rfl rfl ?_
    | refine wG_new (o_mks rfl rfl (by omega) (by decide)) ?_)
    refine wC_cond_d rfl (fun h5 => ?_) (fun h5 => ?_)
    · have hk2 : k < (xs.getD i default).d.ws.length := by omega
      have f1 := gD.2.1
      by_cases hp : pk0 xs i k
      · have d2 : decide ((xs.getD i default).d.ws.getD k default > 0) = true := decide_eq_true hp
        have hat : ((T k).1.map iRow)[i]? = some (iRow ((T k).1.getD i default)) := by
          simp [List.getElem?_map, List.getElem?_eq_getElem (show i < (T k).1.length by omega), List.getD_eq_getElem?_getD]
        obtain ⟨q0, q1, q2, q3⟩ := IH ((T k).1.set i ((xs.getD i default).d.f + k), (T k).2) (by omega) (by simpa using l1) l2
        rw [← Ty k hp] at q0
        have q4 := Sh_hg (eF_set (i := i) (v := (xs.getD i default).d.f + k)).symm q0
        repeat (first
    | refine wC_a rfl ?_
    | refine q_s rfl ?_
    | refine q_b rfl ?_
    | refine wG_nil ?_
    | refine wG_g rfl ?_
    | refine wG_pure (o_len_vwm rfl) ?_
    | refine wG_pure (o_not_d rfl) ?_
    | refine wG_p rfl (by first | exact rfl | omega) ?_
    | refine wG_pure (o_str2 rfl rfl rfl) ?_
    | refine wG_pure (e_istr rfl rfl (by omega)) ?_
    | refine wG_pure (e_istr0 rfl rfl (by omega)) ?_
    | refine wG_pure (o_not rfl) ?_
    | refine wG_pure (e_ia_vw0 rfl rfl (by omega) rfl) ?_
    | refine wG_pure (e_ia_vwp rfl rfl (by omega) rfl) ?_
    | refine wG_pure (e_ia_vwm rfl rfl (by omega) (by omega) rfl) ?_
    | refine wG_pure (e_ia_vwi rfl rfl (by omega) rfl) ?_
    | refine wG_pure (e_ia_vwn rfl rfl (by omega) (by omega) rfl) ?_
    | refine wG_n rfl rfl ?_
    | refine wG_u rfl rfl ?_
    | refine wG_new (o_mks rfl rfl (by omega) (by decide)) ?_)
        simp only [d2]
        repeat (first | refine wE_v (o_ldf_pt rfl eF_Y rfl rfl) rfl ?_ | refine wE_v (o_ldf_pt rfl eF_D rfl rfl) rfl ?_ | (refine wE_v (e_ia_sl rfl rfl (by omega) (by omega)) rfl ?_; simp only [e0]) | refine wE_upd (o_st1 rfl eF_A hat rfl rfl rfl) rfl ?_ | (first
    | refine wC_a rfl ?_
    | refine q_s rfl ?_
    | refine q_b rfl ?_
    | refine wG_nil ?_
    | refine wG_g rfl ?_
    | refine wG_pure (o_len_vwm rfl) ?_
    | refine wG_pure (o_not_d rfl) ?_
    | refine wG_p rfl (by first | exact rfl | omega) ?_
    | refine wG_pure (o_str2 rfl rfl rfl) ?_
    | refine wG_pure (e_istr rfl rfl (by omega)) ?_
    | refine wG_pure (e_istr0 rfl rfl (by omega)) ?_
    | refine wG_pure (o_not rfl) ?_
    | refine wG_pure (e_ia_vw0 rfl rfl (by omega) rfl) ?_
    | refine wG_pure (e_ia_vwp rfl rfl (by omega) rfl) ?_
    | refine wG_pure (e_ia_vwm rfl rfl (by omega) (by omega) rfl) ?_
    | refine wG_pure (e_ia_vwi rfl rfl (by omega) rfl) ?_
    | refine wG_pure (e_ia_vwn rfl rfl (by omega) (by omega) rfl) ?_
    | refine wG_n rfl rfl ?_
    | refine wG_u rfl rfl ?_
    | refine wG_new (o_mks rfl rfl (by omega) (by decide)) ?_) | (first
    | refine wE_nil (by kernel_rfl) ?_
    | refine wE_gy rfl ?_
    | refine wE_gn rfl rfl rfl ?_
    | refine wE_gu rfl rfl ?_
    | refine wE_gnn rfl rfl rfl ?_
    | refine wE_v (o_len_vwm rfl) rfl ?_
    | refine wE_v (o_not_d rfl) rfl ?_
    | refine wE_p rfl (by first | exact rfl | omega) rfl ?_
    | refine wE_v (o_str2 rfl rfl rfl) rfl ?_
    | refine wE_v (e_istr rfl rfl (by omega)) rfl ?_
    | refine wE_v (e_istr0 rfl rfl (by omega)) rfl ?_
    | refine wE_v (o_not rfl) rfl ?_
    | refine wE_v (e_ia_vw0 rfl rfl (by omega) rfl) rfl ?_
    | refine wE_v (e_ia_vwp rfl rfl (by omega) rfl) rfl ?_
    | refine wE_v (e_ia_vwm rfl rfl (by omega) (by omega) rfl) rfl ?_
    | refine wE_v (e_ia_vwi rfl rfl (by omega) rfl) rfl ?_
    | refine wE_v (e_ia_vwn rfl rfl (by omega) (by omega) rfl) rfl ?_
    | refine wE_n rfl rfl rfl ?_
    | refine wE_u rfl rfl rfl ?_
    | refine wE_new (o_mks rfl rfl (by omega) (by decide)) rfl ?_))
        repeat (first | refine wG_pure (o_ldf_pt rfl (hg_skip (by omega) eF_E) rfl rfl) ?_ | refine wG_callSv rfl q4 rfl ?_ | (first
    | refine wC_a rfl ?_
    | refine q_s rfl ?_
    | refine q_b rfl ?_
    | refine wG_nil ?_
    | refine wG_g rfl ?_
    | refine wG_pure (o_len_vwm rfl) ?_
    | refine wG_pure (o_not_d rfl) ?_
    | refine wG_p rfl (by first | exact rfl | omega) ?_
    | refine wG_pure (o_str2 rfl rfl rfl) ?_
    | refine wG_pure (e_istr rfl rfl (by omega)) ?_
    | refine wG_pure (e_istr0 rfl rfl (by omega)) ?_
    | refine wG_pure (o_not rfl) ?_
    | refine wG_pure (e_ia_vw0 rfl rfl (by omega) rfl) ?_
    | refine wG_pure (e_ia_vwp rfl rfl (by omega) rfl) ?_
    | refine wG_pure (e_ia_vwm rfl rfl (by omega) (by omega) rfl) ?_
    | refine wG_pure (e_ia_vwi rfl rfl (by omega) rfl) ?_
    | refine wG_pure (e_ia_vwn rfl rfl (by omega) (by omega) rfl) ?_
    | refine wG_n rfl rfl ?_
    | refine wG_u rfl rfl ?_
    | refine wG_new (o_mks rfl rfl (by omega) (by decide)) ?_))
        exact ⟨k + 1, hk2, by omega, Le_of ⟨⟨rfl, rfl⟩, ⟨rfl, by simp [AV.ltr]; omega⟩, ⟨rfl, by simp [AV.ltr]; omega⟩, ⟨rfl, by simp [AV.ltr]; omega⟩, ⟨rfl, by simp [AV.ltr]; omega⟩, ⟨rfl, rfl⟩, ⟨rfl, rfl⟩, ⟨rfl, rfl⟩, trivial⟩ (fun q rows hq => hq) (hE _ _ m2)⟩
      · have d2 : decide ((xs.getD i default).d.ws.getD k default > 0) = false := decide_eq_false hp
        have tn := Tn k hp
        repeat (first
    | refine wC_a rfl ?_
    | refine q_s rfl ?_
    | refine q_b rfl ?_
    | refine wG_nil ?_
    | refine wG_g rfl ?_
    | refine wG_pure (o_len_vwm rfl) ?_
    | refine wG_pure (o_not_d rfl) ?_
    | refine wG_p rfl (by first | exact rfl | omega) ?_
    | refine wG_pure (o_str2 rfl rfl rfl) ?_
    | refine wG_pure (e_istr rfl rfl (by omega)) ?_
    | refine wG_pure (e_istr0 rfl rfl (by omega)) ?_
    | refine wG_pure (o_not rfl) ?_
    | refine wG_pure (e_ia_vw0 rfl rfl (by omega) rfl) ?_
    | refine wG_pure (e_ia_vwp rfl rfl (by omega) rfl) ?_
    | refine wG_pure (e_ia_vwm rfl rfl (by omega) (by omega) rfl) ?_
    | refine wG_pure (e_ia_vwi rfl rfl (by omega) rfl) ?_
    | refine wG_pure (e_ia_vwn rfl rfl (by omega) (by omega) rfl) ?_
    | refine wG_n rfl rfl ?_
    | refine wG_u rfl rfl ?_
    | refine wG_new (o_mks rfl rfl (by omega) (by decide)) ?_)
        simp only [d2]
        repeat (first
    | refine wC_a rfl ?_
    | refine q_s rfl ?_
    | refine q_b rfl ?_
    | refine wG_nil ?_
    | refine wG_g rfl ?_
    | refine wG_pure (o_len_vwm rfl) ?_
    | refine wG_pure (o_not_d rfl) ?_
    | refine wG_p rfl (by first | exact rfl | omega) ?_
    | refine wG_pure (o_str2 rfl rfl rfl) ?_
    | refine wG_pure (e_istr rfl rfl (by omega)) ?_
    | refine wG_pure (e_istr0 rfl rfl (by omega)) ?_
    | refine wG_pure (o_not rfl) ?_
    | refine wG_pure (e_ia_vw0 rfl rfl (by omega) rfl) ?_
    | refine wG_pure (e_ia_vwp rfl rfl (by omega) rfl) ?_
    | refine wG_pure (e_ia_vwm rfl rfl (by omega) (by omega) rfl) ?_
    | refine wG_pure (e_ia_vwi rfl rfl (by omega) rfl) ?_
    | refine wG_pure (e_ia_vwn rfl rfl (by omega) (by omega) rfl) ?_
    | refine wG_n rfl rfl ?_
    | refine wG_u rfl rfl ?_
    | refine wG_new (o_mks rfl rfl (by omega) (by decide)) ?_)
        refine ⟨k + 1, hk2, by omega, Le_of ⟨⟨rfl, rfl⟩, ⟨rfl, by simp [AV.ltr]; omega⟩, ⟨rfl, by simp [AV.ltr]; omega⟩, ⟨rfl, by simp [AV.ltr]; omega⟩, ⟨rfl, by simp [AV.ltr]; omega⟩, ⟨rfl, rfl⟩, ⟨rfl, rfl⟩, ⟨rfl, rfl⟩, trivial⟩ (fun q rows hq => ?_) (hE _ _ m2)⟩
        rw [tn] at hq; exact hq
    · have hk3 : k = (xs.getD i default).d.ws.length := by omega
      subst hk3
      repeat (first
    | refine wC_a rfl ?_
    | refine q_s rfl ?_
    | refine q_b rfl ?_
    | refine wG_nil ?_
    | refine wG_g rfl ?_
    | refine wG_pure (o_len_vwm rfl) ?_
    | refine wG_pure (o_not_d rfl) ?_
    | refine wG_p rfl (by first | exact rfl | omega) ?_
    | refine wG_pure (o_str2 rfl rfl rfl) ?_
    | refine wG_pure (e_istr rfl rfl (by omega)) ?_
    | refine wG_pure (e_istr0 rfl rfl (by omega)) ?_
    | refine wG_pure (o_not rfl) ?_
    | refine wG_pure (e_ia_vw0 rfl rfl (by omega) rfl) ?_
    | refine wG_pure (e_ia_vwp rfl rfl (by omega) rfl) ?_
    | refine wG_pure (e_ia_vwm rfl rfl (by omega) (by omega) rfl) ?_
    | refine wG_pure (e_ia_vwi rfl rfl (by omega) rfl) ?_
    | refine wG_pure (e_ia_vwn rfl rfl (by omega) (by omega) rfl) ?_
    | refine wG_n rfl rfl ?_
    | refine wG_u rfl rfl ?_
    | refine wG_new (o_mks rfl rfl (by omega) (by decide)) ?_)
      exact ⟨trivial, [], rfl, Le_of ⟨⟨rfl, rfl⟩, trivial⟩ (fun q rows hq => hq) (hE _ _ l2), l3⟩
theorem each_sh (hG : GoodN r xs) (hN : ∀ s, N + 5 ≤ nrS s) (hwf : ∀ s, J s → wfH (hs s) (nrS s)) (hcp : ltrL N caps = true) (hmo : ∀ s ys w, nrS s ≤ nrS (step s ys w))
    (hv : ∀ s ys w, J s → ys.length = xs.length → 0 < w → wtI r xs ys = w → Sh Try.prog fv ([.sl (N + 2) 1 0 xs.length, .int .i64 w] ++ caps) (eF (dtR a b c r xs) N fv caps xs.length ys (hs s)) (nrS s) (.tup []) (eF (dtR a b c r xs) N fv caps xs.length ys (hs (step s ys w))) (nrS (step s ys w)) ∧ J (step s ys w))
    (hkey : ∀ s q rows, J s → hg (hs s) q = some rows → q < N ∨ N + 5 ≤ q) (s : σ) (hJ : J s) (hs0 : nrS s = N + 5) (h3 : xs.length ≤ 1048576) :
    Sh Try.prog 69 [.agg (dtR a b c r xs), .fn fv caps] (hs s) N (.tup []) (hs (exS step (wtI r xs) xs xs.length 0 (List.replicate xs.length 0, s)).2) (nrS (exS step (wtI r xs) xs xs.length 0 (List.replicate xs.length 0, s)).2)
      ∧ J (exS step (wtI r xs) xs xs.length 0 (List.replicate xs.length 0, s)).2 := by
  obtain ⟨g1, g2, g3, g4⟩ := ext_sh hG hN hwf hcp hmo hv xs.length 0 (List.replicate xs.length 0, s) (by omega) (by simp) hJ
  refine ⟨sh_of_wp mixed fun69 (by simp) ?_, g3⟩
  unfold ac69 ro69
  simp only [zipT]
  have hrep : List.replicate xs.length [AV.int .i64 0] = (List.replicate xs.length (0 : Int)).map iRow := by rw [List.map_replicate]; rfl
  have g0 : Sh Try.prog 115 (.int .i64 0 :: eCap N) ((N + 4, some [[.fn 115 (eCap N)]]) :: (N + 4, some [[.nilF]]) :: (N + 3, some [[.sl (N + 2) 1 0 xs.length]]) :: (N + 3, some [[.nilS]]) :: (N + 2, some (List.replicate xs.length [AV.int .i64 0])) :: (N + 1, some [[.fn fv caps]]) :: (N, some [dtR a b c r xs]) :: hs s) (N + 5) (.tup []) (eF (dtR a b c r xs) N fv caps xs.length (exS step (wtI r xs) xs xs.length 0 (List.replicate xs.length 0, s)).1 (hs (exS step (wtI r xs) xs xs.length 0 (List.replicate xs.length 0, s)).2)) (nrS (exS step (wtI r xs) xs xs.length 0 (List.replicate xs.length 0, s)).2) := by
    have g1' := g1
    rw [hs0] at g1'
    refine Sh_hg ?_ g1'
    rw [hrep]
    funext q
    unfold eF
    simp only [Ab.hg, upd]
    repeat' split
    all_goals (first | rfl | (exfalso; omega) | (subst_vars; omega))
  repeat (first | refine wG_new (o_box1 rfl) ?_ | refine wG_pure (o_mkf rfl) ?_ | refine wG_new (o_mks rfl rfl (by omega) (by decide)) ?_ | refine wG_upd (o_st1 rfl hg_here rfl rfl rfl rfl) ?_ | refine wG_pure (o_ldf_pt rfl hg_here rfl rfl) ?_ | refine wG_pure (o_ldf_pt rfl (hg_skip (by omega) hg_here) rfl rfl) ?_ | refine wG_callSv rfl g0 rfl ?_ | (first
    | refine wC_a rfl ?_
    | refine q_s rfl ?_
    | refine q_b rfl ?_
    | refine wG_nil ?_
    | refine wG_g rfl ?_
    | refine wG_pure (o_len_vwm rfl) ?_
    | refine wG_pure (o_not_d rfl) ?_
    | refine wG_p rfl (by first | exact rfl | omega) ?_
    | refine wG_pure (o_str2 rfl rfl rfl) ?_
    | refine wG_pure (e_istr rfl rfl (by omega)) ?_
    | refine wG_pure (e_istr0 rfl rfl (by omega)) ?_
    | refine wG_pure (o_not rfl) ?_
    | refine wG_pure (e_ia_vw0 rfl rfl (by omega) rfl) ?_
    | refine wG_pure (e_ia_vwp rfl rfl (by omega) rfl) ?_
    | refine wG_pure (e_ia_vwm rfl rfl (by omega) (by omega) rfl) ?_
    | refine wG_pure (e_ia_vwi rfl rfl (by omega) rfl) ?_
    | refine wG_pure (e_ia_vwn rfl rfl (by omega) (by omega) rfl) ?_
    | refine wG_n rfl rfl ?_
    | refine wG_u rfl rfl ?_
    | refine wG_new (o_mks rfl rfl (by omega) (by decide)) ?_))
  have hle : N ≤ nrS (exS step (wtI r xs) xs xs.length 0 (List.replicate xs.length 0, s)).2 := by have := hN (exS step (wtI r xs) xs xs.length 0 (List.replicate xs.length 0, s)).2; omega
  refine ⟨trivial, [], rfl, Le_of ⟨⟨rfl, rfl⟩, trivial⟩ (fun q rows hq => ?_) (hwf _ g3), hle⟩
  have := hkey _ q rows g3 hq
  exact hg_skip (by omega) (hg_skip (by omega) (hg_skip (by omega) (hg_skip (by omega) (hg_skip (by omega) hq))))
end
end Go.Proofs.Ytkeobnaehgcloaa.Dst
