/- Visiting every list of boundaries: the implementation's recursive closure. -/
import Derived.Test.YtnohaclnpbpjbaaPmB
import Derived.Test.YtnohaclnpbpjbaaPmG
import Derived.Test.YtnohaclnpbpjbaaShvA
namespace Go.Proofs.Ytnohaclnpbpjbaa.Dst
open Go Go.Proofs.Ytnohaclnpbpjbaa.Ab Go.Proofs.Ytnohaclnpbpjbaa.Il
attribute [local irreducible] wpO wpC wpDr wpQ wpG wpE stepA seqQ blkQ Ret RetG ev
set_option maxRecDepth 10000
set_option maxHeartbeats 8000000
set_option linter.unusedSimpArgs false
set_option linter.unusedVariables false

def ac64 : AC := (.seq (.reg [⟨(some 2), none, (.box 4 true (.t 0))⟩, ⟨(some 3), none, (.box 1 false (.t 1))⟩]) (.seq (.reg [⟨(some 6), none, (.fa 2 (.t 2))⟩, ⟨(some 7), none, (.ld false 1 (.t 6))⟩, ⟨(some 8), none, (.bin .add (.t 7) (.c (.int .i64 1)))⟩, ⟨(some 9), none, (.mks 1 8 [(.int .i64 0)] (.t 8) (.t 8))⟩, ⟨(some 4), none, (.alloc [.nilS])⟩, ⟨none, none, (.st 1 (.t 4) (.t 9))⟩]) (.seq (.reg [⟨(some 5), none, (.alloc [.nilF])⟩]) (.seq (.reg [⟨(some 10), none, (.mkf 95 [(.t 4), (.t 3), (.t 2), (.t 5)])⟩, ⟨none, none, (.st 1 (.t 5) (.t 10))⟩]) (.reg [⟨(some 11), none, (.ld false 1 (.t 5))⟩, ⟨(some 12), none, (.callv (.t 11) [(.c (.int .i64 0)), (.c (.int .i64 0))])⟩])))))
def ro64 : List AOp := []
theorem fun64 : Fun Try.prog 64 13 ac64 ro64 := ⟨Try.f64, _, Try.func64, by kernel_rfl, rfl, rfl, by kernel_rfl, by kernel_rfl, by decide⟩
def ac95 : AC := (.seq (.seq (.reg [⟨(some 9), none, (.mv (.t 0))⟩, ⟨(some 10), none, (.ld false 1 (.t 2))⟩, ⟨(some 11), none, (.len (.t 10))⟩, ⟨(some 12), none, (.bin .eql (.t 9) (.t 11))⟩]) (.cond (.t 12) (.seq (.reg [⟨(some 13), none, (.ld false 1 (.t 3))⟩, ⟨(some 14), none, (.ld false 1 (.t 2))⟩, ⟨(some 15), none, (.callv (.t 13) [(.t 14)])⟩]) .ret) .skip)) (.seq (.reg [⟨(some 16), none, (.mv (.t 1))⟩, ⟨(some 8), none, (.mv (.t 16))⟩]) (.blk 0 (.loop (.seq (.seq (.reg [⟨(some 17), none, (.mv (.t 8))⟩, ⟨(some 18), none, (.fa 1 (.t 4))⟩, ⟨(some 19), none, (.ld false 1 (.t 18))⟩, ⟨(some 20), none, (.bin .lss (.t 17) (.t 19))⟩]) (.cond (.t 20) .skip (.exit 0))) (.seq (.blk 1 (.seq (.reg [⟨(some 23), none, (.ld false 1 (.t 2))⟩, ⟨(some 24), none, (.mv (.t 0))⟩, ⟨(some 25), none, (.mv (.t 8))⟩, ⟨(some 26), none, (.ia 1 (.t 23) (.t 24))⟩, ⟨none, none, (.st 1 (.t 26) (.t 25))⟩]) (.reg [⟨(some 27), none, (.ld false 1 (.t 5))⟩, ⟨(some 28), none, (.mv (.t 0))⟩, ⟨(some 29), none, (.bin .add (.t 28) (.c (.int .i64 1)))⟩, ⟨(some 30), none, (.mv (.t 8))⟩, ⟨(some 31), none, (.callv (.t 27) [(.t 29), (.t 30)])⟩]))) (.reg [⟨(some 21), none, (.mv (.t 8))⟩, ⟨(some 22), none, (.bin .add (.t 21) (.c (.int .i64 1)))⟩, ⟨(some 8), none, (.mv (.t 22))⟩])))))))
def ro95 : List AOp := []
theorem fun95 : Fun Try.prog 95 32 ac95 ro95 := ⟨Try.f95, _, Try.func95, by kernel_rfl, rfl, rfl, by kernel_rfl, by kernel_rfl, by decide⟩

theorem nRow_plain : ∀ x : Nat, ∀ v ∈ nRow x, AV.plain v = true := fun x => iRow_plain _
theorem ltrN (ws : List Nat) (m : Nat) : ∀ row ∈ ws.map nRow, ∀ x ∈ row, AV.ltr m x = true := by rw [← cb]; exact ltrI _ m
theorem nGet {ys : List Nat} {i : Nat} (h : i < ys.length) : (ys.map nRow)[i]? = some (nRow (gN ys i)) := by
  simp [gN, List.getElem?_map, List.getElem?_eq_getElem h, List.getD_eq_getElem?_getD]
def eCap (N : Nat) : List AV := [.pt (N + 3) 0 0, .pt (N + 1) 0 0, .pt N 0 0, .pt (N + 4) 0 0]
def eF (D : List AV) (N fv : Nat) (caps : List AV) (n : Nat) (ys : List Nat) (rest : List (Nat × Option Ab.Rows)) : List (Nat × Option Ab.Rows) :=
  (N + 2, some (ys.map nRow)) :: (N + 4, some [[.fn 95 (eCap N)]]) :: (N + 3, some [[.sl (N + 2) 1 0 n]]) :: (N + 1, some [[.fn fv caps]]) :: (N, some [D]) :: rest
section
variable {D : List AV} {N fv n : Nat} {caps : List AV} {ys : List Nat} {rest : List (Nat × Option Ab.Rows)}
theorem eF_A : hg (eF D N fv caps n ys rest) (N + 2) = some (ys.map nRow) := hg_here
theorem eF_E : hg (eF D N fv caps n ys rest) (N + 4) = some [[.fn 95 (eCap N)]] := hg_skip (by omega) hg_here
theorem eF_Y : hg (eF D N fv caps n ys rest) (N + 3) = some [[.sl (N + 2) 1 0 n]] := hg_skip (by omega) (hg_skip (by omega) hg_here)
theorem eF_V : hg (eF D N fv caps n ys rest) (N + 1) = some [[.fn fv caps]] := hg_skip (by omega) (hg_skip (by omega) (hg_skip (by omega) hg_here))
theorem eF_D : hg (eF D N fv caps n ys rest) N = some [D] := hg_skip (by omega) (hg_skip (by omega) (hg_skip (by omega) (hg_skip (by omega) hg_here)))
theorem eF_wf {nr : Nat} (hN : N + 5 ≤ nr) (hD : ∀ x ∈ D, AV.ltr nr x = true) (hc : ltrL nr caps = true) (hr : wfH rest nr) : wfH (eF D N fv caps n ys rest) nr := by
  refine wfH_cons (by omega) (ltrN _ _) (wfH_cons (by omega) ?_ (wfH_cons (by omega) ?_ (wfH_cons (by omega) ?_ (wfH_cons (by omega) ?_ hr))))
  · simp [eCap, AV.ltr, ltrL]; omega
  · simp [AV.ltr]; omega
  · simp [AV.ltr, hc]
  · intro row hrow x hx
    simp at hrow; subst hrow
    exact hD x hx
theorem eF_set {i v : Nat} : hg ((N + 2, some ((ys.map nRow).set i (nRow v))) :: eF D N fv caps n ys rest) = hg (eF D N fv caps n (ys.set i v) rest) := by
  unfold eF
  rw [hg_two, ← List.map_set]
end
theorem ltrL_le' {m n : Nat} (h : m ≤ n) : ∀ (cs : List AV), ltrL m cs = true → ltrL n cs = true := fun cs hc => ltrL_le h cs hc
theorem mdR_ltr {c : Bool} {m : Md} {xs : List Ev} (n : Nat) : ∀ x ∈ mdR c m xs, AV.ltr n x = true := fun x hx => by
  simp [mdR] at hx
  rcases hx with rfl | rfl | rfl | rfl <;> rfl
section
variable {σ : Type} {step : σ → List Nat → σ} {J : σ → Prop} {hs : σ → List (Nat × Option Ab.Rows)} {nrS : σ → Nat} {c : Bool} {m : Md} {xs : List Ev} {N fv n : Nat} {caps : List AV}
theorem ext_sh (hG : GoodM m xs) (hn : n = m.p.toNat + 1) (hN : ∀ s, N + 5 ≤ nrS s) (hwf : ∀ s, J s → wfH (hs s) (nrS s)) (hcp : ltrL N caps = true) (hmo : ∀ s ys, nrS s ≤ nrS (step s ys))
    (hv : ∀ s b, J s → GoodB m.y.toNat n b → Sh Try.prog fv ([.sl (N + 2) 1 0 n] ++ caps) (eF (mdR c m xs) N fv caps n b (hs s)) (nrS s) (.tup []) (eF (mdR c m xs) N fv caps n b (hs (step s b))) (nrS (step s b)) ∧ J (step s b)) :
    ∀ (d i : Nat) (ys : List Nat) (s : σ), i + d = n → ys.length = n → GoodB m.y.toNat i (ys.take i) → J s →
      Sh Try.prog 95 ([.int .i64 (i : Int), .int .i64 ((fr (ys.take i) : Nat) : Int)] ++ eCap N) (eF (mdR c m xs) N fv caps n ys (hs s)) (nrS s) (.tup []) (eF (mdR c m xs) N fv caps n (exB step m.y.toNat d i (fr (ys.take i)) (ys, s)).1 (hs (exB step m.y.toNat d i (fr (ys.take i)) (ys, s)).2)) (nrS (exB step m.y.toNat d i (fr (ys.take i)) (ys, s)).2)
        ∧ J (exB step m.y.toNat d i (fr (ys.take i)) (ys, s)).2 ∧ nrS s ≤ nrS (exB step m.y.toNat d i (fr (ys.take i)) (ys, s)).2
  | 0, i, ys, s, hid, hl, hgd, hJ => by
    have hi : i = n := by omega
    subst hi
    have ht : ys.take i = ys := List.take_of_length_le (by omega)
    rw [ht] at hgd ⊢
    obtain ⟨g1, g2⟩ := hv s ys hJ hgd
    have g3 := hmo s ys
    have hE := fun s' (hJ' : J s') => eF_wf (n := i) (ys := ys) (fv := fv) (hN s') (mdR_ltr (c := c) (m := m) (xs := xs) (nrS s')) (ltrL_le' (by have := hN s'; omega) caps hcp) (hwf s' hJ')
    have d1 : decide ((i : Int) = (i : Int)) = true := decide_eq_true rfl
    have e : exB step m.y.toNat 0 i (fr ys) (ys, s) = (ys, step s ys) := rfl
    rw [e]
    refine ⟨sh_of_wp mixed fun95 (by simp [eCap]) ?_, g2, g3⟩
    unfold ac95 ro95 eCap
    simp only [zipT, List.cons_append, List.nil_append]
    repeat (first | refine wG_pure (o_ldf_pt rfl eF_Y rfl rfl) ?_ | (first
    | refine wC_a rfl ?_
    | refine q_s rfl ?_
    | refine q_b rfl ?_
    | refine wG_nil ?_
    | refine wG_g rfl ?_
    | refine wG_pure (o_len_vwm rfl) ?_
    | refine wG_pure (o_not_d rfl) ?_
    | refine wG_p rfl (by first | exact rfl | omega) ?_
    | refine wG_pure (o_str2 rfl rfl rfl) ?_
    | refine wG_pure (e_istr rfl rfl (by omega)) ?_
    | refine wG_pure (e_istr0 rfl rfl (by omega)) ?_
    | refine wG_pure (o_not rfl) ?_
    | refine wG_pure (e_ia_vw0 rfl rfl (by omega) rfl) ?_
    | refine wG_pure (e_ia_vwp rfl rfl (by omega) rfl) ?_
    | refine wG_pure (e_ia_vwm rfl rfl (by omega) (by omega) rfl) ?_
    | refine wG_pure (e_ia_vwi rfl rfl (by omega) rfl) ?_
    | refine wG_pure (e_ia_vwn rfl rfl (by omega) (by omega) rfl) ?_
    | refine wG_n rfl rfl ?_
    | refine wG_u rfl rfl ?_
    | refine wG_new (o_mks rfl rfl (by omega) (by decide)) ?_))
    simp only [d1]
    repeat (first | refine wG_pure (o_ldf_pt rfl eF_Y rfl rfl) ?_ | refine wG_pure (o_ldf_pt rfl eF_V rfl rfl) ?_ | refine wG_callSv rfl g1 rfl ?_ | (first
    | refine wC_a rfl ?_
    | refine q_s rfl ?_
    | refine q_b rfl ?_
    | refine wG_nil ?_
    | refine wG_g rfl ?_
    | refine wG_pure (o_len_vwm rfl) ?_
    | refine wG_pure (o_not_d rfl) ?_
    | refine wG_p rfl (by first | exact rfl | omega) ?_
    | refine wG_pure (o_str2 rfl rfl rfl) ?_
    | refine wG_pure (e_istr rfl rfl (by omega)) ?_
    | refine wG_pure (e_istr0 rfl rfl (by omega)) ?_
    | refine wG_pure (o_not rfl) ?_
    | refine wG_pure (e_ia_vw0 rfl rfl (by omega) rfl) ?_
    | refine wG_pure (e_ia_vwp rfl rfl (by omega) rfl) ?_
    | refine wG_pure (e_ia_vwm rfl rfl (by omega) (by omega) rfl) ?_
    | refine wG_pure (e_ia_vwi rfl rfl (by omega) rfl) ?_
    | refine wG_pure (e_ia_vwn rfl rfl (by omega) (by omega) rfl) ?_
    | refine wG_n rfl rfl ?_
    | refine wG_u rfl rfl ?_
    | refine wG_new (o_mks rfl rfl (by omega) (by decide)) ?_))
    exact ⟨trivial, [], rfl, Le_of ⟨⟨rfl, rfl⟩, trivial⟩ (fun q rows hq => hq) (hE _ g2), g3⟩
  | d + 1, i, ys, s, hid, hl, hgd, hJ => by
    have IH := ext_sh hG hn hN hwf hcp hmo hv d (i + 1)
    have hi : i < n := by omega
    have hPb := hG.2.2.1
    have hYb := hG.1
    have hE := fun ys' s' (hJ' : J s') => eF_wf (n := n) (ys := ys') (fv := fv) (hN s') (mdR_ltr (c := c) (m := m) (xs := xs) (nrS s')) (ltrL_le' (by have := hN s'; omega) caps hcp) (hwf s' hJ')
    have d1 : decide ((i : Int) = (n : Int)) = false := decide_eq_false (by omega)
    generalize hb : ys.take i = b at *
    obtain ⟨T, hT⟩ : ∃ T : Nat → List Nat × σ, ∀ k, T k = fd (fun j t => exB step m.y.toNat d (i + 1) (fr b + j) (t.1.set i (fr b + j), t.2)) k (ys, s) := ⟨_, fun k => rfl⟩
    have eT : exB step m.y.toNat (d + 1) i (fr b) (ys, s) = T (m.y.toNat - fr b) := by rw [hT]; rfl
    have T0 : T 0 = (ys, s) := by rw [hT]; rfl
    have Ts : ∀ k, T (k + 1) = exB step m.y.toNat d (i + 1) (fr b + k) ((T k).1.set i (fr b + k), (T k).2) := fun k => by rw [hT, hT, fd]
    have htk : ∀ l : List Nat, l.length = n → l.take i = b → ∀ u, (l.set i u).take (i + 1) = b ++ [u] := fun l h1 h2 u => by
      rw [List.take_succ_eq_append_getElem (by simp; omega), List.take_set_of_le (Nat.le_refl i), h2]
      simp
    have hI : ∀ k, k ≤ m.y.toNat - fr b → (T k).1.length = n ∧ (T k).1.take i = b ∧ J (T k).2 ∧ nrS s ≤ nrS (T k).2 := by
      intro k
      induction k with
      | zero => intro _; rw [T0]; exact ⟨hl, hb, hJ, Nat.le_refl _⟩
      | succ k ih =>
        intro hk
        obtain ⟨i1, i2, i3, i4⟩ := ih (by omega)
        have e1 := htk _ i1 i2 (fr b + k)
        have q := IH ((T k).1.set i (fr b + k)) (T k).2 (by omega) (by simpa using i1) (by rw [e1]; exact good_app hgd (by omega)) i3
        have q2 := exB_fold (step := step) (Y := m.y.toNat) d (i + 1) ((T k).1.set i (fr b + k)) (T k).2 (by rw [List.length_set]; omega)
        rw [e1, fr_app, ← Ts k] at q q2
        refine ⟨by omega, ?_, q.2.1, Nat.le_trans i4 q.2.2⟩
        have := congrArg (List.take i) q2.2.2
        rw [List.take_take, Nat.min_eq_left (Nat.le_succ i)] at this
        have hbl : b.length = i := hgd.len
        rw [this, ← hbl]; simp
    rw [eT]
    have hend := hI (m.y.toNat - fr b) (Nat.le_refl _)
    refine ⟨sh_of_wp mixed fun95 (by simp [eCap]) ?_, hend.2.2.1, hend.2.2.2⟩
    clear hT eT
    unfold ac95 ro95 eCap
    simp only [zipT, List.cons_append, List.nil_append]
    have e0 : ∀ n : Nat, 0 + ((n : Int)).toNat = n := fun n => by simp
    repeat (first | refine wG_pure (o_ldf_pt rfl eF_Y rfl rfl) ?_ | (first
    | refine wC_a rfl ?_
    | refine q_s rfl ?_
    | refine q_b rfl ?_
    | refine wG_nil ?_
    | refine wG_g rfl ?_
    | refine wG_pure (o_len_vwm rfl) ?_
    | refine wG_pure (o_not_d rfl) ?_
    | refine wG_p rfl (by first | exact rfl | omega) ?_
    | refine wG_pure (o_str2 rfl rfl rfl) ?_
    | refine wG_pure (e_istr rfl rfl (by omega)) ?_
    | refine wG_pure (e_istr0 rfl rfl (by omega)) ?_
    | refine wG_pure (o_not rfl) ?_
    | refine wG_pure (e_ia_vw0 rfl rfl (by omega) rfl) ?_
    | refine wG_pure (e_ia_vwp rfl rfl (by omega) rfl) ?_
    | refine wG_pure (e_ia_vwm rfl rfl (by omega) (by omega) rfl) ?_
    | refine wG_pure (e_ia_vwi rfl rfl (by omega) rfl) ?_
    | refine wG_pure (e_ia_vwn rfl rfl (by omega) (by omega) rfl) ?_
    | refine wG_n rfl rfl ?_
    | refine wG_u rfl rfl ?_
    | refine wG_new (o_mks rfl rfl (by omega) (by decide)) ?_))
    simp only [d1]
    repeat (first
    | refine wC_a rfl ?_
    | refine q_s rfl ?_
    | refine q_b rfl ?_
    | refine wG_nil ?_
    | refine wG_g rfl ?_
    | refine wG_pure (o_len_vwm rfl) ?_
    | refine wG_pure (o_not_d rfl) ?_
    | refine wG_p rfl (by first | exact rfl | omega) ?_
    | refine wG_pure (o_str2 rfl rfl rfl) ?_
    | refine wG_pure (e_istr rfl rfl (by omega)) ?_
    | refine wG_pure (e_istr0 rfl rfl (by omega)) ?_
    | refine wG_pure (o_not rfl) ?_
    | refine wG_pure (e_ia_vw0 rfl rfl (by omega) rfl) ?_
    | refine wG_pure (e_ia_vwp rfl rfl (by omega) rfl) ?_
    | refine wG_pure (e_ia_vwm rfl rfl (by omega) (by omega) rfl) ?_
    | refine wG_pure (e_ia_vwi rfl rfl (by omega) rfl) ?_
    | refine wG_pure (e_ia_vwn rfl rfl (by omega) (by omega) rfl) ?_
    | refine wG_n rfl rfl ?_
    | refine wG_u rfl rfl ?_
    | refine wG_new (o_mks rfl rfl (by omega) (by decide)) ?_)
    refine wC_loopS Nat (fun k => ⟨[(0, .int .i64 (i : Int)), (2, .pt (N + 3) 0 0), (3, .pt (N + 1) 0 0), (4, .pt N 0 0), (5, .pt (N + 4) 0 0), (8, .int .i64 ((fr b + k : Nat) : Int))], eF (mdR c m xs) N fv caps n (T k).1 (hs (T k).2), nrS (T k).2⟩) (fun k => k ≤ m.y.toNat - fr b) (fun k => m.y.toNat - fr b - k) 0 (Nat.zero_le _) ?_ (fun k hk => (hI k hk).2.2.2) ?_
    · have := hN s
      rw [T0]
      exact Le_of ⟨⟨rfl, rfl⟩, ⟨rfl, by simp [AV.ltr]; omega⟩, ⟨rfl, by simp [AV.ltr]; omega⟩, ⟨rfl, by simp [AV.ltr]; omega⟩, ⟨rfl, by simp [AV.ltr]; omega⟩, ⟨rfl, rfl⟩, trivial⟩ (fun q rows hq => hq) (hE _ _ hJ)
    intro k hk
    obtain ⟨l1, l2, l3, l4⟩ := hI k hk
    repeat (first | refine wG_pure (o_ldf_pt rfl eF_D rfl rfl) ?_ | (first
    | refine wC_a rfl ?_
    | refine q_s rfl ?_
    | refine q_b rfl ?_
    | refine wG_nil ?_
    | refine wG_g rfl ?_
    | refine wG_pure (o_len_vwm rfl) ?_
    | refine wG_pure (o_not_d rfl) ?_
    | refine wG_p rfl (by first | exact rfl | omega) ?_
    | refine wG_pure (o_str2 rfl rfl rfl) ?_
    | refine wG_pure (e_istr rfl rfl (by omega)) ?_
    | refine wG_pure (e_istr0 rfl rfl (by omega)) ?_
    | refine wG_pure (o_not rfl) ?_
    | refine wG_pure (e_ia_vw0 rfl rfl (by omega) rfl) ?_
    | refine wG_pure (e_ia_vwp rfl rfl (by omega) rfl) ?_
    | refine wG_pure (e_ia_vwm rfl rfl (by omega) (by omega) rfl) ?_
    | refine wG_pure (e_ia_vwi rfl rfl (by omega) rfl) ?_
    | refine wG_pure (e_ia_vwn rfl rfl (by omega) (by omega) rfl) ?_
    | refine wG_n rfl rfl ?_
    | refine wG_u rfl rfl ?_
    | refine wG_new (o_mks rfl rfl (by omega) (by decide)) ?_))
    refine wC_cond_d rfl (fun h5 => ?_) (fun h5 => ?_)
    · have hk2 : k < m.y.toNat - fr b := by omega
      obtain ⟨m1, m2, m3, m4⟩ := hI (k + 1) hk2
      have hN1 := hN (T (k + 1)).2
      have hat : ((T k).1.map nRow)[i]? = some (nRow (gN (T k).1 i)) := nGet (by omega)
      have e1 := htk _ l1 l2 (fr b + k)
      have q0 := (IH ((T k).1.set i (fr b + k)) (T k).2 (by omega) (by simpa using l1) (by rw [e1]; exact good_app hgd hk2) l3).1
      rw [e1, fr_app, ← Ts k] at q0
      have q4 := Sh_hg (eF_set (i := i) (v := fr b + k)).symm q0
      repeat (first | refine wG_pure (o_ldf_pt rfl eF_Y rfl rfl) ?_ | (refine wG_pure (e_ia_sl rfl rfl (by omega) (by omega)) ?_; simp only [e0]) | refine wG_upd (o_st1 rfl eF_A hat rfl rfl rfl) ?_ | refine wG_pure (o_ldf_pt rfl (hg_skip (by omega) eF_E) rfl rfl) ?_ | refine wG_callSv rfl q4 rfl ?_ | (first
    | refine wC_a rfl ?_
    | refine q_s rfl ?_
    | refine q_b rfl ?_
    | refine wG_nil ?_
    | refine wG_g rfl ?_
    | refine wG_pure (o_len_vwm rfl) ?_
    | refine wG_pure (o_not_d rfl) ?_
    | refine wG_p rfl (by first | exact rfl | omega) ?_
    | refine wG_pure (o_str2 rfl rfl rfl) ?_
    | refine wG_pure (e_istr rfl rfl (by omega)) ?_
    | refine wG_pure (e_istr0 rfl rfl (by omega)) ?_
    | refine wG_pure (o_not rfl) ?_
    | refine wG_pure (e_ia_vw0 rfl rfl (by omega) rfl) ?_
    | refine wG_pure (e_ia_vwp rfl rfl (by omega) rfl) ?_
    | refine wG_pure (e_ia_vwm rfl rfl (by omega) (by omega) rfl) ?_
    | refine wG_pure (e_ia_vwi rfl rfl (by omega) rfl) ?_
    | refine wG_pure (e_ia_vwn rfl rfl (by omega) (by omega) rfl) ?_
    | refine wG_n rfl rfl ?_
    | refine wG_u rfl rfl ?_
    | refine wG_new (o_mks rfl rfl (by omega) (by decide)) ?_))
      exact ⟨k + 1, hk2, by omega, Le_of ⟨⟨rfl, rfl⟩, ⟨rfl, by simp [AV.ltr]; omega⟩, ⟨rfl, by simp [AV.ltr]; omega⟩, ⟨rfl, by simp [AV.ltr]; omega⟩, ⟨rfl, by simp [AV.ltr]; omega⟩, ⟨rfl, rfl⟩, trivial⟩ (fun q rows hq => hq) (hE _ _ m3)⟩
    · have hk3 : k = m.y.toNat - fr b := by omega
      subst hk3
      repeat (first
    | refine wC_a rfl ?_
    | refine q_s rfl ?_
    | refine q_b rfl ?_
    | refine wG_nil ?_
    | refine wG_g rfl ?_
    | refine wG_pure (o_len_vwm rfl) ?_
    | refine wG_pure (o_not_d rfl) ?_
    | refine wG_p rfl (by first | exact rfl | omega) ?_
    | refine wG_pure (o_str2 rfl rfl rfl) ?_
    | refine wG_pure (e_istr rfl rfl (by omega)) ?_
    | refine wG_pure (e_istr0 rfl rfl (by omega)) ?_
    | refine wG_pure (o_not rfl) ?_
    | refine wG_pure (e_ia_vw0 rfl rfl (by omega) rfl) ?_
    | refine wG_pure (e_ia_vwp rfl rfl (by omega) rfl) ?_
    | refine wG_pure (e_ia_vwm rfl rfl (by omega) (by omega) rfl) ?_
    | refine wG_pure (e_ia_vwi rfl rfl (by omega) rfl) ?_
    | refine wG_pure (e_ia_vwn rfl rfl (by omega) (by omega) rfl) ?_
    | refine wG_n rfl rfl ?_
    | refine wG_u rfl rfl ?_
    | refine wG_new (o_mks rfl rfl (by omega) (by decide)) ?_)
      exact ⟨trivial, [], rfl, Le_of ⟨⟨rfl, rfl⟩, trivial⟩ (fun q rows hq => hq) (hE _ _ l3), l4⟩
theorem each_sh (hG : GoodM m xs) (hn : n = m.p.toNat + 1) (hN : ∀ s, N + 5 ≤ nrS s) (hwf : ∀ s, J s → wfH (hs s) (nrS s)) (hcp : ltrL N caps = true) (hmo : ∀ s ys, nrS s ≤ nrS (step s ys))
    (hv : ∀ s b, J s → GoodB m.y.toNat n b → Sh Try.prog fv ([.sl (N + 2) 1 0 n] ++ caps) (eF (mdR c m xs) N fv caps n b (hs s)) (nrS s) (.tup []) (eF (mdR c m xs) N fv caps n b (hs (step s b))) (nrS (step s b)) ∧ J (step s b))
    (hkey : ∀ s q rows, J s → hg (hs s) q = some rows → q < N ∨ N + 5 ≤ q) (s : σ) (hJ : J s) (hs0 : nrS s = N + 5) :
    Sh Try.prog 64 [.agg (mdR c m xs), .fn fv caps] (hs s) N (.tup []) (hs ((bL m.y.toNat n).foldl step s)) (nrS ((bL m.y.toNat n).foldl step s))
      ∧ J ((bL m.y.toNat n).foldl step s) := by
  obtain ⟨g1, g3, g4⟩ := ext_sh hG hn hN hwf hcp hmo hv n 0 (List.replicate n 0) s (by omega) (by simp) ⟨rfl, fun j hj => absurd hj (Nat.not_lt_zero _), fun j hj => absurd hj (Nat.not_lt_zero _)⟩ hJ
  have hPb := hG.2.2.1
  rw [List.take_zero, show fr [] = 0 from rfl] at g1 g3 g4
  obtain ⟨ys', hy'⟩ : ∃ ys', (exB step m.y.toNat n 0 0 (List.replicate n 0, s)).1 = ys' := ⟨_, rfl⟩
  rw [hy', exB_all] at g1
  rw [exB_all] at g3 g4
  refine ⟨sh_of_wp mixed fun64 (by simp) ?_, g3⟩
  unfold ac64 ro64
  simp only [zipT]
  have hrep : List.replicate n [AV.int .i64 0] = (List.replicate n (0 : Nat)).map nRow := by rw [List.map_replicate]; rfl
  have g0 : Sh Try.prog 95 ([.int .i64 0, .int .i64 0] ++ eCap N) ((N + 4, some [[.fn 95 (eCap N)]]) :: (N + 4, some [[.nilF]]) :: (N + 3, some [[.sl (N + 2) 1 0 n]]) :: (N + 3, some [[.nilS]]) :: (N + 2, some (List.replicate n [AV.int .i64 0])) :: (N + 1, some [[.fn fv caps]]) :: (N, some [mdR c m xs]) :: hs s) (N + 5) (.tup []) (eF (mdR c m xs) N fv caps n ys' (hs ((bL m.y.toNat n).foldl step s))) (nrS ((bL m.y.toNat n).foldl step s)) := by
    have g1' := g1
    rw [hs0] at g1'
    refine Sh_hg ?_ g1'
    rw [hrep]
    funext q
    unfold eF
    simp only [Ab.hg, upd]
    repeat' split
    all_goals (first | rfl | (exfalso; omega) | (subst_vars; omega))
  repeat (first | refine wG_new (o_box1 rfl) ?_ | refine wG_pure (o_mkf rfl) ?_ | refine wG_new (o_mksZ (n := n) (by omega) rfl rfl (by omega) (by decide)) ?_ | refine wG_upd (o_st1 rfl hg_here rfl rfl rfl rfl) ?_ | refine wG_pure (o_ldf_pt rfl hg_here rfl rfl) ?_ | refine wG_pure (o_ldf_pt rfl (hg_skip (by omega) hg_here) rfl rfl) ?_ | refine wG_callSv rfl g0 rfl ?_ | (first
    | refine wC_a rfl ?_
    | refine q_s rfl ?_
    | refine q_b rfl ?_
    | refine wG_nil ?_
    | refine wG_g rfl ?_
    | refine wG_pure (o_len_vwm rfl) ?_
    | refine wG_pure (o_not_d rfl) ?_
    | refine wG_p rfl (by first | exact rfl | omega) ?_
    | refine wG_pure (o_str2 rfl rfl rfl) ?_
    | refine wG_pure (e_istr rfl rfl (by omega)) ?_
    | refine wG_pure (e_istr0 rfl rfl (by omega)) ?_
    | refine wG_pure (o_not rfl) ?_
    | refine wG_pure (e_ia_vw0 rfl rfl (by omega) rfl) ?_
    | refine wG_pure (e_ia_vwp rfl rfl (by omega) rfl) ?_
    | refine wG_pure (e_ia_vwm rfl rfl (by omega) (by omega) rfl) ?_
    | refine wG_pure (e_ia_vwi rfl rfl (by omega) rfl) ?_
    | refine wG_pure (e_ia_vwn rfl rfl (by omega) (by omega) rfl) ?_
    | refine wG_n rfl rfl ?_
    | refine wG_u rfl rfl ?_
    | refine wG_new (o_mks rfl rfl (by omega) (by decide)) ?_))
  have hle : N ≤ nrS ((bL m.y.toNat n).foldl step s) := by have := hN ((bL m.y.toNat n).foldl step s); omega
  refine ⟨trivial, [], rfl, Le_of ⟨⟨rfl, rfl⟩, trivial⟩ (fun q rows hq => ?_) (hwf _ g3), hle⟩
  have := hkey _ q rows g3 hq
  exact hg_skip (by omega) (hg_skip (by omega) (hg_skip (by omega) (hg_skip (by omega) (hg_skip (by omega) hq))))
end
end Go.Proofs.Ytnohaclnpbpjbaa.Dst
