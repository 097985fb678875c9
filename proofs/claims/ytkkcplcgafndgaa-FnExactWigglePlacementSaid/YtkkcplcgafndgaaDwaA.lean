/- Sums and weights of distributions, on both sides. -/
import Derived.Test.YtkkcplcgafndgaaDstB
import Derived.Test.YtkkcplcgafndgaaAb1
namespace Go.Proofs.Ytkkcplcgafndgaa.Dst
open Go Go.Proofs.Ytkkcplcgafndgaa.Ab Go.Proofs.Ytkkcplcgafndgaa.Il
attribute [local irreducible] wpO wpC wpDr wpQ wpG wpE stepA seqQ blkQ Ret ev
set_option maxRecDepth 10000
set_option maxHeartbeats 4000000
set_option linter.unusedSimpArgs false
set_option linter.unusedVariables false
def ac50 : AC := (.seq (.reg [⟨(some 2), none, (.mv (.c (.int .i64 0)))⟩]) (.seq (.reg [⟨(some 3), none, (.mv (.c (.int .i64 0)))⟩]) (.seq (.seq (.reg [⟨(some 6), none, (.mv (.t 0))⟩, ⟨(some 7), none, (.len (.t 6))⟩, ⟨(some 8), none, (.mv (.c (.int .i64 0)))⟩]) (.blk 0 (.loop (.seq (.reg [⟨(some 9), none, (.bin .lss (.t 8) (.t 7))⟩]) (.seq (.cond (.t 9) .skip (.exit 0)) (.seq (.blk 1 (.seq (.reg [⟨(some 10), none, (.ia 1 (.t 6) (.t 8))⟩, ⟨(some 11), none, (.ld false 1 (.t 10))⟩, ⟨(some 5), none, (.mv (.t 11))⟩]) (.reg [⟨(some 12), none, (.mv (.t 3))⟩, ⟨(some 13), none, (.mv (.t 5))⟩, ⟨(some 14), none, (.bin .add (.t 12) (.t 13))⟩, ⟨(some 3), none, (.mv (.t 14))⟩]))) (.reg [⟨(some 15), none, (.bin .add (.t 8) (.c (.int .i64 1)))⟩, ⟨(some 8), none, (.mv (.t 15))⟩]))))))) (.seq (.reg [⟨(some 16), none, (.mv (.t 3))⟩, ⟨(some 2), none, (.mv (.t 16))⟩]) .ret))))
def ro50 : List AOp := [(.mv (.t 2))]
theorem fun50 : Fun Try.prog 50 17 ac50 ro50 := ⟨Try.f50, _, Try.func50, by kernel_rfl, rfl, rfl, by kernel_rfl, by kernel_rfl, by decide⟩

/-- The sum of the first elements. -/
def sm (ws : List Int) : Nat → Int
  | 0 => 0
  | i + 1 => sm ws i + ws.getD i default
theorem sm_b {ws : List Int} {B : Int} (hb : bnd ws B) : ∀ i, i ≤ ws.length → 0 ≤ sm ws i ∧ sm ws i ≤ i * B
  | 0, _ => by simp [sm]
  | i + 1, h => by
    have h1 := sm_b hb i (by omega)
    have h2 := hb i (by omega)
    have e : ((i + 1 : Nat) : Int) * B = i * B + B := by rw [Int.natCast_add, Int.add_mul]; simp
    simp only [sm]
    omega
theorem sm_le {ws : List Int} {B : Int} (hb : bnd ws B) (hB : 0 ≤ B) {i : Nat} (h : i ≤ ws.length) : 0 ≤ sm ws i ∧ sm ws i ≤ ws.length * B := by
  have h1 := sm_b hb i h
  have : (i : Int) * B ≤ ws.length * B := Int.mul_le_mul_of_nonneg_right (by omega) hB
  omega
theorem con50 (nn : Bool) (ws : List Int) (hlen : ws.length ≤ 1048576) {B : Int} (hb : bnd ws B) (hB : 0 ≤ B) (hS : ws.length * B ≤ 4611686018427387904) : Con Try.prog 50 true [.vw nn (ws.map iRow)] (.int .i64 (sm ws ws.length)) [] := by
  refine con_of_wp mixed fun50 (by simp) [] plain_nil ?_
  unfold ac50 ro50
  simp only [zipT]
  repeat (first
    | refine wC_a rfl ?_
    | refine q_s rfl ?_
    | refine q_b rfl ?_
    | refine wG_nil ?_
    | refine wG_g rfl ?_
    | refine wG_pure (o_len_vwm rfl) ?_
    | refine wG_pure (o_not_d rfl) ?_
    | refine wG_p rfl (by first | exact rfl | omega) ?_
    | refine wG_pure (o_not rfl) ?_
    | refine wG_pure (e_ia_vw0 rfl rfl (by omega) rfl) ?_
    | refine wG_pure (e_ia_vwp rfl rfl (by omega) rfl) ?_
    | refine wG_pure (e_ia_vwm rfl rfl (by omega) (by omega) rfl) ?_
    | refine wG_pure (e_ia_vwi rfl rfl (by omega) rfl) ?_
    | refine wG_pure (e_ia_vwn rfl rfl (by omega) (by omega) rfl) ?_
    | refine wG_n rfl rfl ?_
    | refine wG_u rfl rfl ?_
    | refine wG_new (o_mks rfl rfl (by omega) (by decide)) ?_)
  refine wC_loop Nat (fun i => ⟨[(6, .vw nn (ws.map iRow)), (7, .int .i64 (ws.length : Int)), (3, .int .i64 (sm ws i)), (8, .int .i64 (i : Int))], [], 0⟩) (fun i => i ≤ ws.length) (fun i => ws.length - i) 0 (Nat.zero_le _) ?_ (fun _ _ => Nat.le_refl _) ?_
  · simp [LeP, leT, leH, lk, AV.ltr, sm]
  intro i hi
  repeat (first
    | refine wC_a rfl ?_
    | refine q_s rfl ?_
    | refine q_b rfl ?_
    | refine wG_nil ?_
    | refine wG_g rfl ?_
    | refine wG_pure (o_len_vwm rfl) ?_
    | refine wG_pure (o_not_d rfl) ?_
    | refine wG_p rfl (by first | exact rfl | omega) ?_
    | refine wG_pure (o_not rfl) ?_
    | refine wG_pure (e_ia_vw0 rfl rfl (by omega) rfl) ?_
    | refine wG_pure (e_ia_vwp rfl rfl (by omega) rfl) ?_
    | refine wG_pure (e_ia_vwm rfl rfl (by omega) (by omega) rfl) ?_
    | refine wG_pure (e_ia_vwi rfl rfl (by omega) rfl) ?_
    | refine wG_pure (e_ia_vwn rfl rfl (by omega) (by omega) rfl) ?_
    | refine wG_n rfl rfl ?_
    | refine wG_u rfl rfl ?_
    | refine wG_new (o_mks rfl rfl (by omega) (by decide)) ?_)
  refine wC_cond_d rfl (fun h2 => ?_) (fun h2 => ?_)
  · have hi2 : i < ws.length := by omega
    have s0 := sm_le hb hB hi
    have s1 := sm_le hb hB (i := i + 1) hi2
    simp only [sm] at s1
    repeat (first
    | refine wC_a rfl ?_
    | refine q_s rfl ?_
    | refine q_b rfl ?_
    | refine wG_nil ?_
    | refine wG_g rfl ?_
    | refine wG_pure (o_len_vwm rfl) ?_
    | refine wG_pure (o_not_d rfl) ?_
    | refine wG_p rfl (by first | exact rfl | omega) ?_
    | refine wG_pure (o_not rfl) ?_
    | refine wG_pure (e_ia_vw0 rfl rfl (by omega) rfl) ?_
    | refine wG_pure (e_ia_vwp rfl rfl (by omega) rfl) ?_
    | refine wG_pure (e_ia_vwm rfl rfl (by omega) (by omega) rfl) ?_
    | refine wG_pure (e_ia_vwi rfl rfl (by omega) rfl) ?_
    | refine wG_pure (e_ia_vwn rfl rfl (by omega) (by omega) rfl) ?_
    | refine wG_n rfl rfl ?_
    | refine wG_u rfl rfl ?_
    | refine wG_new (o_mks rfl rfl (by omega) (by decide)) ?_)
    exact ⟨i + 1, by omega, by omega, by simp [LeP, leT, leH, lk, AV.ltr, sm]⟩
  · have hi3 : i = ws.length := by omega
    subst hi3
    repeat (first
    | refine wC_a rfl ?_
    | refine q_s rfl ?_
    | refine q_b rfl ?_
    | refine wG_nil ?_
    | refine wG_g rfl ?_
    | refine wG_pure (o_len_vwm rfl) ?_
    | refine wG_pure (o_not_d rfl) ?_
    | refine wG_p rfl (by first | exact rfl | omega) ?_
    | refine wG_pure (o_not rfl) ?_
    | refine wG_pure (e_ia_vw0 rfl rfl (by omega) rfl) ?_
    | refine wG_pure (e_ia_vwp rfl rfl (by omega) rfl) ?_
    | refine wG_pure (e_ia_vwm rfl rfl (by omega) (by omega) rfl) ?_
    | refine wG_pure (e_ia_vwi rfl rfl (by omega) rfl) ?_
    | refine wG_pure (e_ia_vwn rfl rfl (by omega) (by omega) rfl) ?_
    | refine wG_n rfl rfl ?_
    | refine wG_u rfl rfl ?_
    | refine wG_new (o_mks rfl rfl (by omega) (by decide)) ?_)
    exact ret_intE (.inr rfl) ⟨_, retV_mv rfl, rfl⟩

theorem GoodD.bnd {d : Ds} (h : GoodD d) : bnd d.ws 1000000 := h.2.2.2.1
def total (d : Ds) : Int := sm d.ws d.ws.length
theorem GoodD.total_b {d : Ds} (h : GoodD d) : 0 ≤ total d ∧ total d ≤ 60000000 := by
  have h1 := sm_b h.bnd d.ws.length (Nat.le_refl _)
  have h2 := h.1.2
  have : (d.ws.length : Int) * 1000000 ≤ 60 * 1000000 := by omega
  unfold total
  omega
def inD (d : Ds) (year : Int) : Prop := d.f ≤ year ∧ year ≤ d.f + d.ws.length - 1
instance (d : Ds) (year : Int) : Decidable (inD d year) := by unfold inD; infer_instance
/-- The weight of a year. -/
def atY (d : Ds) (year : Int) : Int := if inD d year then d.ws.getD (year - d.f).toNat default else 0
theorem atY_yes {f : Int} {ws : List Int} {y : Int} (h : f ≤ y ∧ y ≤ f + ws.length - 1) : ws.getD (y - f).toNat default = atY ⟨f, ws⟩ y := (if_pos (c := inD ⟨f, ws⟩ y) h).symm
theorem atY_no {f : Int} {ws : List Int} {y : Int} (h : ¬ (f ≤ y ∧ y ≤ f + ws.length - 1)) : 0 = atY ⟨f, ws⟩ y := (if_neg (c := inD ⟨f, ws⟩ y) h).symm
theorem GoodD.at_b {d : Ds} (h : GoodD d) (year : Int) : 0 ≤ atY d year ∧ atY d year ≤ 1000000 := by
  unfold atY
  split
  · rename_i hi
    unfold inD at hi
    exact h.bnd _ (by omega)
  · decide
end Go.Proofs.Ytkkcplcgafndgaa.Dst
