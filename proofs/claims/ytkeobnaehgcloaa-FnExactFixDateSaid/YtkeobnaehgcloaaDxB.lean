/- The law on a fixed date. -/
import Derived.Test.YtkeobnaehgcloaaDxA
import Derived.Test.YtkeobnaehgcloaaDnV
import Derived.Test.YtkeobnaehgcloaaDnX
import Derived.Test.YtkeobnaehgcloaaDnD
namespace Go.Proofs.Ytkeobnaehgcloaa.Dst
open Go Go.Proofs.Ytkeobnaehgcloaa.Ab Go.Proofs.Ytkeobnaehgcloaa.Il Go.Proofs.Ytkeobnaehgcloaa.Rec
attribute [local irreducible] wpO wpC wpDr wpQ wpG wpE stepA seqQ blkQ Ret RetG ev
set_option maxRecDepth 10000
set_option maxHeartbeats 8000000
set_option linter.unusedSimpArgs false
set_option linter.unusedVariables false

def ac9 : AC := (.seq (.reg [⟨(some 3), none, (.box 3 true (.t 0))⟩, ⟨(some 6), none, (.mv (.c (.bool false)))⟩]) (.seq (.reg [⟨(some 7), none, (.mv (.c (.int .i64 1048576)))⟩]) (.seq (.reg [⟨(some 18), none, (.ld true 3 (.t 3))⟩, ⟨(some 19), none, (.mv (.t 7))⟩, ⟨(some 20), none, (.call 12 [(.t 18), (.t 19)])⟩, ⟨(some 7), none, (.mv (.t 20))⟩]) (.seq (.seq (.reg [⟨(some 21), none, (.mv (.t 7))⟩, ⟨(some 22), none, (.bin .lss (.t 21) (.c (.int .i64 0)))⟩]) (.cond (.t 22) (.seq (.reg [⟨(some 6), none, (.mv (.c (.bool true)))⟩]) .ret) .skip)) (.seq (.reg [⟨(some 24), none, (.ld true 3 (.t 3))⟩, ⟨(some 25), none, (.call 15 [(.t 24)])⟩, ⟨(some 26), none, (.mv (.t 1))⟩, ⟨(some 27), none, (.mv (.t 2))⟩, ⟨(some 28), none, (.call 37 [(.t 25), (.t 26), (.t 27)])⟩, ⟨(some 23), none, (.mv (.t 28))⟩, ⟨(some 29), none, (.ext (.t 23) 0)⟩, ⟨(some 30), none, (.ext (.t 23) 1)⟩, ⟨(some 8), none, (.alloc [.nilS, .nilS, .nilS])⟩, ⟨none, none, (.st 3 (.t 8) (.t 29))⟩, ⟨(some 9), none, (.mv (.t 30))⟩]) (.seq (.reg [⟨(some 31), none, (.ld true 3 (.t 3))⟩, ⟨(some 32), none, (.call 15 [(.t 31)])⟩, ⟨(some 10), none, (.alloc [.nilS, .nilS, .nilS])⟩, ⟨none, none, (.st 3 (.t 10) (.t 32))⟩]) (.seq (.reg [⟨(some 34), none, (.ld true 3 (.t 10))⟩, ⟨(some 35), none, (.mv (.t 1))⟩, ⟨(some 36), none, (.mv (.t 2))⟩, ⟨(some 37), none, (.call 38 [(.t 34), (.t 35), (.t 36)])⟩, ⟨(some 33), none, (.mv (.t 37))⟩, ⟨(some 38), none, (.ext (.t 33) 0)⟩, ⟨(some 39), none, (.ext (.t 33) 1)⟩, ⟨(some 11), none, (.alloc [.nilS, .nilS, .nilS])⟩, ⟨none, none, (.st 3 (.t 11) (.t 38))⟩, ⟨(some 12), none, (.mv (.t 39))⟩]) (.seq (.seq (.reg [⟨(some 40), none, (.ld true 3 (.t 11))⟩, ⟨(some 41), none, (.ld true 3 (.t 8))⟩, ⟨(some 42), none, (.call 18 [(.t 40), (.t 41)])⟩, ⟨(some 43), none, (.un .not (.t 42))⟩, ⟨(some 44), none, (.mv (.t 43))⟩, ⟨(some 45), (some (44, false)), (.mv (.t 12))⟩, ⟨(some 46), (some (44, false)), (.mv (.t 9))⟩, ⟨(some 47), (some (44, false)), (.bool2 true (.t 45) (.t 46))⟩, ⟨(some 48), none, (.pick (.t 44) (.c (.bool true)) (.t 47))⟩]) (.cond (.t 48) (.seq (.reg [⟨(some 6), none, (.mv (.c (.bool false)))⟩]) .ret) .skip)) (.seq (.seq (.dreg [⟨(some 49), none, (.ld true 3 (.t 10))⟩, ⟨(some 50), none, (.ld true 3 (.t 3))⟩, ⟨(some 51), none, (.call 15 [(.t 50)])⟩, ⟨(some 52), none, (.call 18 [(.t 49), (.t 51)])⟩, ⟨(some 53), none, (.un .not (.t 52))⟩] [[], [], [1], [0, 1, 2], [0, 1, 2, 3]]) (.cond (.t 53) (.seq (.reg [⟨(some 6), none, (.mv (.c (.bool false)))⟩]) .ret) .skip)) (.seq (.reg [⟨(some 13), none, (.mv (.c (.int .i64 1)))⟩]) (.seq (.reg [⟨(some 54), none, (.ld true 3 (.t 10))⟩, ⟨(some 55), none, (.mv (.t 13))⟩, ⟨(some 56), none, (.call 20 [(.t 54), (.t 55)])⟩, ⟨(some 13), none, (.mv (.t 56))⟩]) (.seq (.seq (.reg [⟨(some 57), none, (.mv (.t 13))⟩, ⟨(some 58), none, (.bin .lss (.t 57) (.c (.int .i64 0)))⟩, ⟨(some 59), none, (.mv (.t 58))⟩, ⟨(some 60), (some (59, false)), (.ld true 3 (.t 11))⟩, ⟨(some 61), (some (59, false)), (.ld true 3 (.t 8))⟩, ⟨(some 62), (some (59, false)), (.call 18 [(.t 60), (.t 61)])⟩, ⟨(some 63), (some (59, false)), (.un .not (.t 62))⟩, ⟨(some 64), none, (.pick (.t 59) (.c (.bool true)) (.t 63))⟩, ⟨(some 65), none, (.mv (.t 64))⟩, ⟨(some 66), (some (65, false)), (.mv (.t 12))⟩, ⟨(some 67), (some (65, false)), (.mv (.t 9))⟩, ⟨(some 68), (some (65, false)), (.bool2 true (.t 66) (.t 67))⟩, ⟨(some 69), none, (.pick (.t 65) (.c (.bool true)) (.t 68))⟩]) (.cond (.t 69) (.seq (.reg [⟨(some 6), none, (.mv (.c (.bool false)))⟩]) .ret) .skip)) (.seq (.reg [⟨(some 14), none, (.mv (.c (.int .i64 1)))⟩]) (.seq (.reg [⟨(some 70), none, (.ld true 3 (.t 11))⟩, ⟨(some 71), none, (.mv (.t 14))⟩, ⟨(some 72), none, (.call 20 [(.t 70), (.t 71)])⟩, ⟨(some 14), none, (.mv (.t 72))⟩]) (.seq (.reg [⟨(some 15), none, (.mv (.c (.int .i64 1)))⟩]) (.seq (.reg [⟨(some 73), none, (.ld true 3 (.t 11))⟩, ⟨(some 74), none, (.mv (.t 15))⟩, ⟨(some 75), none, (.call 22 [(.t 73), (.t 74)])⟩, ⟨(some 15), none, (.mv (.t 75))⟩]) (.seq (.seq (.reg [⟨(some 76), none, (.mv (.t 15))⟩, ⟨(some 77), none, (.bin .lss (.t 76) (.c (.int .i64 0)))⟩]) (.cond (.t 77) (.seq (.reg [⟨(some 6), none, (.mv (.c (.bool false)))⟩]) .ret) .skip)) (.seq (.seq (.reg [⟨(some 78), none, (.mv (.t 15))⟩, ⟨(some 79), none, (.mv (.t 14))⟩, ⟨(some 80), none, (.bin .neq (.t 78) (.t 79))⟩]) (.cond (.t 80) (.seq (.reg [⟨(some 6), none, (.mv (.c (.bool false)))⟩]) .ret) .skip)) (.seq (.reg [⟨(some 82), none, (.ld true 3 (.t 3))⟩, ⟨(some 83), none, (.call 15 [(.t 82)])⟩, ⟨(some 84), none, (.mv (.t 1))⟩, ⟨(some 85), none, (.mv (.t 2))⟩, ⟨(some 86), none, (.call 38 [(.t 83), (.t 84), (.t 85)])⟩, ⟨(some 81), none, (.mv (.t 86))⟩, ⟨(some 87), none, (.ext (.t 81) 0)⟩, ⟨(some 88), none, (.ext (.t 81) 1)⟩, ⟨(some 16), none, (.alloc [.nilS, .nilS, .nilS])⟩, ⟨none, none, (.st 3 (.t 16) (.t 87))⟩, ⟨(some 17), none, (.mv (.t 88))⟩]) (.seq (.seq (.reg [⟨(some 89), none, (.ld true 3 (.t 16))⟩, ⟨(some 90), none, (.ld true 3 (.t 8))⟩, ⟨(some 91), none, (.call 18 [(.t 89), (.t 90)])⟩, ⟨(some 92), none, (.un .not (.t 91))⟩, ⟨(some 93), none, (.mv (.t 92))⟩, ⟨(some 94), (some (93, false)), (.mv (.t 17))⟩, ⟨(some 95), (some (93, false)), (.mv (.t 9))⟩, ⟨(some 96), (some (93, false)), (.bool2 true (.t 94) (.t 95))⟩, ⟨(some 97), none, (.pick (.t 93) (.c (.bool true)) (.t 96))⟩]) (.cond (.t 97) (.seq (.reg [⟨(some 6), none, (.mv (.c (.bool false)))⟩]) .ret) .skip)) (.seq (.reg [⟨(some 15), none, (.mv (.c (.int .i64 1)))⟩]) (.seq (.reg [⟨(some 98), none, (.ld true 3 (.t 11))⟩, ⟨(some 99), none, (.mv (.t 15))⟩, ⟨(some 100), none, (.call 22 [(.t 98), (.t 99)])⟩, ⟨(some 15), none, (.mv (.t 100))⟩]) (.seq (.seq (.reg [⟨(some 101), none, (.mv (.t 15))⟩, ⟨(some 102), none, (.bin .lss (.t 101) (.c (.int .i64 0)))⟩]) (.cond (.t 102) (.seq (.reg [⟨(some 6), none, (.mv (.c (.bool false)))⟩]) .ret) .skip)) (.seq (.seq (.reg [⟨(some 103), none, (.mv (.t 15))⟩, ⟨(some 104), none, (.mv (.t 14))⟩, ⟨(some 105), none, (.bin .neq (.t 103) (.t 104))⟩]) (.cond (.t 105) (.seq (.reg [⟨(some 6), none, (.mv (.c (.bool false)))⟩]) .ret) .skip)) (.seq (.reg [⟨(some 6), none, (.mv (.c (.bool true)))⟩]) .ret)))))))))))))))))))))))))
def ro9 : List AOp := [(.mv (.t 6))]
theorem fun9 : Fun Try.prog 9 106 ac9 ro9 := ⟨Try.f9, _, Try.func9, by kernel_rfl, rfl, rfl, by kernel_rfl, by kernel_rfl, by decide⟩

/-- A heap without k objects from m on. -/
def rmv (m k : Nat) (h : List (Nat × Option Ab.Rows)) : List (Nat × Option Ab.Rows) := (List.range k).map (fun i => (m + i, none)) ++ h
theorem hg_rmvA (m : Nat) (h : List (Nat × Option Ab.Rows)) (y : Nat) : ∀ l : List Nat, hg (l.map (fun i => (m + i, (none : Option Ab.Rows))) ++ h) y = if ∃ i ∈ l, y = m + i then none else hg h y
  | [] => by simp
  | a :: l => by
    have e : hg ((a :: l).map (fun i => (m + i, (none : Option Ab.Rows))) ++ h) y = if y = m + a then none else hg (l.map (fun i => (m + i, (none : Option Ab.Rows))) ++ h) y := rfl
    rw [e, hg_rmvA m h y l]
    by_cases h1 : y = m + a
    · rw [if_pos h1, if_pos ⟨a, List.mem_cons_self, h1⟩]
    · rw [if_neg h1]
      by_cases h2 : ∃ i ∈ l, y = m + i
      · obtain ⟨i, hi, e2⟩ := h2
        rw [if_pos ⟨i, hi, e2⟩, if_pos ⟨i, List.mem_cons_of_mem _ hi, e2⟩]
      · rw [if_neg h2, if_neg]
        rintro ⟨i, hi, e2⟩
        rcases List.mem_cons.1 hi with rfl | h3
        · exact h1 e2
        · exact h2 ⟨i, h3, e2⟩
theorem rmv_out {m k y : Nat} {h : List (Nat × Option Ab.Rows)} {o : Option Ab.Rows} (hy : y < m ∨ m + k ≤ y) (h1 : hg h y = o) : hg (rmv m k h) y = o := by
  rw [rmv, hg_rmvA, if_neg]
  · exact h1
  · rintro ⟨i, hi, rfl⟩
    have := List.mem_range.1 hi
    omega
theorem rmv_sub {m k y : Nat} {h : List (Nat × Option Ab.Rows)} {rows : Ab.Rows} (h1 : hg (rmv m k h) y = some rows) : hg h y = some rows ∧ (y < m ∨ m + k ≤ y) := by
  rw [rmv, hg_rmvA] at h1
  split at h1
  · cases h1
  · rename_i hn
    refine ⟨h1, ?_⟩
    by_cases g : m ≤ y ∧ y < m + k
    · exact absurd ⟨y - m, List.mem_range.2 (by omega), by omega⟩ hn
    · omega
theorem rmv_wf {m k nr : Nat} {h : List (Nat × Option Ab.Rows)} (hw : wfH h nr) : wfH (rmv m k h) nr := fun y rows hy => hw y rows (rmv_sub hy).1
abbrev HP := List (Nat × Option Ab.Rows)
theorem hpG {P : Program} {os : List AO} {t : List (Nat × AV)} {h : HP} {nr : Nat} {K : St → Prop} (F : HP → Prop) (hf : F h) (hw : ∀ H, F H → wpG P false os ⟨t, H, nr⟩ K) : wpG P false os ⟨t, h, nr⟩ K := hw h hf
theorem wE_nilF {P : Program} {A : List (List Nat)} {acc : List (List Nat × List Nat)} {t : List (Nat × AV)} {h : HP} {nr : Nat} {K : St → Prop} (F : HP → Prop) (hh : hokB A acc.reverse = true) (hf : F h) (hw : ∀ H, F H → K ⟨t, H, nr⟩) : wpE P A [] ⟨t, h, nr⟩ acc K := wE_nil hh (hw h hf)
def bx3 (s : Nat) (r : Rc) (Y : List Dn) : List AV := [.sl s 2 0 r.cs.length, .sl (s + 1) 2 0 r.xs.length, .sl (s + 2) 2 0 Y.length]
/-- A copied record with its place. -/
structure FM (r : Rc) (xs : List Dn) (m p : Nat) (H : HP) : Prop where
  fm : ∀ i rows, (dtO r xs)[i]? = some rows → hg H (m + i) = some (shR m rows)
  fp : hg H p = some [bx3 m r xs]
theorem FM.mv {r : Rc} {xs : List Dn} {m p : Nat} {H H' : HP} (f : FM r xs m p H) (D : Nat → Prop) (k : ∀ i o, D i → hg H i = o → hg H' i = o) (ds : ∀ i, i < xs.length + 3 → D (m + i)) (dz : D p) : FM r xs m p H' := ⟨fun i rows hi => k _ _ (ds i (dtO_lt hi)) (f.fm i rows hi), k _ _ dz f.fp⟩
theorem sL_b {Y : List Dn} {B : Nat} : ∀ n, (∀ i, i < n → (Y.getD i default).d.ws.length ≤ B) → sL Y n ≤ B * n
  | 0, _ => Nat.le_refl _
  | n + 1, h => by
    have h1 := sL_b n (fun i hi => h i (by omega))
    have h2 := h n (by omega)
    rw [sL, Nat.mul_succ]; omega
theorem bx3_M (g : Nat) (r : Rc) (Y : List Dn) : bx3 g (rM r) (xM r Y) = bx3 g r Y := by unfold bx3; rw [rM_cs, rM_xs, xM_len]
theorem lawF_yes (a b c : Bool) (r : Rc) (xs : List Dn) (x y : Int) (Y : List Dn) (h1' : r.cs.length ≤ 1048576) (h2' : r.xs.length ≤ 1048576) (h3' : xs.length ≤ 1048576) (hL' : LenN xs 1048576) (hY10 : Y.length ≤ 10) (hY60 : ∀ i, i < Y.length → (Y.getD i default).d.ws.length ≤ 60) (hS : sL xs xs.length ≤ 1048576)
    (cS : ConG Try.prog 37 true [.agg (dtR true true true r (tD xs)), .int .i64 x, .int .i64 y] (aY r Y.length) (dtO r Y)) (cI : ConG Try.prog 38 true [.agg (dtR true true true r (tD xs)), .int .i64 x, .int .i64 y] (aY r Y.length) (dtO r Y))
    (l1 : Int) (hl1 : 0 ≤ l1) (c1 : Con Try.prog 12 true [.agg (dtR a b c r xs), .int .i64 1048576] (.int .i64 l1) []) : Con Try.prog 9 true [.agg (dtR a b c r xs), .int .i64 x, .int .i64 y] (.bool true) [] := by
  classical
  refine con_of_wp mixed fun9 (by simp) [] plain_nil ?_
  unfold ac9 ro9
  simp only [zipT]
  have h3t : (tD xs).length ≤ 1048576 := by rw [tD_len]; exact h3'
  have hLt := hL'.t
  have cT := con15 a b c r xs h1' h2' h3' hL'
  have cE := con18 true true true true true true r (tD xs) h1' h2' h3t hLt
  have cY := con18 true true true true true true r (tD Y) h1' h2' (by rw [tD_len]; omega) (fun i hi => by rw [tD_d]; rw [tD_len] at hi; have := hY60 i hi; omega)
  have hSY : sL Y Y.length ≤ 1048576 := by have := sL_b Y.length hY60; omega
  have hlen := dtO_len r xs
  have hlenY := dtO_len r Y
  have d1 : decide (l1 < 0) = false := decide_eq_false (by omega)
  repeat (first | refine wG_call c1 rfl rfl ?_ | (first
    | refine wC_a rfl ?_
    | refine q_s rfl ?_
    | refine q_b rfl ?_
    | refine wG_nil ?_
    | refine wG_g rfl ?_
    | refine wG_pure (o_len_vwm rfl) ?_
    | refine wG_pure (o_not_d rfl) ?_
    | refine wG_p rfl (by first | exact rfl | omega) ?_
    | refine wG_pure (o_str2 rfl rfl rfl) ?_
    | refine wG_pure (e_istr rfl rfl (by omega)) ?_
    | refine wG_pure (e_istr0 rfl rfl (by omega)) ?_
    | refine wG_pure (o_not rfl) ?_
    | refine wG_pure (e_ia_vw0 rfl rfl (by omega) rfl) ?_
    | refine wG_pure (e_ia_vwp rfl rfl (by omega) rfl) ?_
    | refine wG_pure (e_ia_vwm rfl rfl (by omega) (by omega) rfl) ?_
    | refine wG_pure (e_ia_vwi rfl rfl (by omega) rfl) ?_
    | refine wG_pure (e_ia_vwn rfl rfl (by omega) (by omega) rfl) ?_
    | refine wG_n rfl rfl ?_
    | refine wG_u rfl rfl ?_
    | refine wG_new (o_mks rfl rfl (by omega) (by decide)) ?_))
  simp only [d1]
  repeat (first
    | refine wC_a rfl ?_
    | refine q_s rfl ?_
    | refine q_b rfl ?_
    | refine wG_nil ?_
    | refine wG_g rfl ?_
    | refine wG_pure (o_len_vwm rfl) ?_
    | refine wG_pure (o_not_d rfl) ?_
    | refine wG_p rfl (by first | exact rfl | omega) ?_
    | refine wG_pure (o_str2 rfl rfl rfl) ?_
    | refine wG_pure (e_istr rfl rfl (by omega)) ?_
    | refine wG_pure (e_istr0 rfl rfl (by omega)) ?_
    | refine wG_pure (o_not rfl) ?_
    | refine wG_pure (e_ia_vw0 rfl rfl (by omega) rfl) ?_
    | refine wG_pure (e_ia_vwp rfl rfl (by omega) rfl) ?_
    | refine wG_pure (e_ia_vwm rfl rfl (by omega) (by omega) rfl) ?_
    | refine wG_pure (e_ia_vwi rfl rfl (by omega) rfl) ?_
    | refine wG_pure (e_ia_vwn rfl rfl (by omega) (by omega) rfl) ?_
    | refine wG_n rfl rfl ?_
    | refine wG_u rfl rfl ?_
    | refine wG_new (o_mks rfl rfl (by omega) (by decide)) ?_)
  refine wG_callG (v' := dtV 1 r xs) cT rfl rfl rfl ?_
  change wpG _ _ _ ⟨_, dtH 1 r xs _, _⟩ _
  obtain ⟨y1, hy1⟩ : ∃ y1, 0 + 1 + (dtO r xs).length = y1 := ⟨_, rfl⟩
  rw [hy1]
  repeat (first
    | refine wC_a rfl ?_
    | refine q_s rfl ?_
    | refine q_b rfl ?_
    | refine wG_nil ?_
    | refine wG_g rfl ?_
    | refine wG_pure (o_len_vwm rfl) ?_
    | refine wG_pure (o_not_d rfl) ?_
    | refine wG_p rfl (by first | exact rfl | omega) ?_
    | refine wG_pure (o_str2 rfl rfl rfl) ?_
    | refine wG_pure (e_istr rfl rfl (by omega)) ?_
    | refine wG_pure (e_istr0 rfl rfl (by omega)) ?_
    | refine wG_pure (o_not rfl) ?_
    | refine wG_pure (e_ia_vw0 rfl rfl (by omega) rfl) ?_
    | refine wG_pure (e_ia_vwp rfl rfl (by omega) rfl) ?_
    | refine wG_pure (e_ia_vwm rfl rfl (by omega) (by omega) rfl) ?_
    | refine wG_pure (e_ia_vwi rfl rfl (by omega) rfl) ?_
    | refine wG_pure (e_ia_vwn rfl rfl (by omega) (by omega) rfl) ?_
    | refine wG_n rfl rfl ?_
    | refine wG_u rfl rfl ?_
    | refine wG_new (o_mks rfl rfl (by omega) (by decide)) ?_)
  refine wG_callG (v' := .tup [dtV y1 r Y, .bool true]) cS (ag_any (dr_dt r xs (fun i rows hi => dtH_in hi)) (ag_int rfl (ag_int rfl ag_nil))) rfl rfl ?_
  change wpG _ _ _ ⟨_, dtH y1 r Y _, _⟩ _
  obtain ⟨z1, hz1⟩ : ∃ z1, y1 + (dtO r Y).length = z1 := ⟨_, rfl⟩
  rw [hz1]
  repeat (first | refine wG_upd (o_st_agg rfl hg_here rfl rfl rfl rfl rfl) ?_ | (first
    | refine wC_a rfl ?_
    | refine q_s rfl ?_
    | refine q_b rfl ?_
    | refine wG_nil ?_
    | refine wG_g rfl ?_
    | refine wG_pure (o_len_vwm rfl) ?_
    | refine wG_pure (o_not_d rfl) ?_
    | refine wG_p rfl (by first | exact rfl | omega) ?_
    | refine wG_pure (o_str2 rfl rfl rfl) ?_
    | refine wG_pure (e_istr rfl rfl (by omega)) ?_
    | refine wG_pure (e_istr0 rfl rfl (by omega)) ?_
    | refine wG_pure (o_not rfl) ?_
    | refine wG_pure (e_ia_vw0 rfl rfl (by omega) rfl) ?_
    | refine wG_pure (e_ia_vwp rfl rfl (by omega) rfl) ?_
    | refine wG_pure (e_ia_vwm rfl rfl (by omega) (by omega) rfl) ?_
    | refine wG_pure (e_ia_vwi rfl rfl (by omega) rfl) ?_
    | refine wG_pure (e_ia_vwn rfl rfl (by omega) (by omega) rfl) ?_
    | refine wG_n rfl rfl ?_
    | refine wG_u rfl rfl ?_
    | refine wG_new (o_mks rfl rfl (by omega) (by decide)) ?_))
  refine hpG (fun H => hg H 0 = some [dtR a b c r xs] ∧ FM r Y y1 z1 H ∧ wfH H (z1 + 1)) ⟨?_, ⟨fun i rows hi => ?_, hg_here⟩, ?_⟩ ?_
  · exact hg_skip (by omega) (hg_skip (by omega) (dtH_out (by omega) (dtH_out (by omega) rfl)))
  · have := dtO_lt hi
    exact hg_skip (by omega) (hg_skip (by omega) (dtH_in hi))
  · exact wfH_cons (by omega) (by simp [put, AV.ltr]; omega) (wfH_cons (by omega) (by simp [AV.ltr]) (dtH_wf (by omega) (dtH_wf (by omega) (wfH_cons (by omega) (by simp [dtR, AV.ltr]) wfH_nil))))
  rintro H1 ⟨f0, fa, fw⟩
  repeat (first | refine wG_pure (o_ldt_pt rfl f0 rfl rfl rfl) ?_ | (first
    | refine wC_a rfl ?_
    | refine q_s rfl ?_
    | refine q_b rfl ?_
    | refine wG_nil ?_
    | refine wG_g rfl ?_
    | refine wG_pure (o_len_vwm rfl) ?_
    | refine wG_pure (o_not_d rfl) ?_
    | refine wG_p rfl (by first | exact rfl | omega) ?_
    | refine wG_pure (o_str2 rfl rfl rfl) ?_
    | refine wG_pure (e_istr rfl rfl (by omega)) ?_
    | refine wG_pure (e_istr0 rfl rfl (by omega)) ?_
    | refine wG_pure (o_not rfl) ?_
    | refine wG_pure (e_ia_vw0 rfl rfl (by omega) rfl) ?_
    | refine wG_pure (e_ia_vwp rfl rfl (by omega) rfl) ?_
    | refine wG_pure (e_ia_vwm rfl rfl (by omega) (by omega) rfl) ?_
    | refine wG_pure (e_ia_vwi rfl rfl (by omega) rfl) ?_
    | refine wG_pure (e_ia_vwn rfl rfl (by omega) (by omega) rfl) ?_
    | refine wG_n rfl rfl ?_
    | refine wG_u rfl rfl ?_
    | refine wG_new (o_mks rfl rfl (by omega) (by decide)) ?_))
  refine wG_callG (v' := dtV (z1 + 1) r xs) cT rfl rfl rfl ?_
  change wpG _ _ _ ⟨_, dtH (z1 + 1) r xs _, _⟩ _
  obtain ⟨p1, hp1⟩ : ∃ p1, z1 + 1 + (dtO r xs).length = p1 := ⟨_, rfl⟩
  rw [hp1]
  repeat (first | refine wG_upd (o_st_agg rfl hg_here rfl rfl rfl rfl rfl) ?_ | (first
    | refine wC_a rfl ?_
    | refine q_s rfl ?_
    | refine q_b rfl ?_
    | refine wG_nil ?_
    | refine wG_g rfl ?_
    | refine wG_pure (o_len_vwm rfl) ?_
    | refine wG_pure (o_not_d rfl) ?_
    | refine wG_p rfl (by first | exact rfl | omega) ?_
    | refine wG_pure (o_str2 rfl rfl rfl) ?_
    | refine wG_pure (e_istr rfl rfl (by omega)) ?_
    | refine wG_pure (e_istr0 rfl rfl (by omega)) ?_
    | refine wG_pure (o_not rfl) ?_
    | refine wG_pure (e_ia_vw0 rfl rfl (by omega) rfl) ?_
    | refine wG_pure (e_ia_vwp rfl rfl (by omega) rfl) ?_
    | refine wG_pure (e_ia_vwm rfl rfl (by omega) (by omega) rfl) ?_
    | refine wG_pure (e_ia_vwi rfl rfl (by omega) rfl) ?_
    | refine wG_pure (e_ia_vwn rfl rfl (by omega) (by omega) rfl) ?_
    | refine wG_n rfl rfl ?_
    | refine wG_u rfl rfl ?_
    | refine wG_new (o_mks rfl rfl (by omega) (by decide)) ?_))
  refine hpG (fun H => hg H 0 = some [dtR a b c r xs] ∧ FM r Y y1 z1 H ∧ FM r xs (z1 + 1) p1 H ∧ wfH H (p1 + 1)) ⟨hg_skip (by omega) (hg_skip (by omega) (dtH_out (by omega) f0)), fa.mv (· < z1 + 1) (fun i o hi ho => hg_skip (by omega) (hg_skip (by omega) (dtH_out (by omega) ho))) (fun i hi => by omega) (by omega), ⟨fun i rows hi => ?_, hg_here⟩, ?_⟩ ?_
  · have := dtO_lt hi
    exact hg_skip (by omega) (hg_skip (by omega) (dtH_in hi))
  · exact wfH_cons (by omega) (by simp [put, AV.ltr]; omega) (wfH_cons (by omega) (by simp [AV.ltr]) (dtH_wf (by omega) (wfH_le fw (by omega))))
  clear f0 fa fw
  rintro H2 ⟨f0, fa, fm, fw⟩
  repeat (first | refine wG_pure (o_ldt_pt rfl fm.fp rfl rfl rfl) ?_ | (first
    | refine wC_a rfl ?_
    | refine q_s rfl ?_
    | refine q_b rfl ?_
    | refine wG_nil ?_
    | refine wG_g rfl ?_
    | refine wG_pure (o_len_vwm rfl) ?_
    | refine wG_pure (o_not_d rfl) ?_
    | refine wG_p rfl (by first | exact rfl | omega) ?_
    | refine wG_pure (o_str2 rfl rfl rfl) ?_
    | refine wG_pure (e_istr rfl rfl (by omega)) ?_
    | refine wG_pure (e_istr0 rfl rfl (by omega)) ?_
    | refine wG_pure (o_not rfl) ?_
    | refine wG_pure (e_ia_vw0 rfl rfl (by omega) rfl) ?_
    | refine wG_pure (e_ia_vwp rfl rfl (by omega) rfl) ?_
    | refine wG_pure (e_ia_vwm rfl rfl (by omega) (by omega) rfl) ?_
    | refine wG_pure (e_ia_vwi rfl rfl (by omega) rfl) ?_
    | refine wG_pure (e_ia_vwn rfl rfl (by omega) (by omega) rfl) ?_
    | refine wG_n rfl rfl ?_
    | refine wG_u rfl rfl ?_
    | refine wG_new (o_mks rfl rfl (by omega) (by decide)) ?_))
  obtain ⟨g, hg1⟩ : ∃ g, p1 + 1 = g := ⟨_, rfl⟩
  rw [hg1] at fw ⊢
  refine wG_callG (v' := .tup [dtV g r Y, .bool true]) cI (ag_any (dr_dt r xs fm.fm) (ag_int rfl (ag_int rfl ag_nil))) rfl rfl ?_
  change wpG _ _ _ ⟨_, dtH g r Y _, _⟩ _
  obtain ⟨q, hq1⟩ : ∃ q, g + (dtO r Y).length = q := ⟨_, rfl⟩
  rw [hq1]
  repeat (first | refine wG_upd (o_st_agg rfl hg_here rfl rfl rfl rfl rfl) ?_ | (first
    | refine wC_a rfl ?_
    | refine q_s rfl ?_
    | refine q_b rfl ?_
    | refine wG_nil ?_
    | refine wG_g rfl ?_
    | refine wG_pure (o_len_vwm rfl) ?_
    | refine wG_pure (o_not_d rfl) ?_
    | refine wG_p rfl (by first | exact rfl | omega) ?_
    | refine wG_pure (o_str2 rfl rfl rfl) ?_
    | refine wG_pure (e_istr rfl rfl (by omega)) ?_
    | refine wG_pure (e_istr0 rfl rfl (by omega)) ?_
    | refine wG_pure (o_not rfl) ?_
    | refine wG_pure (e_ia_vw0 rfl rfl (by omega) rfl) ?_
    | refine wG_pure (e_ia_vwp rfl rfl (by omega) rfl) ?_
    | refine wG_pure (e_ia_vwm rfl rfl (by omega) (by omega) rfl) ?_
    | refine wG_pure (e_ia_vwi rfl rfl (by omega) rfl) ?_
    | refine wG_pure (e_ia_vwn rfl rfl (by omega) (by omega) rfl) ?_
    | refine wG_n rfl rfl ?_
    | refine wG_u rfl rfl ?_
    | refine wG_new (o_mks rfl rfl (by omega) (by decide)) ?_))
  refine hpG (fun H => hg H 0 = some [dtR a b c r xs] ∧ FM r Y y1 z1 H ∧ FM r xs (z1 + 1) p1 H ∧ FM r Y g q H ∧ wfH H (q + 1)) ⟨hg_skip (by omega) (hg_skip (by omega) (dtH_out (by omega) f0)), fa.mv (· < g) (fun i o hi ho => hg_skip (by omega) (hg_skip (by omega) (dtH_out (by omega) ho))) (fun i hi => by omega) (by omega), fm.mv (· < g) (fun i o hi ho => hg_skip (by omega) (hg_skip (by omega) (dtH_out (by omega) ho))) (fun i hi => by omega) (by omega), ⟨fun i rows hi => ?_, hg_here⟩, wfH_cons (by omega) (by simp [put, AV.ltr]; omega) (wfH_cons (by omega) (by simp [AV.ltr]) (dtH_wf (by omega) (wfH_le fw (by omega))))⟩ ?_
  · have := dtO_lt hi
    exact hg_skip (by omega) (hg_skip (by omega) (dtH_in hi))
  clear f0 fa fm fw
  rintro H3 ⟨f0, fa, fm, fg, fw⟩
  repeat (first | refine wC_dregE ?_ | refine wG_pure (o_ldt_pt rfl fg.fp rfl rfl rfl) ?_ | refine wG_pure (o_ldt_pt rfl fa.fp rfl rfl rfl) ?_ | refine wG_call cY (ag_any (dr_dt r Y fg.fm) (ag_any (dr_dt r Y fa.fm) ag_nil)) rfl ?_ | (first
    | refine wC_a rfl ?_
    | refine q_s rfl ?_
    | refine q_b rfl ?_
    | refine wG_nil ?_
    | refine wG_g rfl ?_
    | refine wG_pure (o_len_vwm rfl) ?_
    | refine wG_pure (o_not_d rfl) ?_
    | refine wG_p rfl (by first | exact rfl | omega) ?_
    | refine wG_pure (o_str2 rfl rfl rfl) ?_
    | refine wG_pure (e_istr rfl rfl (by omega)) ?_
    | refine wG_pure (e_istr0 rfl rfl (by omega)) ?_
    | refine wG_pure (o_not rfl) ?_
    | refine wG_pure (e_ia_vw0 rfl rfl (by omega) rfl) ?_
    | refine wG_pure (e_ia_vwp rfl rfl (by omega) rfl) ?_
    | refine wG_pure (e_ia_vwm rfl rfl (by omega) (by omega) rfl) ?_
    | refine wG_pure (e_ia_vwi rfl rfl (by omega) rfl) ?_
    | refine wG_pure (e_ia_vwn rfl rfl (by omega) (by omega) rfl) ?_
    | refine wG_n rfl rfl ?_
    | refine wG_u rfl rfl ?_
    | refine wG_new (o_mks rfl rfl (by omega) (by decide)) ?_))
  refine wE_v (o_ldt_pt rfl fm.fp rfl rfl rfl) rfl ?_
  refine wE_v (o_ldt_pt rfl f0 rfl rfl rfl) rfl ?_
  refine wE_callG (v' := dtV (q + 1) r xs) cT rfl rfl rfl rfl ?_
  change wpE _ _ _ ⟨_, dtH (q + 1) r xs _, _⟩ _ _
  obtain ⟨k1, hk1⟩ : ∃ k1, q + 1 + (dtO r xs).length = k1 := ⟨_, rfl⟩
  rw [hk1]
  refine wE_call cE (ag_any (dr_dt r xs (fun i rows hi => dtH_out (by have := dtO_lt hi; omega) (fm.fm i rows hi))) (ag_any (dr_dt r xs (fun i rows hi => dtH_in hi)) ag_nil)) rfl rfl ?_
  repeat (first | refine wE_nilF (fun H => hg H 0 = some [dtR a b c r xs] ∧ FM r Y y1 z1 H ∧ FM r xs (z1 + 1) p1 H ∧ FM r Y g q H ∧ wfH H k1) (hok5 (djB_mkh (by omega))) ⟨dtH_out (by omega) f0, fa.mv (· < q + 1) (fun i o hi ho => dtH_out (by omega) ho) (fun i hi => by omega) (by omega), fm.mv (· < q + 1) (fun i o hi ho => dtH_out (by omega) ho) (fun i hi => by omega) (by omega), fg.mv (· < q + 1) (fun i o hi ho => dtH_out (by omega) ho) (fun i hi => by omega) (by omega), dtH_wf (by omega) (wfH_le fw (by omega))⟩ ?_ | (first
    | refine wE_nil (by kernel_rfl) ?_
    | refine wE_gy rfl ?_
    | refine wE_gn rfl rfl rfl ?_
    | refine wE_gu rfl rfl ?_
    | refine wE_gnn rfl rfl rfl ?_
    | refine wE_v (o_len_vwm rfl) rfl ?_
    | refine wE_v (o_not_d rfl) rfl ?_
    | refine wE_p rfl (by first | exact rfl | omega) rfl ?_
    | refine wE_v (o_str2 rfl rfl rfl) rfl ?_
    | refine wE_v (e_istr rfl rfl (by omega)) rfl ?_
    | refine wE_v (e_istr0 rfl rfl (by omega)) rfl ?_
    | refine wE_v (o_not rfl) rfl ?_
    | refine wE_v (e_ia_vw0 rfl rfl (by omega) rfl) rfl ?_
    | refine wE_v (e_ia_vwp rfl rfl (by omega) rfl) rfl ?_
    | refine wE_v (e_ia_vwm rfl rfl (by omega) (by omega) rfl) rfl ?_
    | refine wE_v (e_ia_vwi rfl rfl (by omega) rfl) rfl ?_
    | refine wE_v (e_ia_vwn rfl rfl (by omega) (by omega) rfl) rfl ?_
    | refine wE_n rfl rfl rfl ?_
    | refine wE_u rfl rfl rfl ?_
    | refine wE_new (o_mks rfl rfl (by omega) (by decide)) rfl ?_))
  clear f0 fa fm fg fw
  rintro H5 ⟨f0, fa, fm, fg, fw⟩
  have sM := @sh_mdr r xs h1' h2' h3' hS H5 (rmv (z1 + 1) (xs.length + 3) H5) k1 (z1 + 1) fm.fm (by omega) (rmv_wf fw) (fun i rows hi => rmv_sub hi)
  obtain ⟨K, hK0, hK⟩ : ∃ K : Int, 0 ≤ K ∧ 1 + 2 * (r.cs.length : Int) + 2 * (r.xs.length : Int) + (xs.length : Int) + (sL xs xs.length : Int) = K := ⟨_, by omega, rfl⟩
  rw [hK] at sM
  have fw2 : wfH (rmv (z1 + 1) (xs.length + 3) H5) (k1 + 2) := wfH_le (rmv_wf fw) (by omega)
  repeat (first | refine wG_pure (o_ldt_pt rfl fm.fp rfl rfl rfl) ?_ | refine wG_callS sM rfl ?_ | (first
    | refine wC_a rfl ?_
    | refine q_s rfl ?_
    | refine q_b rfl ?_
    | refine wG_nil ?_
    | refine wG_g rfl ?_
    | refine wG_pure (o_len_vwm rfl) ?_
    | refine wG_pure (o_not_d rfl) ?_
    | refine wG_p rfl (by first | exact rfl | omega) ?_
    | refine wG_pure (o_str2 rfl rfl rfl) ?_
    | refine wG_pure (e_istr rfl rfl (by omega)) ?_
    | refine wG_pure (e_istr0 rfl rfl (by omega)) ?_
    | refine wG_pure (o_not rfl) ?_
    | refine wG_pure (e_ia_vw0 rfl rfl (by omega) rfl) ?_
    | refine wG_pure (e_ia_vwp rfl rfl (by omega) rfl) ?_
    | refine wG_pure (e_ia_vwm rfl rfl (by omega) (by omega) rfl) ?_
    | refine wG_pure (e_ia_vwi rfl rfl (by omega) rfl) ?_
    | refine wG_pure (e_ia_vwn rfl rfl (by omega) (by omega) rfl) ?_
    | refine wG_n rfl rfl ?_
    | refine wG_u rfl rfl ?_
    | refine wG_new (o_mks rfl rfl (by omega) (by decide)) ?_))
  have dK : decide (K < 0) = false := decide_eq_false (by omega)
  simp only [dK]
  refine hpG (fun H => hg H 0 = some [dtR a b c r xs] ∧ FM r Y y1 z1 H ∧ FM r Y g q H ∧ wfH H (k1 + 2)) ⟨rmv_out (.inl (by omega)) f0, fa.mv (· < z1 + 1) (fun i o hi ho => rmv_out (.inl hi) ho) (fun i hi => by omega) (by omega), fg.mv (fun i => p1 < i) (fun i o hi ho => rmv_out (.inr (by omega)) ho) (fun i hi => by omega) (by omega), fw2⟩ ?_
  clear f0 fa fm fg fw sM fw2
  rintro H6 ⟨f0, fa, fg, fw⟩
  obtain ⟨k2, hk2⟩ : ∃ k2, k1 + 2 = k2 := ⟨_, rfl⟩
  rw [hk2] at fw ⊢
  have sM := @sh_mdk r Y h1' h2' (by omega) hSY H6 (rmv g (Y.length + 3) H6) k2 g fg.fm (by omega) fw (rmv_wf fw) (fun i rows hi => rmv_sub hi)
  repeat (first | refine wG_pure (o_ldt_pt rfl fg.fp rfl rfl rfl) ?_ | refine wG_pure (o_ldt_pt rfl fa.fp rfl rfl rfl) ?_ | refine wG_call cY (ag_any (dr_dt r Y fg.fm) (ag_any (dr_dt r Y fa.fm) ag_nil)) rfl ?_ | refine wG_callS sM rfl ?_ | (first
    | refine wC_a rfl ?_
    | refine q_s rfl ?_
    | refine q_b rfl ?_
    | refine wG_nil ?_
    | refine wG_g rfl ?_
    | refine wG_pure (o_len_vwm rfl) ?_
    | refine wG_pure (o_not_d rfl) ?_
    | refine wG_p rfl (by first | exact rfl | omega) ?_
    | refine wG_pure (o_str2 rfl rfl rfl) ?_
    | refine wG_pure (e_istr rfl rfl (by omega)) ?_
    | refine wG_pure (e_istr0 rfl rfl (by omega)) ?_
    | refine wG_pure (o_not rfl) ?_
    | refine wG_pure (e_ia_vw0 rfl rfl (by omega) rfl) ?_
    | refine wG_pure (e_ia_vwp rfl rfl (by omega) rfl) ?_
    | refine wG_pure (e_ia_vwm rfl rfl (by omega) (by omega) rfl) ?_
    | refine wG_pure (e_ia_vwi rfl rfl (by omega) rfl) ?_
    | refine wG_pure (e_ia_vwn rfl rfl (by omega) (by omega) rfl) ?_
    | refine wG_n rfl rfl ?_
    | refine wG_u rfl rfl ?_
    | refine wG_new (o_mks rfl rfl (by omega) (by decide)) ?_))
  refine hpG (fun H => hg H 0 = some [dtR a b c r xs] ∧ FM r Y y1 z1 H ∧ FM (rM r) (xM r Y) g q H ∧ wfH H (k2 + 2)) ⟨?_, fa.mv (· < g) (fun i o hi ho => ?_) (fun i hi => by omega) (by omega), ⟨fun i rows hi => hM_dt i rows hi, ?_⟩, ?_⟩ ?_
  · refine hg_skip (by omega) (hg_out (fun hc => by have := hc.1; omega) (hg_skip (by omega) (hg_skip (by omega) (rmv_out (.inl (by omega)) f0))))
  · refine hg_skip (by omega) (hg_out (fun hc => by have := hc.1; omega) (hg_skip (by omega) (hg_skip (by omega) (rmv_out (.inl hi) ho))))
  · rw [bx3_M]
    exact hM_out (by omega) (by rw [mD_len]; omega) (hg_skip (by omega) (hg_skip (by omega) (rmv_out (.inr (by omega)) fg.fp)))
  · exact hM_wf (by omega) (by rw [mD_len]; omega) (wfH_cons (by omega) (ltrX _ _) (wfH_cons (by omega) (ltrK _ _) (wfH_le (rmv_wf fw) (by omega))))
  clear f0 fa fg fw sM
  rintro H7 ⟨f0, fa, fg, fw⟩
  have cH := con22 true true true r.cs.length r.xs.length (tD (xM r Y)) Y h1' h2' (by rw [tD_len, xM_len]) (fun j hj => by
    rw [tD_d]
    unfold xM
    rw [mD_get hj, if_pos hj]) (by omega) hSY
  obtain ⟨M, hM0, hM⟩ : ∃ M : Int, 0 ≤ M ∧ 1 + 2 * (r.cs.length : Int) + 2 * (r.xs.length : Int) + (Y.length : Int) + (sL Y Y.length : Int) = M := ⟨_, by omega, rfl⟩
  rw [hM] at cH
  simp only [hM]
  have dM : decide (M < 0) = false := decide_eq_false (by omega)
  have dN : decide (M ≠ M) = false := decide_eq_false (fun h => h rfl)
  repeat (first | refine wG_pure (o_ldt_pt rfl fg.fp rfl rfl rfl) ?_ | refine wG_call cH (ag_any (dr_dt (rM r) (xM r Y) fg.fm) (ag_int rfl ag_nil)) rfl ?_ | (first
    | refine wC_a rfl ?_
    | refine q_s rfl ?_
    | refine q_b rfl ?_
    | refine wG_nil ?_
    | refine wG_g rfl ?_
    | refine wG_pure (o_len_vwm rfl) ?_
    | refine wG_pure (o_not_d rfl) ?_
    | refine wG_p rfl (by first | exact rfl | omega) ?_
    | refine wG_pure (o_str2 rfl rfl rfl) ?_
    | refine wG_pure (e_istr rfl rfl (by omega)) ?_
    | refine wG_pure (e_istr0 rfl rfl (by omega)) ?_
    | refine wG_pure (o_not rfl) ?_
    | refine wG_pure (e_ia_vw0 rfl rfl (by omega) rfl) ?_
    | refine wG_pure (e_ia_vwp rfl rfl (by omega) rfl) ?_
    | refine wG_pure (e_ia_vwm rfl rfl (by omega) (by omega) rfl) ?_
    | refine wG_pure (e_ia_vwi rfl rfl (by omega) rfl) ?_
    | refine wG_pure (e_ia_vwn rfl rfl (by omega) (by omega) rfl) ?_
    | refine wG_n rfl rfl ?_
    | refine wG_u rfl rfl ?_
    | refine wG_new (o_mks rfl rfl (by omega) (by decide)) ?_))
  simp only [dM]
  repeat (first
    | refine wC_a rfl ?_
    | refine q_s rfl ?_
    | refine q_b rfl ?_
    | refine wG_nil ?_
    | refine wG_g rfl ?_
    | refine wG_pure (o_len_vwm rfl) ?_
    | refine wG_pure (o_not_d rfl) ?_
    | refine wG_p rfl (by first | exact rfl | omega) ?_
    | refine wG_pure (o_str2 rfl rfl rfl) ?_
    | refine wG_pure (e_istr rfl rfl (by omega)) ?_
    | refine wG_pure (e_istr0 rfl rfl (by omega)) ?_
    | refine wG_pure (o_not rfl) ?_
    | refine wG_pure (e_ia_vw0 rfl rfl (by omega) rfl) ?_
    | refine wG_pure (e_ia_vwp rfl rfl (by omega) rfl) ?_
    | refine wG_pure (e_ia_vwm rfl rfl (by omega) (by omega) rfl) ?_
    | refine wG_pure (e_ia_vwi rfl rfl (by omega) rfl) ?_
    | refine wG_pure (e_ia_vwn rfl rfl (by omega) (by omega) rfl) ?_
    | refine wG_n rfl rfl ?_
    | refine wG_u rfl rfl ?_
    | refine wG_new (o_mks rfl rfl (by omega) (by decide)) ?_)
  simp only [dN]
  obtain ⟨n2, hn2⟩ : ∃ n2, k2 + 2 = n2 := ⟨_, rfl⟩
  rw [hn2] at fw ⊢
  repeat (first | refine wG_pure (o_ldt_pt rfl f0 rfl rfl rfl) ?_ | (first
    | refine wC_a rfl ?_
    | refine q_s rfl ?_
    | refine q_b rfl ?_
    | refine wG_nil ?_
    | refine wG_g rfl ?_
    | refine wG_pure (o_len_vwm rfl) ?_
    | refine wG_pure (o_not_d rfl) ?_
    | refine wG_p rfl (by first | exact rfl | omega) ?_
    | refine wG_pure (o_str2 rfl rfl rfl) ?_
    | refine wG_pure (e_istr rfl rfl (by omega)) ?_
    | refine wG_pure (e_istr0 rfl rfl (by omega)) ?_
    | refine wG_pure (o_not rfl) ?_
    | refine wG_pure (e_ia_vw0 rfl rfl (by omega) rfl) ?_
    | refine wG_pure (e_ia_vwp rfl rfl (by omega) rfl) ?_
    | refine wG_pure (e_ia_vwm rfl rfl (by omega) (by omega) rfl) ?_
    | refine wG_pure (e_ia_vwi rfl rfl (by omega) rfl) ?_
    | refine wG_pure (e_ia_vwn rfl rfl (by omega) (by omega) rfl) ?_
    | refine wG_n rfl rfl ?_
    | refine wG_u rfl rfl ?_
    | refine wG_new (o_mks rfl rfl (by omega) (by decide)) ?_))
  refine wG_callG (v' := dtV n2 r xs) cT rfl rfl rfl ?_
  change wpG _ _ _ ⟨_, dtH n2 r xs _, _⟩ _
  obtain ⟨y2, hy2⟩ : ∃ y2, n2 + (dtO r xs).length = y2 := ⟨_, rfl⟩
  rw [hy2]
  repeat (first
    | refine wC_a rfl ?_
    | refine q_s rfl ?_
    | refine q_b rfl ?_
    | refine wG_nil ?_
    | refine wG_g rfl ?_
    | refine wG_pure (o_len_vwm rfl) ?_
    | refine wG_pure (o_not_d rfl) ?_
    | refine wG_p rfl (by first | exact rfl | omega) ?_
    | refine wG_pure (o_str2 rfl rfl rfl) ?_
    | refine wG_pure (e_istr rfl rfl (by omega)) ?_
    | refine wG_pure (e_istr0 rfl rfl (by omega)) ?_
    | refine wG_pure (o_not rfl) ?_
    | refine wG_pure (e_ia_vw0 rfl rfl (by omega) rfl) ?_
    | refine wG_pure (e_ia_vwp rfl rfl (by omega) rfl) ?_
    | refine wG_pure (e_ia_vwm rfl rfl (by omega) (by omega) rfl) ?_
    | refine wG_pure (e_ia_vwi rfl rfl (by omega) rfl) ?_
    | refine wG_pure (e_ia_vwn rfl rfl (by omega) (by omega) rfl) ?_
    | refine wG_n rfl rfl ?_
    | refine wG_u rfl rfl ?_
    | refine wG_new (o_mks rfl rfl (by omega) (by decide)) ?_)
  refine wG_callG (v' := .tup [dtV y2 r Y, .bool true]) cI (ag_any (dr_dt r xs (fun i rows hi => dtH_in hi)) (ag_int rfl (ag_int rfl ag_nil))) rfl rfl ?_
  change wpG _ _ _ ⟨_, dtH y2 r Y _, _⟩ _
  obtain ⟨z2, hz2⟩ : ∃ z2, y2 + (dtO r Y).length = z2 := ⟨_, rfl⟩
  rw [hz2]
  repeat (first | refine wG_upd (o_st_agg rfl hg_here rfl rfl rfl rfl rfl) ?_ | (first
    | refine wC_a rfl ?_
    | refine q_s rfl ?_
    | refine q_b rfl ?_
    | refine wG_nil ?_
    | refine wG_g rfl ?_
    | refine wG_pure (o_len_vwm rfl) ?_
    | refine wG_pure (o_not_d rfl) ?_
    | refine wG_p rfl (by first | exact rfl | omega) ?_
    | refine wG_pure (o_str2 rfl rfl rfl) ?_
    | refine wG_pure (e_istr rfl rfl (by omega)) ?_
    | refine wG_pure (e_istr0 rfl rfl (by omega)) ?_
    | refine wG_pure (o_not rfl) ?_
    | refine wG_pure (e_ia_vw0 rfl rfl (by omega) rfl) ?_
    | refine wG_pure (e_ia_vwp rfl rfl (by omega) rfl) ?_
    | refine wG_pure (e_ia_vwm rfl rfl (by omega) (by omega) rfl) ?_
    | refine wG_pure (e_ia_vwi rfl rfl (by omega) rfl) ?_
    | refine wG_pure (e_ia_vwn rfl rfl (by omega) (by omega) rfl) ?_
    | refine wG_n rfl rfl ?_
    | refine wG_u rfl rfl ?_
    | refine wG_new (o_mks rfl rfl (by omega) (by decide)) ?_))
  refine hpG (fun H => FM r Y y1 z1 H ∧ FM (rM r) (xM r Y) g q H ∧ FM r Y y2 z2 H) ⟨fa.mv (· < n2) (fun i o hi ho => hg_skip (by omega) (hg_skip (by omega) (dtH_out (by omega) (dtH_out (by omega) ho)))) (fun i hi => by omega) (by omega), fg.mv (· < n2) (fun i o hi ho => hg_skip (by omega) (hg_skip (by omega) (dtH_out (by omega) (dtH_out (by omega) ho)))) (fun i hi => by rw [xM_len] at hi; omega) (by omega), ⟨fun i rows hi => ?_, hg_here⟩⟩ ?_
  · have := dtO_lt hi
    exact hg_skip (by omega) (hg_skip (by omega) (dtH_in hi))
  clear f0 fa fg fw
  rintro H8 ⟨fa, fg, fz⟩
  repeat (first | refine wG_pure (o_ldt_pt rfl fz.fp rfl rfl rfl) ?_ | refine wG_pure (o_ldt_pt rfl fa.fp rfl rfl rfl) ?_ | refine wG_call cY (ag_any (dr_dt r Y fz.fm) (ag_any (dr_dt r Y fa.fm) ag_nil)) rfl ?_ | refine wG_pure (o_ldt_pt rfl fg.fp rfl rfl rfl) ?_ | refine wG_call cH (ag_any (dr_dt (rM r) (xM r Y) fg.fm) (ag_int rfl ag_nil)) rfl ?_ | (first
    | refine wC_a rfl ?_
    | refine q_s rfl ?_
    | refine q_b rfl ?_
    | refine wG_nil ?_
    | refine wG_g rfl ?_
    | refine wG_pure (o_len_vwm rfl) ?_
    | refine wG_pure (o_not_d rfl) ?_
    | refine wG_p rfl (by first | exact rfl | omega) ?_
    | refine wG_pure (o_str2 rfl rfl rfl) ?_
    | refine wG_pure (e_istr rfl rfl (by omega)) ?_
    | refine wG_pure (e_istr0 rfl rfl (by omega)) ?_
    | refine wG_pure (o_not rfl) ?_
    | refine wG_pure (e_ia_vw0 rfl rfl (by omega) rfl) ?_
    | refine wG_pure (e_ia_vwp rfl rfl (by omega) rfl) ?_
    | refine wG_pure (e_ia_vwm rfl rfl (by omega) (by omega) rfl) ?_
    | refine wG_pure (e_ia_vwi rfl rfl (by omega) rfl) ?_
    | refine wG_pure (e_ia_vwn rfl rfl (by omega) (by omega) rfl) ?_
    | refine wG_n rfl rfl ?_
    | refine wG_u rfl rfl ?_
    | refine wG_new (o_mks rfl rfl (by omega) (by decide)) ?_))
  simp only [dM]
  repeat (first
    | refine wC_a rfl ?_
    | refine q_s rfl ?_
    | refine q_b rfl ?_
    | refine wG_nil ?_
    | refine wG_g rfl ?_
    | refine wG_pure (o_len_vwm rfl) ?_
    | refine wG_pure (o_not_d rfl) ?_
    | refine wG_p rfl (by first | exact rfl | omega) ?_
    | refine wG_pure (o_str2 rfl rfl rfl) ?_
    | refine wG_pure (e_istr rfl rfl (by omega)) ?_
    | refine wG_pure (e_istr0 rfl rfl (by omega)) ?_
    | refine wG_pure (o_not rfl) ?_
    | refine wG_pure (e_ia_vw0 rfl rfl (by omega) rfl) ?_
    | refine wG_pure (e_ia_vwp rfl rfl (by omega) rfl) ?_
    | refine wG_pure (e_ia_vwm rfl rfl (by omega) (by omega) rfl) ?_
    | refine wG_pure (e_ia_vwi rfl rfl (by omega) rfl) ?_
    | refine wG_pure (e_ia_vwn rfl rfl (by omega) (by omega) rfl) ?_
    | refine wG_n rfl rfl ?_
    | refine wG_u rfl rfl ?_
    | refine wG_new (o_mks rfl rfl (by omega) (by decide)) ?_)
  simp only [dN]
  repeat (first
    | refine wC_a rfl ?_
    | refine q_s rfl ?_
    | refine q_b rfl ?_
    | refine wG_nil ?_
    | refine wG_g rfl ?_
    | refine wG_pure (o_len_vwm rfl) ?_
    | refine wG_pure (o_not_d rfl) ?_
    | refine wG_p rfl (by first | exact rfl | omega) ?_
    | refine wG_pure (o_str2 rfl rfl rfl) ?_
    | refine wG_pure (e_istr rfl rfl (by omega)) ?_
    | refine wG_pure (e_istr0 rfl rfl (by omega)) ?_
    | refine wG_pure (o_not rfl) ?_
    | refine wG_pure (e_ia_vw0 rfl rfl (by omega) rfl) ?_
    | refine wG_pure (e_ia_vwp rfl rfl (by omega) rfl) ?_
    | refine wG_pure (e_ia_vwm rfl rfl (by omega) (by omega) rfl) ?_
    | refine wG_pure (e_ia_vwi rfl rfl (by omega) rfl) ?_
    | refine wG_pure (e_ia_vwn rfl rfl (by omega) (by omega) rfl) ?_
    | refine wG_n rfl rfl ?_
    | refine wG_u rfl rfl ?_
    | refine wG_new (o_mks rfl rfl (by omega) (by decide)) ?_)
  exact ret_boolE (.inr rfl) ⟨_, retV_mv rfl, rfl⟩
end Go.Proofs.Ytkeobnaehgcloaa.Dst
