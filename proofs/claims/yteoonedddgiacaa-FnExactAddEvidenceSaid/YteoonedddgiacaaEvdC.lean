/- Evidence as the implementation reads it. -/
import Derived.Test.YteoonedddgiacaaRecG
import Derived.Test.YteoonedddgiacaaEvdB
namespace Go.Proofs.Yteoonedddgiacaa.Rec
open Go Go.Proofs.Yteoonedddgiacaa.Ab Go.Proofs.Yteoonedddgiacaa.Il
attribute [local irreducible] wpO wpC wpDr wpQ wpG wpE stepA seqQ blkQ Ret RetG ev
set_option maxRecDepth 10000
set_option maxHeartbeats 8000000
set_option linter.unusedSimpArgs false
set_option linter.unusedVariables false

def ac39 : AC := (.seq (.reg [⟨(some 2), none, (.box 2 true (.t 0))⟩, ⟨(some 4), none, (.mv (.c .nilP))⟩, ⟨(some 5), none, (.mv (.c .nilS))⟩, ⟨(some 6), none, (.mv (.c (.bool false)))⟩]) (.seq (.reg [⟨(some 14), none, (.ld true 2 (.t 2))⟩, ⟨(some 15), none, (.call 54 [(.t 14)])⟩, ⟨(some 13), none, (.mv (.t 15))⟩, ⟨(some 16), none, (.ext (.t 13) 0)⟩, ⟨(some 17), none, (.ext (.t 13) 1)⟩, ⟨(some 7), none, (.mv (.t 16))⟩, ⟨(some 8), none, (.mv (.t 17))⟩]) (.seq (.seq (.reg [⟨(some 18), none, (.mv (.t 8))⟩, ⟨(some 19), none, (.un .not (.t 18))⟩]) (.cond (.t 19) (.seq (.reg [⟨(some 4), none, (.mv (.c .nilP))⟩, ⟨(some 5), none, (.mv (.c .nilS))⟩, ⟨(some 6), none, (.mv (.c (.bool false)))⟩]) .ret) .skip)) (.seq (.reg [⟨(some 20), none, (.build [(.int .i64 0), (.int .i64 0)] [(0, (1, (.c (.int .i64 (-20000))))), (1, (1, (.c (.int .i64 2100))))])⟩, ⟨(some 21), none, (.bsl 2 [(.int .i64 0), (.int .i64 0)] 1 [(0, (.t 20))])⟩, ⟨(some 22), none, (.mv (.t 7))⟩, ⟨(some 23), none, (.nck (.t 22))⟩, ⟨(some 24), none, (.fa 0 (.t 23))⟩, ⟨(some 25), none, (.ld false 1 (.t 24))⟩, ⟨(some 26), none, (.len (.t 25))⟩, ⟨(some 27), none, (.call 55 [(.t 21), (.t 26)])⟩, ⟨(some 9), none, (.mv (.t 27))⟩]) (.seq (.seq (.reg [⟨(some 28), none, (.mv (.t 1))⟩, ⟨(some 29), none, (.len (.t 28))⟩, ⟨(some 30), none, (.mv (.c (.int .i64 0)))⟩]) (.blk 0 (.loop (.seq (.reg [⟨(some 31), none, (.bin .lss (.t 30) (.t 29))⟩]) (.seq (.cond (.t 31) .skip (.exit 0)) (.seq (.blk 1 (.seq (.reg [⟨(some 32), none, (.mv (.t 30))⟩, ⟨(some 33), none, (.ia 3 (.t 28) (.t 30))⟩, ⟨(some 34), none, (.ld true 3 (.t 33))⟩, ⟨(some 11), none, (.alloc [(.int .i64 0), (.int .i64 0), (.int .i64 0)])⟩, ⟨(some 10), none, (.mv (.t 32))⟩, ⟨none, none, (.st 3 (.t 11) (.t 34))⟩]) (.seq (.reg [⟨(some 35), none, (.ld true 2 (.t 2))⟩, ⟨(some 36), none, (.fa 0 (.t 11))⟩, ⟨(some 37), none, (.ld false 1 (.t 36))⟩, ⟨(some 38), none, (.call 27 [(.t 35), (.t 37)])⟩, ⟨(some 12), none, (.mv (.t 38))⟩]) (.seq (.seq (.dreg [⟨(some 39), none, (.mv (.t 12))⟩, ⟨(some 40), none, (.bin .lss (.t 39) (.c (.int .i64 0)))⟩, ⟨(some 41), none, (.mv (.t 40))⟩, ⟨(some 42), (some (41, false)), (.fa 1 (.t 11))⟩, ⟨(some 43), (some (41, false)), (.ld true 2 (.t 42))⟩, ⟨(some 44), (some (41, false)), (.call 28 [(.t 43)])⟩, ⟨(some 45), (some (41, false)), (.un .not (.t 44))⟩, ⟨(some 46), none, (.pick (.t 41) (.c (.bool true)) (.t 45))⟩, ⟨(some 47), none, (.mv (.t 46))⟩, ⟨(some 48), (some (47, false)), (.mv (.t 10))⟩, ⟨(some 49), (some (47, false)), (.bin .gtr (.t 48) (.c (.int .i64 0)))⟩, ⟨(some 50), (some (47, false)), (.mv (.t 49))⟩, ⟨(some 51), (some (50, true)), (.fa 0 (.t 11))⟩, ⟨(some 52), (some (50, true)), (.ld false 1 (.t 51))⟩, ⟨(some 53), (some (50, true)), (.mv (.t 1))⟩, ⟨(some 54), (some (50, true)), (.mv (.t 10))⟩, ⟨(some 55), (some (50, true)), (.bin .sub (.t 54) (.c (.int .i64 1)))⟩, ⟨(some 56), (some (50, true)), (.ia 3 (.t 53) (.t 55))⟩, ⟨(some 57), (some (50, true)), (.fa 0 (.t 56))⟩, ⟨(some 58), (some (50, true)), (.ld false 1 (.t 57))⟩, ⟨(some 59), (some (50, true)), (.bin .leq (.t 52) (.t 58))⟩, ⟨(some 60), (some (47, false)), (.pick (.t 50) (.t 59) (.c (.bool false)))⟩, ⟨(some 61), none, (.pick (.t 47) (.c (.bool true)) (.t 60))⟩] [[], [0], [0, 1], [0, 1, 2], [0, 1, 2, 3], [0, 1, 2, 3, 4], [0, 1, 2, 3, 4, 5], [0, 1, 2, 3, 4, 5, 6], [0, 1, 2, 3, 4, 5, 6, 7], [0, 1, 2, 3, 4, 5, 6, 7, 8], [0, 1, 2, 3, 4, 5, 6, 7, 8, 9], [0, 1, 2, 3, 4, 5, 6, 7, 8, 9, 10], [0, 1, 2, 3, 4, 5, 6, 7, 8, 9, 10, 11], [0, 1, 2, 3, 4, 5, 6, 7, 8, 9, 10, 11, 12], [0, 1, 2, 3, 4, 5, 6, 7, 8, 9, 10, 11], [0, 1, 2, 3, 4, 5, 6, 7, 8, 9, 10, 11], [0, 1, 2, 3, 4, 5, 6, 7, 8, 9, 10, 11, 15], [0, 1, 2, 3, 4, 5, 6, 7, 8, 9, 10, 11, 14, 15, 16], [0, 1, 2, 3, 4, 5, 6, 7, 8, 9, 10, 11, 14, 15, 16, 17], [0, 1, 2, 3, 4, 5, 6, 7, 8, 9, 10, 11, 14, 15, 16, 17, 18], [0, 1, 2, 3, 4, 5, 6, 7, 8, 9, 10, 11, 12, 13, 14, 15, 16, 17, 18, 19], [0, 1, 2, 3, 4, 5, 6, 7, 8, 9, 10, 11, 12, 13, 14, 15, 16, 17, 18, 19, 20], [0, 1, 2, 3, 4, 5, 6, 7, 8, 9, 10, 11, 12, 13, 14, 15, 16, 17, 18, 19, 20, 21]]) (.cond (.t 61) (.seq (.reg [⟨(some 4), none, (.mv (.c .nilP))⟩, ⟨(some 5), none, (.mv (.c .nilS))⟩, ⟨(some 6), none, (.mv (.c (.bool false)))⟩]) .ret) .skip)) (.reg [⟨(some 62), none, (.mv (.t 9))⟩, ⟨(some 63), none, (.mv (.t 12))⟩, ⟨(some 64), none, (.fa 1 (.t 11))⟩, ⟨(some 65), none, (.ld true 2 (.t 64))⟩, ⟨(some 66), none, (.ia 2 (.t 62) (.t 63))⟩, ⟨none, none, (.st 2 (.t 66) (.t 65))⟩]))))) (.reg [⟨(some 67), none, (.bin .add (.t 30) (.c (.int .i64 1)))⟩, ⟨(some 30), none, (.mv (.t 67))⟩]))))))) (.seq (.reg [⟨(some 68), none, (.mv (.t 7))⟩, ⟨(some 69), none, (.mv (.t 9))⟩, ⟨(some 4), none, (.mv (.t 68))⟩, ⟨(some 5), none, (.mv (.t 69))⟩, ⟨(some 6), none, (.mv (.c (.bool true)))⟩]) .ret))))))
def ro39 : List AOp := [(.mv (.t 4)), (.mv (.t 5)), (.mv (.t 6))]
theorem fun39 : Fun Try.prog 39 70 ac39 ro39 := ⟨Try.f39, _, Try.func39, by kernel_rfl, rfl, rfl, by kernel_rfl, by kernel_rfl, by decide⟩

noncomputable def ownI (r : Rc) (es : List Dt) : Nat → Nat → Iv
  | 0 => fun _ => ⟨-20000, 2100⟩
  | q + 1 => fun i => if (idx r (es.getD q default).n).toNat = i then ⟨(es.getD q default).f, (es.getD q default).t⟩ else ownI r es q i
noncomputable def ownL (r : Rc) (es : List Dt) (q n : Nat) : List Iv := (List.range n).map (ownI r es q)
theorem ownL_len (r : Rc) (es : List Dt) (q n : Nat) : (ownL r es q n).length = n := by simp [ownL]
theorem ownL_get {r : Rc} {es : List Dt} {q n i : Nat} (h : i < n) : ((ownL r es q n).map vRow)[i]? = some (vRow (ownI r es q i)) := by
  rw [ownL, List.map_map]; exact get_range h
theorem ownL_0 (r : Rc) (es : List Dt) (n : Nat) : (ownL r es 0 n).map vRow = (List.replicate n (⟨-20000, 2100⟩ : Iv)).map vRow := by
  congr 1
  refine List.eq_replicate_iff.2 ⟨by simp [ownL], fun x hx => ?_⟩
  obtain ⟨i, _, rfl⟩ := List.mem_map.1 hx
  rfl
theorem ownL_set {r : Rc} {es : List Dt} {q n A : Nat} (hA : (idx r (es.getD q default).n).toNat = A) : ((ownL r es q n).map vRow).set A (vRow ⟨(es.getD q default).f, (es.getD q default).t⟩) = (ownL r es (q + 1) n).map vRow := by
  rw [ownL, ownL, List.map_map, List.map_map]
  refine set_range ?_ (fun x hx => ?_)
  · simp only [Function.comp, ownI, if_pos hA]
  · simp only [Function.comp, ownI]; rw [if_neg (by omega)]
theorem ltrV (ws : List Iv) (m : Nat) : ∀ row ∈ ws.map vRow, ∀ x ∈ row, AV.ltr m x = true := by
  refine rows_ltr _ m fun row hr x hx => ?_
  obtain ⟨p, _, rfl⟩ := List.mem_map.1 hr
  exact vRow_plain p x hx
theorem ltr_sh {m b : Nat} : ∀ (l : List AV), (∀ x ∈ l, AV.ltr m x = true ∧ (x.plain = true ∨ ∃ r s o q, x = .sl r s o q)) → ∀ x ∈ shL b l, AV.ltr (b + m) x = true
  | [], _, x, hx => by simp [shL] at hx
  | y :: ys, h, x, hx => by
    rw [shL] at hx
    rcases List.mem_cons.1 hx with rfl | hx
    · obtain ⟨h1, h2 | ⟨r, s, o, q, rfl⟩⟩ := h y List.mem_cons_self
      · rw [sh_plain h2]; cases y <;> first | rfl | simp [AV.plain] at h2
      · simp [sh, AV.ltr] at h1 ⊢; omega
    · exact ltr_sh ys (fun z hz => h z (List.mem_cons_of_mem _ hz)) x hx
/-- What stands in an order's objects: plain values and lists. -/
theorem ordO_sl {nb : Ab.Rows} (hnb : ∀ row ∈ nb, ∀ x ∈ row, AV.plain x = true) (W A : Nat → Nat → Bool) (n : Nat) : ∀ rows ∈ ordO nb W A n, ∀ row ∈ rows, ∀ x ∈ row, x.plain = true ∨ ∃ r s o q, x = .sl r s o q := by
  intro rows hm row hrow x hx
  cases n with
  | zero =>
    simp [ordO] at hm
    rcases hm with rfl | rfl
    · simp at hrow; subst hrow; simp at hx; rcases hx with rfl | rfl | rfl <;> simp [AV.plain]
    · simp at hrow
  | succ n =>
    rcases List.mem_cons.1 hm with rfl | hm
    · simp at hrow; subst hrow; simp at hx; rcases hx with rfl | rfl | rfl <;> simp [AV.plain]
    rcases List.mem_cons.1 hm with rfl | hm
    · obtain ⟨k, _, rfl⟩ := List.mem_map.1 hrow; simp at hx; subst hx; simp [AV.plain]
    rcases List.mem_cons.1 hm with rfl | hm
    · obtain ⟨k, _, rfl⟩ := List.mem_map.1 hrow; simp at hx; subst hx; simp [AV.plain]
    rcases List.mem_cons.1 hm with rfl | hm
    · exact .inl (hnb row hrow x hx)
    · rcases List.mem_append.1 hm with hm | hm
      · obtain ⟨k, _, rfl⟩ := List.mem_map.1 hm; exact .inl (boolR_plain _ _ row hrow x hx)
      · obtain ⟨k, _, rfl⟩ := List.mem_map.1 hm; exact .inl (boolR_plain _ _ row hrow x hx)
noncomputable def oT (a b : Bool) (r : Rc) : List (Nat × Option Ab.Rows) := mkh 1 ((oO r).map (shR 1)) ++ [(0, some [rRow a b r])]
theorem oT_wf (a b : Bool) (r : Rc) : wfH (oT a b r) ((oO r).length + 1) := by
  intro q rows hq
  unfold oT at hq
  rw [hg_app] at hq
  split at hq
  · rename_i hc
    rw [List.length_map] at hc
    refine ⟨by omega, fun row hrow x hx => ?_⟩
    rw [List.getElem?_map, Option.map_eq_some_iff] at hq
    obtain ⟨rows0, h0, rfl⟩ := hq
    obtain ⟨row0, hr0, rfl⟩ := List.mem_map.1 hrow
    have hm := List.mem_of_getElem? h0
    have := ltr_sh (b := 1) (m := (oO r).length) row0 (fun y hy => ⟨(ordO_nest (rowsP _) _ _ _ rows0 hm row0 hr0 y hy).1, ordO_sl (rowsP _) _ _ _ rows0 hm row0 hr0 y hy⟩) x hx
    rwa [Nat.add_comm] at this
  · have h1 : q = 0 ∧ rows = [rRow a b r] := by
      by_cases h0 : q = 0
      · subst h0; exact ⟨rfl, (Option.some.inj hq).symm⟩
      · simp [Ab.hg, upd, h0] at hq
    obtain ⟨rfl, rfl⟩ := h1
    refine ⟨by omega, fun row hrow x hx => ?_⟩
    simp at hrow; subst hrow
    simp [rRow] at hx
    rcases hx with rfl | rfl <;> rfl
theorem oT_0 {a b : Bool} {r : Rc} : hg (oT a b r) 0 = some [rRow a b r] := hg_out (fun h => by have := h.1; omega) rfl
theorem oT_in {a b : Bool} {r : Rc} {i : Nat} {rows : Ab.Rows} (h : (oO r)[i]? = some rows) : hg (oT a b r) (1 + i) = some (shR 1 rows) := shO_get h
theorem oO_st (r : Rc) : ∃ x y z, (oO r)[0]? = some [[x, y, z]] ∧ ∀ (T : Nat → AV) (H : Nat → Option Ab.Rows) (nr : Nat) (q : AX), gT T q = sh 1 x → Ab.ev (gT T) H nr (.len q) = some (.int .i64 (r.cs.length : Int), [], 0) := by
  unfold oO
  cases r.cs.length with
  | zero => exact ⟨_, _, _, rfl, fun T H nr q h => o_len_nil h⟩
  | succ n => exact ⟨_, _, _, rfl, fun T H nr q h => o_len_sl h⟩
noncomputable def evV (r : Rc) : AV := .tup [.pt 0 0 0, .sl (oO r).length 2 0 r.cs.length, .bool true]
noncomputable def evO (r : Rc) (es : List Dt) : List Ab.Rows := oO r ++ [(ownL r es es.length r.cs.length).map vRow]
noncomputable def evR (r : Rc) : List Nat := (List.range (oO r).length).map (· + 1) ++ [(oO r).length + 2]
theorem evR_lo {r : Rc} {i : Nat} (h : i < (oO r).length) : πof (evR r) i = i + 1 := by
  unfold πof evR
  rw [List.getD_eq_getElem?_getD, List.getElem?_append_left (by simpa using h)]
  simp [h]
theorem evR_hi (r : Rc) : πof (evR r) (oO r).length = (oO r).length + 2 := by
  unfold πof evR
  rw [List.getD_eq_getElem?_getD, List.getElem?_append_right (by simp)]
  simp
theorem evR_nd (r : Rc) : (evR r).Nodup := by
  unfold evR
  refine List.nodup_append.2 ⟨nd_succ _, by simp, fun a ha b hb => ?_⟩
  simp at ha hb
  omega
theorem evO_nest (r : Rc) (es : List Dt) : NestObjs (evO r es) := by
  have hl : (evO r es).length = (oO r).length + 1 := by simp [evO]
  intro rows hr row hrow x hx
  rw [hl]
  rcases List.mem_append.1 hr with hr | hr
  · have := ordO_nest (rowsP _) _ _ _ rows hr row hrow x hx
    have t1 : AV.ltr (oO r).length x = true := this.1
    exact ⟨ltr_le (by omega) x t1, this.2⟩
  · simp at hr; subst hr
    refine ⟨ltrV _ _ row hrow x hx, ?_⟩
    obtain ⟨p, _, rfl⟩ := List.mem_map.1 hrow
    have := vRow_plain p x hx
    cases x <;> first | rfl | simp [AV.plain] at this
theorem con39_all (a b nn : Bool) (r : Rc) (es : List Dt) (h1 : r.cs.length ≤ 1048576) (h2 : r.xs.length ≤ 1048576) (h3 : es.length ≤ 1048576) (v : AV) (rs : List Nat) (objs : List Ab.Rows) (hv : v.nvf = true) (hp : NestObjs objs)
    (hend : (GoodE r es → v = evV r ∧ rs = evR r ∧ objs = evO r es) ∧ (¬ GoodE r es → v = .tup [.nilP, .nilS, .bool false] ∧ rs = [] ∧ objs = [])) :
    ConG Try.prog 39 true [.agg (rRow a b r), .vw nn (es.map tRow)] v objs := by
  classical
  suffices key : ConG Try.prog 39 v.nvf [.agg (rRow a b r), .vw nn (es.map tRow)] v objs by rwa [hv] at key
  refine con_of_wpG mixed fun39 (by simp) rs hp ?_
  unfold ac39 ro39
  simp only [zipT]
  have hno : ∀ (t : List (Nat × AV)) (h : List (Nat × Option Ab.Rows)) (nr : Nat), ¬ GoodE r es → lk t 4 = .nilP → lk t 5 = .nilS → lk t 6 = .bool false → RetG [.mv (.t 4), .mv (.t 5), .mv (.t 6)] rs v objs .r ⟨t, h, nr⟩ := by
    intro t h nr hE h4 h5 h6
    obtain ⟨rfl, rfl, rfl⟩ := hend.2 hE
    exact retG_gen (.inr rfl) (retVs_3 (retV_mv (show gT (lk t) (.t 4) = .nilP from h4)) (retV_mv (show gT (lk t) (.t 5) = .nilS from h5)) (retV_mv (show gT (lk t) (.t 6) = .bool false from h6))) rfl (by simp [notOne]) rfl rfl List.nodup_nil (fun i rows h => by simp at h)
  by_cases hG : GoodR r
  · have cR := con54_yes a b r hG
    have h10 := hG.1
    by_cases hC : consis r
    · rw [decide_eq_true hC] at cR
      have e0 : ∀ n : Nat, 0 + ((n : Int)).toNat = n := fun n => by simp
      have cf := fun m => con27 a b r m h1
      obtain ⟨x, y, z, hst, hlenv⟩ := oO_st r
      have hl1 : hg (oT a b r) 1 = some [[sh 1 x, sh 1 y, sh 1 z]] := oT_in (i := 0) hst
      obtain ⟨n, hn⟩ : ∃ n, r.cs.length = n := ⟨_, rfl⟩
      obtain ⟨m, hm⟩ : ∃ m, (oO r).length = m := ⟨_, rfl⟩
      have hm0 : 0 < m := by rw [← hm]; exact ordO_pos _ _ _ _
      have hwT := oT_wf a b r
      rw [hm] at hwT
      rw [hn] at hlenv
      have cP := con55 ⟨-20000, 2100⟩ n (by omega)
      repeat (first
    | refine wC_a rfl ?_
    | refine q_s rfl ?_
    | refine q_b rfl ?_
    | refine wG_nil ?_
    | refine wG_g rfl ?_
    | refine wG_pure (o_len_vwm rfl) ?_
    | refine wG_pure (o_not_d rfl) ?_
    | refine wG_p rfl (by first | exact rfl | omega) ?_
    | refine wG_pure (o_str2 rfl rfl rfl) ?_
    | refine wG_pure (e_istr rfl rfl (by omega)) ?_
    | refine wG_pure (e_istr0 rfl rfl (by omega)) ?_
    | refine wG_pure (o_not rfl) ?_
    | refine wG_pure (e_ia_vw0 rfl rfl (by omega) rfl) ?_
    | refine wG_pure (e_ia_vwp rfl rfl (by omega) rfl) ?_
    | refine wG_pure (e_ia_vwm rfl rfl (by omega) (by omega) rfl) ?_
    | refine wG_pure (e_ia_vwi rfl rfl (by omega) rfl) ?_
    | refine wG_pure (e_ia_vwn rfl rfl (by omega) (by omega) rfl) ?_
    | refine wG_n rfl rfl ?_
    | refine wG_u rfl rfl ?_
    | refine wG_new (o_mks rfl rfl (by omega) (by decide)) ?_)
      refine wG_callG (v' := .tup [.pt 1 0 0, .bool true]) cR rfl rfl rfl ?_
      rw [show 0 + 1 + (oO r).length = m + 1 by omega]
      change wpG _ _ _ ⟨_, oT a b r, _⟩ _
      repeat (first | refine wG_pure (o_ldf_pt rfl (hg_skip (by omega) hl1) rfl rfl) ?_ | refine wG_pure (hlenv _ _ _ _ rfl) ?_ | refine wG_call1 (v' := .sl (m + 2) 2 0 n) cP (ag_sl (f := vRow) (zs := [⟨-20000, 2100⟩]) rfl hg_here rfl vRow_plain (ag_int rfl ag_nil)) rfl ?_ | (first
    | refine wC_a rfl ?_
    | refine q_s rfl ?_
    | refine q_b rfl ?_
    | refine wG_nil ?_
    | refine wG_g rfl ?_
    | refine wG_pure (o_len_vwm rfl) ?_
    | refine wG_pure (o_not_d rfl) ?_
    | refine wG_p rfl (by first | exact rfl | omega) ?_
    | refine wG_pure (o_str2 rfl rfl rfl) ?_
    | refine wG_pure (e_istr rfl rfl (by omega)) ?_
    | refine wG_pure (e_istr0 rfl rfl (by omega)) ?_
    | refine wG_pure (o_not rfl) ?_
    | refine wG_pure (e_ia_vw0 rfl rfl (by omega) rfl) ?_
    | refine wG_pure (e_ia_vwp rfl rfl (by omega) rfl) ?_
    | refine wG_pure (e_ia_vwm rfl rfl (by omega) (by omega) rfl) ?_
    | refine wG_pure (e_ia_vwi rfl rfl (by omega) rfl) ?_
    | refine wG_pure (e_ia_vwn rfl rfl (by omega) (by omega) rfl) ?_
    | refine wG_n rfl rfl ?_
    | refine wG_u rfl rfl ?_
    | refine wG_new (o_mks rfl rfl (by omega) (by decide)) ?_))
      have hwS : ∀ q, wfH ((m + 2, some ((ownL r es q n).map vRow)) :: oT a b r) (m + 3) := fun q => wfH_cons (by omega) (ltrV _ _) (wfH_le hwT (by omega))
      refine wC_loopX Nat (fun q => ⟨[(1, .vw nn (es.map tRow)), (2, .pt 0 0 0), (7, .pt 1 0 0), (9, .sl (m + 2) 2 0 n), (28, .vw nn (es.map tRow)), (29, .int .i64 (es.length : Int)), (30, .int .i64 (q : Int))], (m + 2, some ((ownL r es q n).map vRow)) :: oT a b r, m + 3⟩) (fun q => q ≤ es.length ∧ ∀ j, j < q → okE r es j) (fun q => es.length - q) 0 ⟨Nat.zero_le _, fun j hj => absurd hj (Nat.not_lt_zero _)⟩ ?_ ?_
      · refine .inl (Le_of ⟨⟨rfl, rfl⟩, ⟨rfl, by simp [AV.ltr]⟩, ⟨rfl, by simp [AV.ltr]⟩, ⟨rfl, by simp [AV.ltr]⟩, ⟨rfl, rfl⟩, ⟨rfl, rfl⟩, ⟨rfl, rfl⟩, trivial⟩ (fun q rows hq => ?_) (hwS 0))
        simp only at hq
        rw [ownL_0] at hq
        by_cases hq2 : q = m + 2
        · subst hq2
          rw [hg_here] at hq
          rw [← hq]
          exact hg_here
        · have h5 : Ab.hg (oT a b r) q = some rows := by simpa [Ab.hg, upd, hq2] using hq
          have := (hwT q rows h5).1
          exact hg_skip hq2 (hg_skip (by omega) h5)
      rintro q ⟨hq, hok⟩
      repeat (first
    | refine wC_a rfl ?_
    | refine q_s rfl ?_
    | refine q_b rfl ?_
    | refine wG_nil ?_
    | refine wG_g rfl ?_
    | refine wG_pure (o_len_vwm rfl) ?_
    | refine wG_pure (o_not_d rfl) ?_
    | refine wG_p rfl (by first | exact rfl | omega) ?_
    | refine wG_pure (o_str2 rfl rfl rfl) ?_
    | refine wG_pure (e_istr rfl rfl (by omega)) ?_
    | refine wG_pure (e_istr0 rfl rfl (by omega)) ?_
    | refine wG_pure (o_not rfl) ?_
    | refine wG_pure (e_ia_vw0 rfl rfl (by omega) rfl) ?_
    | refine wG_pure (e_ia_vwp rfl rfl (by omega) rfl) ?_
    | refine wG_pure (e_ia_vwm rfl rfl (by omega) (by omega) rfl) ?_
    | refine wG_pure (e_ia_vwi rfl rfl (by omega) rfl) ?_
    | refine wG_pure (e_ia_vwn rfl rfl (by omega) (by omega) rfl) ?_
    | refine wG_n rfl rfl ?_
    | refine wG_u rfl rfl ?_
    | refine wG_new (o_mks rfl rfl (by omega) (by decide)) ?_)
      refine wC_cond_d rfl (fun h4 => ?_) (fun h4 => ?_)
      · have hq2 : q < es.length := by omega
        have cI := con28 ⟨(es.getD q default).f, (es.getD q default).t⟩
        have hw0 : (0 : Nat) ≠ m + 3 := by omega
        have hw1 : (0 : Nat) ≠ m + 2 := by omega
        have hw2 : m + 2 ≠ m + 3 := by omega
        repeat' (first | refine wG_upd (o_st_agg rfl hg_here rfl rfl rfl rfl rfl) ?_ | refine wG_pure (o_ldt_pt rfl (hg_skip hw0 (hg_skip hw0 (hg_skip hw1 oT_0))) rfl rfl rfl) ?_ | refine wG_pure (o_ldf_pt rfl hg_here rfl rfl) ?_ | refine wG_pure (o_ldt_pt rfl hg_here rfl rfl rfl) ?_ | refine wG_call (cf _) rfl rfl ?_ | refine wG_call cI rfl rfl ?_ | (first
    | refine wC_a rfl ?_
    | refine q_s rfl ?_
    | refine q_b rfl ?_
    | refine wG_nil ?_
    | refine wG_g rfl ?_
    | refine wG_pure (o_len_vwm rfl) ?_
    | refine wG_pure (o_not_d rfl) ?_
    | refine wG_p rfl (by first | exact rfl | omega) ?_
    | refine wG_pure (o_str2 rfl rfl rfl) ?_
    | refine wG_pure (e_istr rfl rfl (by omega)) ?_
    | refine wG_pure (e_istr0 rfl rfl (by omega)) ?_
    | refine wG_pure (o_not rfl) ?_
    | refine wG_pure (e_ia_vw0 rfl rfl (by omega) rfl) ?_
    | refine wG_pure (e_ia_vwp rfl rfl (by omega) rfl) ?_
    | refine wG_pure (e_ia_vwm rfl rfl (by omega) (by omega) rfl) ?_
    | refine wG_pure (e_ia_vwi rfl rfl (by omega) rfl) ?_
    | refine wG_pure (e_ia_vwn rfl rfl (by omega) (by omega) rfl) ?_
    | refine wG_n rfl rfl ?_
    | refine wG_u rfl rfl ?_
    | refine wG_new (o_mks rfl rfl (by omega) (by decide)) ?_) | (refine wG_gd rfl (fun hgt => ?_) (fun hgf => ?_) <;> (first | simp only [eq_true hgt, decide_true] | simp only [eq_false hgf, decide_false])) | refine wC_cond_d rfl (fun hg => ?_) (fun hg => ?_))
        all_goals (try (exfalso; omega))
        all_goals (try simp only [Classical.not_not] at *)
        all_goals (first
          | (refine hno _ _ _ (fun hE => ?_) rfl rfl rfl
             obtain ⟨g1, g2, g3⟩ := hE.2 q hq2
             first | omega | contradiction)
          | (have hokq : okE r es q := ⟨by omega, by assumption, fun h0 => by omega⟩
             have bq := idx_b r (es.getD q default).n
             obtain ⟨A, hA⟩ : ∃ A : Nat, idx r (es.getD q default).n = A := ⟨_, (Int.toNat_of_nonneg hokq.1).symm⟩
             rw [hA] at bq
             simp only [hA]
             have hAn : A < n := by omega
             have hset := ownL_set (r := r) (es := es) (q := q) (n := n) (A := A) (by rw [hA]; rfl)
             have hrow := ownL_get (r := r) (es := es) (q := q) hAn
             repeat (first | (refine wG_pure (e_ia_sl rfl rfl (by omega) (by omega)) ?_; simp only [e0]) | refine wG_pure (o_ldt_pt rfl hg_here rfl rfl rfl) ?_ | refine wG_upd (o_st_agg rfl (hg_skip hw2 (hg_skip hw2 hg_here)) hrow rfl rfl rfl rfl) ?_ | (first
    | refine wC_a rfl ?_
    | refine q_s rfl ?_
    | refine q_b rfl ?_
    | refine wG_nil ?_
    | refine wG_g rfl ?_
    | refine wG_pure (o_len_vwm rfl) ?_
    | refine wG_pure (o_not_d rfl) ?_
    | refine wG_p rfl (by first | exact rfl | omega) ?_
    | refine wG_pure (o_str2 rfl rfl rfl) ?_
    | refine wG_pure (e_istr rfl rfl (by omega)) ?_
    | refine wG_pure (e_istr0 rfl rfl (by omega)) ?_
    | refine wG_pure (o_not rfl) ?_
    | refine wG_pure (e_ia_vw0 rfl rfl (by omega) rfl) ?_
    | refine wG_pure (e_ia_vwp rfl rfl (by omega) rfl) ?_
    | refine wG_pure (e_ia_vwm rfl rfl (by omega) (by omega) rfl) ?_
    | refine wG_pure (e_ia_vwi rfl rfl (by omega) rfl) ?_
    | refine wG_pure (e_ia_vwn rfl rfl (by omega) (by omega) rfl) ?_
    | refine wG_n rfl rfl ?_
    | refine wG_u rfl rfl ?_
    | refine wG_new (o_mks rfl rfl (by omega) (by decide)) ?_))
             refine ⟨q + 1, ⟨by omega, fun j hj => ?_⟩, by omega, .inl (Le_of ⟨⟨rfl, rfl⟩, ⟨rfl, by simp [AV.ltr]⟩, ⟨rfl, by simp [AV.ltr]⟩, ⟨rfl, by simp [AV.ltr]⟩, ⟨rfl, rfl⟩, ⟨rfl, rfl⟩, ⟨rfl, rfl⟩, trivial⟩ (fun p rows hp => ?_) (hwS (q + 1)))⟩
             · rcases Nat.lt_or_ge j q with hji | hji
               · exact hok j hji
               · obtain rfl : j = q := by omega
                 exact hokq
             · by_cases hp2 : p = m + 2
               · subst hp2
                 rw [hg_here] at hp
                 rw [← hp, ← hset]
                 exact hg_here
               · have h5 : Ab.hg (oT a b r) p = some rows := by simpa [Ab.hg, upd, hp2] using hp
                 have := (hwT p rows h5).1
                 exact hg_skip hp2 (hg_skip (by omega) (hg_skip (by omega) (hg_skip hp2 h5)))))
      · have hq3 : q = es.length := by omega
        subst hq3
        repeat (first
    | refine wC_a rfl ?_
    | refine q_s rfl ?_
    | refine q_b rfl ?_
    | refine wG_nil ?_
    | refine wG_g rfl ?_
    | refine wG_pure (o_len_vwm rfl) ?_
    | refine wG_pure (o_not_d rfl) ?_
    | refine wG_p rfl (by first | exact rfl | omega) ?_
    | refine wG_pure (o_str2 rfl rfl rfl) ?_
    | refine wG_pure (e_istr rfl rfl (by omega)) ?_
    | refine wG_pure (e_istr0 rfl rfl (by omega)) ?_
    | refine wG_pure (o_not rfl) ?_
    | refine wG_pure (e_ia_vw0 rfl rfl (by omega) rfl) ?_
    | refine wG_pure (e_ia_vwp rfl rfl (by omega) rfl) ?_
    | refine wG_pure (e_ia_vwm rfl rfl (by omega) (by omega) rfl) ?_
    | refine wG_pure (e_ia_vwi rfl rfl (by omega) rfl) ?_
    | refine wG_pure (e_ia_vwn rfl rfl (by omega) (by omega) rfl) ?_
    | refine wG_n rfl rfl ?_
    | refine wG_u rfl rfl ?_
    | refine wG_new (o_mks rfl rfl (by omega) (by decide)) ?_)
        obtain ⟨rfl, rfl, rfl⟩ := hend.1 ⟨⟨hG, hC⟩, hok⟩
        refine retG_gen (.inr rfl) (retVs_3 (retV_mv rfl) (retV_mv rfl) (retV_mv rfl)) ?_ (by simp [evV, notOne]) ?_ (by simp [evR, evO]) (evR_nd r) (fun i rows h => ?_)
        · show [AV.pt 1 0 0, .sl (m + 2) 2 0 n, .bool true] = [AV.pt (πof (evR r) 0) 0 0, .sl (πof (evR r) (oO r).length) 2 0 r.cs.length, .bool true]
          rw [evR_lo (by omega), evR_hi, hm, hn]
        · simp [evV, evO, AV.ltr, ltrL]
        · by_cases hi : i < m
          · have h6 : (oO r)[i]? = some rows := by rw [evO, List.getElem?_append_left (by omega)] at h; exact h
            rw [evR_lo (by omega), ← ordO_sh (rowsP _) (b := 1) (fun j hj => by rw [evR_lo hj]; omega) h6]
            refine hg_skip (by omega) ?_
            rw [show i + 1 = 1 + i by omega]
            exact oT_in h6
          · have hlen := (List.getElem?_eq_some_iff.1 h).1
            simp [evO, hm] at hlen
            have hi2 : i = (oO r).length := by omega
            subst hi2
            rw [evO, List.getElem?_append_right (Nat.le_refl _), Nat.sub_self] at h
            cases h
            rw [evR_hi, hm, hn, ← rn_rows (fun row hr x hx => by obtain ⟨p, _, rfl⟩ := List.mem_map.1 hr; exact vRow_plain p x hx)]
            exact hg_here
    · rw [decide_eq_false hC] at cR
      repeat (first
    | refine wC_a rfl ?_
    | refine q_s rfl ?_
    | refine q_b rfl ?_
    | refine wG_nil ?_
    | refine wG_g rfl ?_
    | refine wG_pure (o_len_vwm rfl) ?_
    | refine wG_pure (o_not_d rfl) ?_
    | refine wG_p rfl (by first | exact rfl | omega) ?_
    | refine wG_pure (o_str2 rfl rfl rfl) ?_
    | refine wG_pure (e_istr rfl rfl (by omega)) ?_
    | refine wG_pure (e_istr0 rfl rfl (by omega)) ?_
    | refine wG_pure (o_not rfl) ?_
    | refine wG_pure (e_ia_vw0 rfl rfl (by omega) rfl) ?_
    | refine wG_pure (e_ia_vwp rfl rfl (by omega) rfl) ?_
    | refine wG_pure (e_ia_vwm rfl rfl (by omega) (by omega) rfl) ?_
    | refine wG_pure (e_ia_vwi rfl rfl (by omega) rfl) ?_
    | refine wG_pure (e_ia_vwn rfl rfl (by omega) (by omega) rfl) ?_
    | refine wG_n rfl rfl ?_
    | refine wG_u rfl rfl ?_
    | refine wG_new (o_mks rfl rfl (by omega) (by decide)) ?_)
      refine wG_callG (v' := .tup [.pt 1 0 0, .bool false]) cR rfl rfl rfl ?_
      repeat (first
    | refine wC_a rfl ?_
    | refine q_s rfl ?_
    | refine q_b rfl ?_
    | refine wG_nil ?_
    | refine wG_g rfl ?_
    | refine wG_pure (o_len_vwm rfl) ?_
    | refine wG_pure (o_not_d rfl) ?_
    | refine wG_p rfl (by first | exact rfl | omega) ?_
    | refine wG_pure (o_str2 rfl rfl rfl) ?_
    | refine wG_pure (e_istr rfl rfl (by omega)) ?_
    | refine wG_pure (e_istr0 rfl rfl (by omega)) ?_
    | refine wG_pure (o_not rfl) ?_
    | refine wG_pure (e_ia_vw0 rfl rfl (by omega) rfl) ?_
    | refine wG_pure (e_ia_vwp rfl rfl (by omega) rfl) ?_
    | refine wG_pure (e_ia_vwm rfl rfl (by omega) (by omega) rfl) ?_
    | refine wG_pure (e_ia_vwi rfl rfl (by omega) rfl) ?_
    | refine wG_pure (e_ia_vwn rfl rfl (by omega) (by omega) rfl) ?_
    | refine wG_n rfl rfl ?_
    | refine wG_u rfl rfl ?_
    | refine wG_new (o_mks rfl rfl (by omega) (by decide)) ?_)
      exact hno _ _ _ (fun h => hC h.1.2) rfl rfl rfl
  · have cR := con54_no a b r h1 h2 hG
    repeat (first | refine wG_call cR rfl rfl ?_ | (first
    | refine wC_a rfl ?_
    | refine q_s rfl ?_
    | refine q_b rfl ?_
    | refine wG_nil ?_
    | refine wG_g rfl ?_
    | refine wG_pure (o_len_vwm rfl) ?_
    | refine wG_pure (o_not_d rfl) ?_
    | refine wG_p rfl (by first | exact rfl | omega) ?_
    | refine wG_pure (o_str2 rfl rfl rfl) ?_
    | refine wG_pure (e_istr rfl rfl (by omega)) ?_
    | refine wG_pure (e_istr0 rfl rfl (by omega)) ?_
    | refine wG_pure (o_not rfl) ?_
    | refine wG_pure (e_ia_vw0 rfl rfl (by omega) rfl) ?_
    | refine wG_pure (e_ia_vwp rfl rfl (by omega) rfl) ?_
    | refine wG_pure (e_ia_vwm rfl rfl (by omega) (by omega) rfl) ?_
    | refine wG_pure (e_ia_vwi rfl rfl (by omega) rfl) ?_
    | refine wG_pure (e_ia_vwn rfl rfl (by omega) (by omega) rfl) ?_
    | refine wG_n rfl rfl ?_
    | refine wG_u rfl rfl ?_
    | refine wG_new (o_mks rfl rfl (by omega) (by decide)) ?_))
    exact hno _ _ _ (fun h => hG h.1.1) rfl rfl rfl
end Go.Proofs.Yteoonedddgiacaa.Rec
