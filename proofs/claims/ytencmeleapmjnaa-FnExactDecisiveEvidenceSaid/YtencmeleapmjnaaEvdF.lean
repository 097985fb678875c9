/- The first conflict on the implementation's side, and the law. -/
import Derived.Test.YtencmeleapmjnaaEvdE
namespace Go.Proofs.Ytencmeleapmjnaa.Rec
open Go Go.Proofs.Ytencmeleapmjnaa.Ab Go.Proofs.Ytencmeleapmjnaa.Il
attribute [local irreducible] wpO wpC wpDr wpQ wpG wpE stepA seqQ blkQ Ret RetG ev
set_option maxRecDepth 10000
set_option maxHeartbeats 8000000
set_option linter.unusedSimpArgs false
set_option linter.unusedVariables false

def ac6 : AC := (.seq (.reg [⟨(some 2), none, (.box 2 true (.t 0))⟩, ⟨(some 4), none, (.mv (.c (.bool false)))⟩]) (.seq (.reg [⟨(some 5), none, (.mv (.c (.int .i64 1048576)))⟩]) (.seq (.reg [⟨(some 16), none, (.ld true 2 (.t 2))⟩, ⟨(some 17), none, (.mv (.t 5))⟩, ⟨(some 18), none, (.call 7 [(.t 16), (.t 17)])⟩, ⟨(some 5), none, (.mv (.t 18))⟩]) (.seq (.seq (.reg [⟨(some 19), none, (.mv (.t 5))⟩, ⟨(some 20), none, (.bin .lss (.t 19) (.c (.int .i64 0)))⟩]) (.cond (.t 20) (.seq (.reg [⟨(some 4), none, (.mv (.c (.bool true)))⟩]) .ret) .skip)) (.seq (.reg [⟨(some 21), none, (.mv (.t 1))⟩, ⟨(some 22), none, (.mv (.t 5))⟩, ⟨(some 23), none, (.call 8 [(.t 21), (.t 22)])⟩, ⟨(some 5), none, (.mv (.t 23))⟩]) (.seq (.seq (.reg [⟨(some 24), none, (.mv (.t 5))⟩, ⟨(some 25), none, (.bin .lss (.t 24) (.c (.int .i64 0)))⟩]) (.cond (.t 25) (.seq (.reg [⟨(some 4), none, (.mv (.c (.bool true)))⟩]) .ret) .skip)) (.seq (.reg [⟨(some 27), none, (.ld true 2 (.t 2))⟩, ⟨(some 28), none, (.call 10 [(.t 27)])⟩, ⟨(some 29), none, (.mv (.t 1))⟩, ⟨(some 30), none, (.call 11 [(.t 29)])⟩, ⟨(some 31), none, (.call 27 [(.t 28), (.t 30)])⟩, ⟨(some 26), none, (.mv (.t 31))⟩, ⟨(some 32), none, (.ext (.t 26) 0)⟩, ⟨(some 33), none, (.ext (.t 26) 1)⟩, ⟨(some 34), none, (.ext (.t 26) 2)⟩, ⟨(some 35), none, (.ext (.t 26) 3)⟩, ⟨(some 6), none, (.mv (.t 32))⟩, ⟨(some 7), none, (.mv (.t 33))⟩, ⟨(some 8), none, (.mv (.t 34))⟩, ⟨(some 9), none, (.mv (.t 35))⟩]) (.seq (.reg [⟨(some 36), none, (.ld true 2 (.t 2))⟩, ⟨(some 37), none, (.call 10 [(.t 36)])⟩, ⟨(some 10), none, (.alloc [.nilS, .nilS])⟩, ⟨none, none, (.st 2 (.t 10) (.t 37))⟩]) (.seq (.reg [⟨(some 38), none, (.mv (.t 1))⟩, ⟨(some 39), none, (.call 11 [(.t 38)])⟩, ⟨(some 11), none, (.mv (.t 39))⟩]) (.seq (.reg [⟨(some 41), none, (.ld true 2 (.t 10))⟩, ⟨(some 42), none, (.mv (.t 11))⟩, ⟨(some 43), none, (.call 28 [(.t 41), (.t 42)])⟩, ⟨(some 40), none, (.mv (.t 43))⟩, ⟨(some 44), none, (.ext (.t 40) 0)⟩, ⟨(some 45), none, (.ext (.t 40) 1)⟩, ⟨(some 46), none, (.ext (.t 40) 2)⟩, ⟨(some 47), none, (.ext (.t 40) 3)⟩, ⟨(some 12), none, (.mv (.t 44))⟩, ⟨(some 13), none, (.mv (.t 45))⟩, ⟨(some 14), none, (.mv (.t 46))⟩, ⟨(some 15), none, (.mv (.t 47))⟩]) (.seq (.seq (.reg [⟨(some 48), none, (.mv (.t 12))⟩, ⟨(some 49), none, (.mv (.t 6))⟩, ⟨(some 50), none, (.bin .neq (.t 48) (.t 49))⟩, ⟨(some 51), none, (.mv (.t 50))⟩, ⟨(some 52), (some (51, false)), (.mv (.t 13))⟩, ⟨(some 53), (some (51, false)), (.mv (.t 7))⟩, ⟨(some 54), (some (51, false)), (.bin .neq (.t 52) (.t 53))⟩, ⟨(some 55), none, (.pick (.t 51) (.c (.bool true)) (.t 54))⟩, ⟨(some 56), none, (.mv (.t 55))⟩, ⟨(some 57), (some (56, false)), (.mv (.t 14))⟩, ⟨(some 58), (some (56, false)), (.mv (.t 8))⟩, ⟨(some 59), (some (56, false)), (.bool2 true (.t 57) (.t 58))⟩, ⟨(some 60), none, (.pick (.t 56) (.c (.bool true)) (.t 59))⟩, ⟨(some 61), none, (.mv (.t 60))⟩, ⟨(some 62), (some (61, false)), (.mv (.t 15))⟩, ⟨(some 63), (some (61, false)), (.mv (.t 9))⟩, ⟨(some 64), (some (61, false)), (.bool2 true (.t 62) (.t 63))⟩, ⟨(some 65), none, (.pick (.t 61) (.c (.bool true)) (.t 64))⟩]) (.cond (.t 65) (.seq (.reg [⟨(some 4), none, (.mv (.c (.bool false)))⟩]) .ret) .skip)) (.seq (.seq (.dreg [⟨(some 66), none, (.ld true 2 (.t 10))⟩, ⟨(some 67), none, (.ld true 2 (.t 2))⟩, ⟨(some 68), none, (.call 10 [(.t 67)])⟩, ⟨(some 69), none, (.call 14 [(.t 66), (.t 68)])⟩, ⟨(some 70), none, (.un .not (.t 69))⟩] [[], [], [1], [0, 1, 2], [0, 1, 2, 3]]) (.cond (.t 70) (.seq (.reg [⟨(some 4), none, (.mv (.c (.bool false)))⟩]) .ret) .skip)) (.seq (.seq (.reg [⟨(some 71), none, (.mv (.t 11))⟩, ⟨(some 72), none, (.mv (.t 1))⟩, ⟨(some 73), none, (.call 11 [(.t 72)])⟩, ⟨(some 74), none, (.call 15 [(.t 71), (.t 73)])⟩, ⟨(some 75), none, (.un .not (.t 74))⟩]) (.cond (.t 75) (.seq (.reg [⟨(some 4), none, (.mv (.c (.bool false)))⟩]) .ret) .skip)) (.seq (.reg [⟨(some 4), none, (.mv (.c (.bool true)))⟩]) .ret))))))))))))))
def ro6 : List AOp := [(.mv (.t 4))]
theorem fun6 : Fun Try.prog 6 76 ac6 ro6 := ⟨Try.f6, _, Try.func6, by kernel_rfl, rfl, rfl, by kernel_rfl, by kernel_rfl, by decide⟩
def ac28 : AC := (.seq (.reg [⟨(some 2), none, (.box 2 true (.t 0))⟩, ⟨(some 4), none, (.mv (.c (.int .i64 0)))⟩, ⟨(some 5), none, (.mv (.c (.int .i64 0)))⟩, ⟨(some 6), none, (.mv (.c (.bool false)))⟩, ⟨(some 7), none, (.mv (.c (.bool false)))⟩]) (.seq (.reg [⟨(some 16), none, (.ld true 2 (.t 2))⟩, ⟨(some 17), none, (.mv (.t 1))⟩, ⟨(some 18), none, (.call 45 [(.t 16), (.t 17)])⟩, ⟨(some 15), none, (.mv (.t 18))⟩, ⟨(some 19), none, (.ext (.t 15) 0)⟩, ⟨(some 20), none, (.ext (.t 15) 1)⟩, ⟨(some 21), none, (.ext (.t 15) 2)⟩, ⟨(some 8), none, (.mv (.t 19))⟩, ⟨(some 9), none, (.mv (.t 20))⟩, ⟨(some 10), none, (.mv (.t 21))⟩]) (.seq (.seq (.reg [⟨(some 22), none, (.mv (.t 10))⟩, ⟨(some 23), none, (.un .not (.t 22))⟩]) (.cond (.t 23) (.seq (.reg [⟨(some 4), none, (.mv (.c (.int .i64 0)))⟩, ⟨(some 5), none, (.mv (.c (.int .i64 0)))⟩, ⟨(some 6), none, (.mv (.c (.bool false)))⟩, ⟨(some 7), none, (.mv (.c (.bool false)))⟩]) .ret) .skip)) (.seq (.seq (.reg [⟨(some 24), none, (.mv (.t 8))⟩, ⟨(some 25), none, (.nck (.t 24))⟩, ⟨(some 26), none, (.fa 2 (.t 25))⟩, ⟨(some 27), none, (.ld false 1 (.t 26))⟩, ⟨(some 28), none, (.len (.t 27))⟩, ⟨(some 29), none, (.mv (.c (.int .i64 0)))⟩]) (.blk 0 (.loop (.seq (.reg [⟨(some 30), none, (.bin .lss (.t 29) (.t 28))⟩]) (.seq (.cond (.t 30) .skip (.exit 0)) (.seq (.blk 1 (.seq (.reg [⟨(some 31), none, (.mv (.t 29))⟩, ⟨(some 32), none, (.ia 1 (.t 27) (.t 29))⟩, ⟨(some 33), none, (.ld false 1 (.t 32))⟩, ⟨(some 11), none, (.mv (.t 31))⟩, ⟨(some 12), none, (.mv (.t 33))⟩]) (.seq (.reg [⟨(some 34), none, (.mv (.t 12))⟩, ⟨(some 35), none, (.len (.t 34))⟩, ⟨(some 36), none, (.mv (.c (.int .i64 0)))⟩]) (.blk 2 (.loop (.seq (.reg [⟨(some 37), none, (.bin .lss (.t 36) (.t 35))⟩]) (.seq (.cond (.t 37) .skip (.exit 2)) (.seq (.blk 3 (.seq (.reg [⟨(some 38), none, (.mv (.t 36))⟩, ⟨(some 39), none, (.ia 1 (.t 34) (.t 36))⟩, ⟨(some 40), none, (.ld false 1 (.t 39))⟩, ⟨(some 13), none, (.mv (.t 38))⟩, ⟨(some 14), none, (.mv (.t 40))⟩]) (.seq (.dreg [⟨(some 41), none, (.mv (.t 14))⟩, ⟨(some 42), none, (.mv (.t 41))⟩, ⟨(some 43), (some (42, true)), (.mv (.t 9))⟩, ⟨(some 44), (some (42, true)), (.mv (.t 11))⟩, ⟨(some 45), (some (42, true)), (.ia 2 (.t 43) (.t 44))⟩, ⟨(some 46), (some (42, true)), (.fa 1 (.t 45))⟩, ⟨(some 47), (some (42, true)), (.ld false 1 (.t 46))⟩, ⟨(some 48), (some (42, true)), (.mv (.t 9))⟩, ⟨(some 49), (some (42, true)), (.mv (.t 13))⟩, ⟨(some 50), (some (42, true)), (.ia 2 (.t 48) (.t 49))⟩, ⟨(some 51), (some (42, true)), (.fa 0 (.t 50))⟩, ⟨(some 52), (some (42, true)), (.ld false 1 (.t 51))⟩, ⟨(some 53), (some (42, true)), (.bin .lss (.t 47) (.t 52))⟩, ⟨(some 54), none, (.pick (.t 42) (.t 53) (.c (.bool false)))⟩] [[], [0], [0, 1], [0, 1], [0, 1, 2, 3], [0, 1, 2, 3, 4], [0, 1, 2, 3, 4, 5], [0, 1], [0, 1], [0, 1, 7, 8], [0, 1, 7, 8, 9], [0, 1, 7, 8, 9, 10], [0, 1, 2, 3, 4, 5, 6, 7, 8, 9, 10, 11], [0, 1, 2, 3, 4, 5, 6, 7, 8, 9, 10, 11, 12]]) (.cond (.t 54) (.seq (.dreg [⟨(some 55), none, (.mv (.t 8))⟩, ⟨(some 56), none, (.nck (.t 55))⟩, ⟨(some 57), none, (.fa 0 (.t 56))⟩, ⟨(some 58), none, (.ld false 1 (.t 57))⟩, ⟨(some 59), none, (.mv (.t 11))⟩, ⟨(some 60), none, (.ia 1 (.t 58) (.t 59))⟩, ⟨(some 61), none, (.ld false 1 (.t 60))⟩, ⟨(some 62), none, (.mv (.t 8))⟩, ⟨(some 63), none, (.nck (.t 62))⟩, ⟨(some 64), none, (.fa 0 (.t 63))⟩, ⟨(some 65), none, (.ld false 1 (.t 64))⟩, ⟨(some 66), none, (.mv (.t 13))⟩, ⟨(some 67), none, (.ia 1 (.t 65) (.t 66))⟩, ⟨(some 68), none, (.ld false 1 (.t 67))⟩, ⟨(some 4), none, (.mv (.t 61))⟩, ⟨(some 5), none, (.mv (.t 68))⟩, ⟨(some 6), none, (.mv (.c (.bool true)))⟩, ⟨(some 7), none, (.mv (.c (.bool true)))⟩] [[], [0], [0, 1], [0, 1, 2], [], [0, 1, 2, 3, 4], [0, 1, 2, 3, 4, 5], [], [7], [7, 8], [7, 8, 9], [], [7, 8, 9, 10, 11], [7, 8, 9, 10, 11, 12], [0, 1, 2, 3, 4, 5, 6], [0, 1, 2, 3, 4, 5, 6, 7, 8, 9, 10, 11, 12, 13, 14], [0, 1, 2, 3, 4, 5, 6, 7, 8, 9, 10, 11, 12, 13, 14, 15], [0, 1, 2, 3, 4, 5, 6, 7, 8, 9, 10, 11, 12, 13, 14, 15, 16]]) .ret) .skip)))) (.reg [⟨(some 69), none, (.bin .add (.t 36) (.c (.int .i64 1)))⟩, ⟨(some 36), none, (.mv (.t 69))⟩]))))))))) (.reg [⟨(some 70), none, (.bin .add (.t 29) (.c (.int .i64 1)))⟩, ⟨(some 29), none, (.mv (.t 70))⟩]))))))) (.seq (.reg [⟨(some 4), none, (.mv (.c (.int .i64 0)))⟩, ⟨(some 5), none, (.mv (.c (.int .i64 0)))⟩, ⟨(some 6), none, (.mv (.c (.bool false)))⟩, ⟨(some 7), none, (.mv (.c (.bool true)))⟩]) .ret)))))
def ro28 : List AOp := [(.mv (.t 4)), (.mv (.t 5)), (.mv (.t 6)), (.mv (.t 7))]
theorem fun28 : Fun Try.prog 28 71 ac28 ro28 := ⟨Try.f28, _, Try.func28, by kernel_rfl, rfl, rfl, by kernel_rfl, by kernel_rfl, by decide⟩

theorem obj_wf {objs : List Ab.Rows} {rr : List AV} (hn : NestObjs objs) (hs : ∀ rows ∈ objs, ∀ row ∈ rows, ∀ x ∈ row, x.plain = true ∨ ∃ r s o q, x = .sl r s o q) (hr : ∀ x ∈ rr, ∀ m, AV.ltr m x = true) : wfH (mkh 1 (objs.map (shR 1)) ++ [(0, some [rr])]) (objs.length + 1) := by
  intro q rows hq
  rw [hg_app] at hq
  split at hq
  · rename_i hc
    rw [List.length_map] at hc
    refine ⟨by omega, fun row hrow x hx => ?_⟩
    rw [List.getElem?_map, Option.map_eq_some_iff] at hq
    obtain ⟨rows0, h0, rfl⟩ := hq
    obtain ⟨row0, hr0, rfl⟩ := List.mem_map.1 hrow
    have hm := List.mem_of_getElem? h0
    have := ltr_sh (b := 1) (m := objs.length) row0 (fun y hy => ⟨(hn rows0 hm row0 hr0 y hy).1, hs rows0 hm row0 hr0 y hy⟩) x hx
    rwa [Nat.add_comm] at this
  · have h1 : q = 0 ∧ rows = [rr] := by
      by_cases h0 : q = 0
      · subst h0; exact ⟨rfl, (Option.some.inj hq).symm⟩
      · simp [Ab.hg, upd, h0] at hq
    obtain ⟨rfl, rfl⟩ := h1
    refine ⟨by omega, fun row hrow x hx => ?_⟩
    simp at hrow; subst hrow
    exact hr x hx _
noncomputable def eT (a b : Bool) (r : Rc) (es : List Dt) : List (Nat × Option Ab.Rows) := mkh 1 ((evO r es).map (shR 1)) ++ [(0, some [rRow a b r])]
theorem evO_len (r : Rc) (es : List Dt) : (evO r es).length = (oO r).length + 1 := by simp [evO]
theorem eT_wf (a b : Bool) (r : Rc) (es : List Dt) : wfH (eT a b r es) ((oO r).length + 2) := by
  have := obj_wf (objs := evO r es) (rr := rRow a b r) (evO_nest r es) (fun rows hr row hrow x hx => by
    rcases List.mem_append.1 hr with hr | hr
    · exact ordO_sl (rowsP _) _ _ _ rows hr row hrow x hx
    · simp at hr; subst hr; exact .inl (vRows_plain _ row hrow x hx)) (fun x hx m => by simp [rRow] at hx; rcases hx with rfl | rfl <;> rfl)
  rw [evO_len] at this
  exact this
theorem eT_0 {a b : Bool} {r : Rc} {es : List Dt} : hg (eT a b r es) 0 = some [rRow a b r] := hg_out (fun h => by have := h.1; omega) rfl
theorem eT_in {a b : Bool} {r : Rc} {es : List Dt} {i : Nat} {rows : Ab.Rows} (h : (oO r)[i]? = some rows) : hg (eT a b r es) (1 + i) = some (shR 1 rows) := by
  have hi := (List.getElem?_eq_some_iff.1 h).1
  exact shO_get (by rw [evO, List.getElem?_append_left hi]; exact h)
theorem eT_own {a b : Bool} {r : Rc} {es : List Dt} : hg (eT a b r es) (1 + (oO r).length) = some ((ownL r es es.length r.cs.length).map vRow) := by
  have := shO_get (b := 1) (h := [(0, some [rRow a b r])]) (objs := evO r es) (i := (oO r).length) (rows := (ownL r es es.length r.cs.length).map vRow) (by rw [evO, List.getElem?_append_right (Nat.le_refl _), Nat.sub_self]; rfl)
  rw [shR_plain (vRows_plain _)] at this
  exact this
theorem oO_st2 (r : Rc) : ∃ x, (oO r)[0]? = some [[x, .sl 2 1 0 r.cs.length, .sl 1 1 0 r.cs.length]] ∧ (0 < r.cs.length → x = .sl 3 1 0 r.cs.length) := by
  unfold oO
  cases r.cs.length with
  | zero => exact ⟨_, rfl, fun h => by omega⟩
  | succ n => exact ⟨_, rfl, fun _ => rfl⟩
theorem oO_1 {r : Rc} (h : 0 < r.cs.length) : (oO r)[1]? = some (outB r.cs.length 4) := by
  unfold oO
  cases hn : r.cs.length with
  | zero => omega
  | succ n => rfl
theorem oO_3 {r : Rc} (h : 0 < r.cs.length) : (oO r)[3]? = some ((nums r r.cs.length).map iRow) := by
  unfold oO
  cases hn : r.cs.length with
  | zero => omega
  | succ n => rfl
theorem oO_4 {r : Rc} {i : Nat} (h : i < r.cs.length) : (oO r)[i + 4]? = some (boolR (later r i) r.cs.length) := by
  unfold oO
  cases hn : r.cs.length with
  | zero => omega
  | succ n =>
    show (boolRs (later r) (n + 1) ++ boolRs (lk0 r r.xs.length) (n + 1))[i]? = _
    rw [List.getElem?_append_left (by rw [boolRs_len]; omega), boolRs_get (by omega)]
theorem nums_get {r : Rc} {i : Nat} (h : i < r.cs.length) : ((nums r r.cs.length).map iRow)[i]? = some (iRow (r.cs.getD i default).n) := by
  simp [nums, List.getElem?_map, List.getElem?_eq_getElem h, List.getD_eq_getElem?_getD]
theorem eT_later {a b : Bool} {r : Rc} {es : List Dt} {i : Nat} (h : i < r.cs.length) : hg (eT a b r es) (i + 5) = some (boolR (later r i) r.cs.length) := by
  have := eT_in (a := a) (b := b) (es := es) (oO_4 h)
  rw [shR_plain (boolR_plain _ _)] at this
  rwa [show i + 5 = 1 + (i + 4) by omega]
theorem eT_tab {a b : Bool} {r : Rc} {es : List Dt} (h : 0 < r.cs.length) : hg (eT a b r es) 2 = some (outB r.cs.length 5) := by
  have := eT_in (a := a) (b := b) (es := es) (oO_1 h)
  rw [sh_outB] at this
  exact this
theorem eT_nums {a b : Bool} {r : Rc} {es : List Dt} (h : 0 < r.cs.length) : hg (eT a b r es) 4 = some ((nums r r.cs.length).map iRow) := by
  have := eT_in (a := a) (b := b) (es := es) (oO_3 h)
  rw [shR_plain (rowsP _)] at this
  exact this
theorem con28 (a b nn : Bool) (r : Rc) (es : List Dt) (h1 : r.cs.length ≤ 1048576) (h2 : r.xs.length ≤ 1048576) (h3 : es.length ≤ 1048576) : Con Try.prog 28 true [.agg (rRow a b r), .vw nn (es.map tRow)] (fcV r es) [] := by
  classical
  refine con_of_wp mixed fun28 (by simp) [] plain_nil ?_
  unfold ac28 ro28 fcV
  simp only [zipT]
  by_cases hE : GoodE r es
  · have hG := hE.1.1
    have h10 := hG.1
    have e0 : ∀ n : Nat, 0 + ((n : Int)).toNat = n := fun n => by simp
    obtain ⟨x, hst, hx⟩ := oO_st2 r
    obtain ⟨m, hm⟩ : ∃ m, (oO r).length = m := ⟨_, rfl⟩
    have hm0 : 0 < m := by rw [← hm]; exact ordO_pos _ _ _ _
    have hwf := eT_wf a b r es
    have hown := eT_own (a := a) (b := b) (r := r) (es := es)
    rw [hm] at hwf hown
    have l1 : hg (eT a b r es) 1 = some [[sh 1 x, .sl 3 1 0 r.cs.length, .sl 2 1 0 r.cs.length]] := eT_in (i := 0) hst
    repeat (first
    | refine wC_a rfl ?_
    | refine q_s rfl ?_
    | refine q_b rfl ?_
    | refine wG_nil ?_
    | refine wG_g rfl ?_
    | refine wG_pure (o_len_vwm rfl) ?_
    | refine wG_pure (o_not_d rfl) ?_
    | refine wG_p rfl (by first | exact rfl | omega) ?_
    | refine wG_pure (o_str2 rfl rfl rfl) ?_
    | refine wG_pure (e_istr rfl rfl (by omega)) ?_
    | refine wG_pure (e_istr0 rfl rfl (by omega)) ?_
    | refine wG_pure (o_not rfl) ?_
    | refine wG_pure (e_ia_vw0 rfl rfl (by omega) rfl) ?_
    | refine wG_pure (e_ia_vwp rfl rfl (by omega) rfl) ?_
    | refine wG_pure (e_ia_vwm rfl rfl (by omega) (by omega) rfl) ?_
    | refine wG_pure (e_ia_vwi rfl rfl (by omega) rfl) ?_
    | refine wG_pure (e_ia_vwn rfl rfl (by omega) (by omega) rfl) ?_
    | refine wG_n rfl rfl ?_
    | refine wG_u rfl rfl ?_
    | refine wG_new (o_mks rfl rfl (by omega) (by decide)) ?_)
    refine wG_callG (v' := .tup [.pt 1 0 0, .sl (1 + m) 2 0 r.cs.length, .bool true]) (con45_yes a b nn r es h1 h2 h3 hE) rfl (by rw [← hm]; rfl) rfl ?_
    rw [show 0 + 1 + (evO r es).length = m + 2 by rw [evO_len]; omega]
    change wpG _ _ _ ⟨_, eT a b r es, _⟩ _
    repeat (first | refine wG_pure (o_ldf_pt rfl l1 rfl rfl) ?_ | (first
    | refine wC_a rfl ?_
    | refine q_s rfl ?_
    | refine q_b rfl ?_
    | refine wG_nil ?_
    | refine wG_g rfl ?_
    | refine wG_pure (o_len_vwm rfl) ?_
    | refine wG_pure (o_not_d rfl) ?_
    | refine wG_p rfl (by first | exact rfl | omega) ?_
    | refine wG_pure (o_str2 rfl rfl rfl) ?_
    | refine wG_pure (e_istr rfl rfl (by omega)) ?_
    | refine wG_pure (e_istr0 rfl rfl (by omega)) ?_
    | refine wG_pure (o_not rfl) ?_
    | refine wG_pure (e_ia_vw0 rfl rfl (by omega) rfl) ?_
    | refine wG_pure (e_ia_vwp rfl rfl (by omega) rfl) ?_
    | refine wG_pure (e_ia_vwm rfl rfl (by omega) (by omega) rfl) ?_
    | refine wG_pure (e_ia_vwi rfl rfl (by omega) rfl) ?_
    | refine wG_pure (e_ia_vwn rfl rfl (by omega) (by omega) rfl) ?_
    | refine wG_n rfl rfl ?_
    | refine wG_u rfl rfl ?_
    | refine wG_new (o_mks rfl rfl (by omega) (by decide)) ?_))
    refine wC_loopX Nat (fun i => ⟨[(8, .pt 1 0 0), (9, .sl (1 + m) 2 0 r.cs.length), (27, .sl 2 1 0 r.cs.length), (28, .int .i64 (r.cs.length : Int)), (29, .int .i64 (i : Int))], eT a b r es, m + 2⟩) (fun i => i ≤ r.cs.length ∧ ∀ q, q < i * r.cs.length → ¬ fcQ r es q) (fun i => r.cs.length - i) 0 ⟨Nat.zero_le _, fun q hq => by omega⟩ ?_ ?_
    · exact .inl (Le_of ⟨⟨rfl, by simp [AV.ltr]⟩, ⟨rfl, by simp [AV.ltr]; omega⟩, ⟨rfl, by simp [AV.ltr]; omega⟩, ⟨rfl, rfl⟩, ⟨rfl, rfl⟩, trivial⟩ (fun q rows hq => hq) hwf)
    rintro i ⟨hi, hbi⟩
    repeat (first
    | refine wC_a rfl ?_
    | refine q_s rfl ?_
    | refine q_b rfl ?_
    | refine wG_nil ?_
    | refine wG_g rfl ?_
    | refine wG_pure (o_len_vwm rfl) ?_
    | refine wG_pure (o_not_d rfl) ?_
    | refine wG_p rfl (by first | exact rfl | omega) ?_
    | refine wG_pure (o_str2 rfl rfl rfl) ?_
    | refine wG_pure (e_istr rfl rfl (by omega)) ?_
    | refine wG_pure (e_istr0 rfl rfl (by omega)) ?_
    | refine wG_pure (o_not rfl) ?_
    | refine wG_pure (e_ia_vw0 rfl rfl (by omega) rfl) ?_
    | refine wG_pure (e_ia_vwp rfl rfl (by omega) rfl) ?_
    | refine wG_pure (e_ia_vwm rfl rfl (by omega) (by omega) rfl) ?_
    | refine wG_pure (e_ia_vwi rfl rfl (by omega) rfl) ?_
    | refine wG_pure (e_ia_vwn rfl rfl (by omega) (by omega) rfl) ?_
    | refine wG_n rfl rfl ?_
    | refine wG_u rfl rfl ?_
    | refine wG_new (o_mks rfl rfl (by omega) (by decide)) ?_)
    refine wC_cond_d rfl (fun h4 => ?_) (fun h4 => ?_)
    · have hi2 : i < r.cs.length := by omega
      have hm5 : r.cs.length + 4 ≤ m := by
        have := (List.getElem?_eq_some_iff.1 (oO_4 (r := r) (i := r.cs.length - 1) (by omega))).1
        omega
      have ltab := eT_tab (a := a) (b := b) (r := r) (es := es) (by omega)
      repeat (first | (refine wG_pure (e_ia_sl rfl rfl (by omega) (by omega)) ?_; simp only [e0]) | refine wG_pure (o_ldf_pt rfl ltab (outB_get hi2) rfl) ?_ | (first
    | refine wC_a rfl ?_
    | refine q_s rfl ?_
    | refine q_b rfl ?_
    | refine wG_nil ?_
    | refine wG_g rfl ?_
    | refine wG_pure (o_len_vwm rfl) ?_
    | refine wG_pure (o_not_d rfl) ?_
    | refine wG_p rfl (by first | exact rfl | omega) ?_
    | refine wG_pure (o_str2 rfl rfl rfl) ?_
    | refine wG_pure (e_istr rfl rfl (by omega)) ?_
    | refine wG_pure (e_istr0 rfl rfl (by omega)) ?_
    | refine wG_pure (o_not rfl) ?_
    | refine wG_pure (e_ia_vw0 rfl rfl (by omega) rfl) ?_
    | refine wG_pure (e_ia_vwp rfl rfl (by omega) rfl) ?_
    | refine wG_pure (e_ia_vwm rfl rfl (by omega) (by omega) rfl) ?_
    | refine wG_pure (e_ia_vwi rfl rfl (by omega) rfl) ?_
    | refine wG_pure (e_ia_vwn rfl rfl (by omega) (by omega) rfl) ?_
    | refine wG_n rfl rfl ?_
    | refine wG_u rfl rfl ?_
    | refine wG_new (o_mks rfl rfl (by omega) (by decide)) ?_))
      refine wC_loopX Nat (fun k => ⟨[(8, .pt 1 0 0), (9, .sl (1 + m) 2 0 r.cs.length), (27, .sl 2 1 0 r.cs.length), (28, .int .i64 (r.cs.length : Int)), (29, .int .i64 (i : Int)), (11, .int .i64 (i : Int)), (34, .sl (i + 5) 1 0 r.cs.length), (35, .int .i64 (r.cs.length : Int)), (36, .int .i64 (k : Int))], eT a b r es, m + 2⟩) (fun k => k ≤ r.cs.length ∧ ∀ q, q < i * r.cs.length + k → ¬ fcQ r es q) (fun k => r.cs.length - k) 0 ⟨Nat.zero_le _, fun q hq => hbi q (by omega)⟩ ?_ ?_
      · exact .inl (Le_of ⟨⟨rfl, by simp [AV.ltr]⟩, ⟨rfl, by simp [AV.ltr]; omega⟩, ⟨rfl, by simp [AV.ltr]; omega⟩, ⟨rfl, rfl⟩, ⟨rfl, rfl⟩, ⟨rfl, rfl⟩, ⟨rfl, by simp [AV.ltr]; omega⟩, ⟨rfl, rfl⟩, ⟨rfl, rfl⟩, trivial⟩ (fun q rows hq => hq) hwf)
      rintro k ⟨hk, hbk⟩
      repeat (first
    | refine wC_a rfl ?_
    | refine q_s rfl ?_
    | refine q_b rfl ?_
    | refine wG_nil ?_
    | refine wG_g rfl ?_
    | refine wG_pure (o_len_vwm rfl) ?_
    | refine wG_pure (o_not_d rfl) ?_
    | refine wG_p rfl (by first | exact rfl | omega) ?_
    | refine wG_pure (o_str2 rfl rfl rfl) ?_
    | refine wG_pure (e_istr rfl rfl (by omega)) ?_
    | refine wG_pure (e_istr0 rfl rfl (by omega)) ?_
    | refine wG_pure (o_not rfl) ?_
    | refine wG_pure (e_ia_vw0 rfl rfl (by omega) rfl) ?_
    | refine wG_pure (e_ia_vwp rfl rfl (by omega) rfl) ?_
    | refine wG_pure (e_ia_vwm rfl rfl (by omega) (by omega) rfl) ?_
    | refine wG_pure (e_ia_vwi rfl rfl (by omega) rfl) ?_
    | refine wG_pure (e_ia_vwn rfl rfl (by omega) (by omega) rfl) ?_
    | refine wG_n rfl rfl ?_
    | refine wG_u rfl rfl ?_
    | refine wG_new (o_mks rfl rfl (by omega) (by decide)) ?_)
      refine wC_cond_d rfl (fun h5 => ?_) (fun h5 => ?_)
      · have hk2 : k < r.cs.length := by omega
        have llat := eT_later (a := a) (b := b) (es := es) hi2
        have lnum := eT_nums (a := a) (b := b) (r := r) (es := es) (by omega)
        have hrl := boolR_get (f := later r i) hk2
        have hgi := ownL_get (r := r) (es := es) (q := es.length) hi2
        have hgk := ownL_get (r := r) (es := es) (q := es.length) hk2
        have hx2 := hx (by omega)
        subst hx2
        have nxt : ¬ cP r es i k → ∀ t, leT t (m + 2) [(8, .pt 1 0 0), (9, .sl (1 + m) 2 0 r.cs.length), (27, .sl 2 1 0 r.cs.length), (28, .int .i64 (r.cs.length : Int)), (29, .int .i64 (i : Int)), (11, .int .i64 (i : Int)), (34, .sl (i + 5) 1 0 r.cs.length), (35, .int .i64 (r.cs.length : Int)), (36, .int .i64 ((k + 1 : Nat) : Int))] →
            ∃ x', (x' ≤ r.cs.length ∧ ∀ q, q < i * r.cs.length + x' → ¬ fcQ r es q) ∧ r.cs.length - x' < r.cs.length - k ∧ LeX 0 ⟨t, eT a b r es, m + 2⟩ ⟨[(8, .pt 1 0 0), (9, .sl (1 + m) 2 0 r.cs.length), (27, .sl 2 1 0 r.cs.length), (28, .int .i64 (r.cs.length : Int)), (29, .int .i64 (i : Int)), (11, .int .i64 (i : Int)), (34, .sl (i + 5) 1 0 r.cs.length), (35, .int .i64 (r.cs.length : Int)), (36, .int .i64 (x' : Int))], eT a b r es, m + 2⟩ := by
          intro hc t ht
          refine ⟨k + 1, ⟨by omega, fun q hq => ?_⟩, by omega, .inl (Le_of ht (fun q rows hq => hq) hwf)⟩
          by_cases hq2 : q < i * r.cs.length + k
          · exact hbk q hq2
          · have hq3 : q = i * r.cs.length + k := by omega
            rw [hq3, fcQ_ik hk2]
            exact hc
        cases hb : later r i k with
        | true =>
          rw [hb] at hrl
          repeat' (first | (refine wG_pure (e_ia_sl rfl rfl (by omega) (by omega)) ?_; simp only [e0]) | refine wG_pure (o_ldf_pt rfl llat hrl rfl) ?_ | refine wG_pure (o_ldf_pt rfl hown hgi rfl) ?_ | refine wG_pure (o_ldf_pt rfl hown hgk rfl) ?_ | (first
    | refine wC_a rfl ?_
    | refine q_s rfl ?_
    | refine q_b rfl ?_
    | refine wG_nil ?_
    | refine wG_g rfl ?_
    | refine wG_pure (o_len_vwm rfl) ?_
    | refine wG_pure (o_not_d rfl) ?_
    | refine wG_p rfl (by first | exact rfl | omega) ?_
    | refine wG_pure (o_str2 rfl rfl rfl) ?_
    | refine wG_pure (e_istr rfl rfl (by omega)) ?_
    | refine wG_pure (e_istr0 rfl rfl (by omega)) ?_
    | refine wG_pure (o_not rfl) ?_
    | refine wG_pure (e_ia_vw0 rfl rfl (by omega) rfl) ?_
    | refine wG_pure (e_ia_vwp rfl rfl (by omega) rfl) ?_
    | refine wG_pure (e_ia_vwm rfl rfl (by omega) (by omega) rfl) ?_
    | refine wG_pure (e_ia_vwi rfl rfl (by omega) rfl) ?_
    | refine wG_pure (e_ia_vwn rfl rfl (by omega) (by omega) rfl) ?_
    | refine wG_n rfl rfl ?_
    | refine wG_u rfl rfl ?_
    | refine wG_new (o_mks rfl rfl (by omega) (by decide)) ?_) | refine wC_cond_d rfl (fun hg => ?_) (fun hg => ?_))
          · have e := fc_at hE hi2 hk2 ⟨hb, hg⟩ hbk
            rw [e]
            repeat (first | (refine wG_pure (e_ia_sl rfl rfl (by omega) (by omega)) ?_; simp only [e0]) | refine wG_pure (o_ldf_pt rfl l1 rfl rfl) ?_ | refine wG_pure (o_ldf_pt rfl lnum (nums_get hi2) rfl) ?_ | refine wG_pure (o_ldf_pt rfl lnum (nums_get hk2) rfl) ?_ | (first
    | refine wC_a rfl ?_
    | refine q_s rfl ?_
    | refine q_b rfl ?_
    | refine wG_nil ?_
    | refine wG_g rfl ?_
    | refine wG_pure (o_len_vwm rfl) ?_
    | refine wG_pure (o_not_d rfl) ?_
    | refine wG_p rfl (by first | exact rfl | omega) ?_
    | refine wG_pure (o_str2 rfl rfl rfl) ?_
    | refine wG_pure (e_istr rfl rfl (by omega)) ?_
    | refine wG_pure (e_istr0 rfl rfl (by omega)) ?_
    | refine wG_pure (o_not rfl) ?_
    | refine wG_pure (e_ia_vw0 rfl rfl (by omega) rfl) ?_
    | refine wG_pure (e_ia_vwp rfl rfl (by omega) rfl) ?_
    | refine wG_pure (e_ia_vwm rfl rfl (by omega) (by omega) rfl) ?_
    | refine wG_pure (e_ia_vwi rfl rfl (by omega) rfl) ?_
    | refine wG_pure (e_ia_vwn rfl rfl (by omega) (by omega) rfl) ?_
    | refine wG_n rfl rfl ?_
    | refine wG_u rfl rfl ?_
    | refine wG_new (o_mks rfl rfl (by omega) (by decide)) ?_))
            exact ret_pl (.inr rfl) (retVs_4 (retV_mv rfl) (retV_mv rfl) (retV_mv rfl) (retV_mv rfl)) rfl rfl (by simp)
          · exact nxt (fun hc => hg hc.2) _ ⟨⟨rfl, by simp [AV.ltr]⟩, ⟨rfl, by simp [AV.ltr]; omega⟩, ⟨rfl, by simp [AV.ltr]; omega⟩, ⟨rfl, rfl⟩, ⟨rfl, rfl⟩, ⟨rfl, rfl⟩, ⟨rfl, by simp [AV.ltr]; omega⟩, ⟨rfl, rfl⟩, ⟨rfl, rfl⟩, trivial⟩
        | false =>
          rw [hb] at hrl
          repeat (first | (refine wG_pure (e_ia_sl rfl rfl (by omega) (by omega)) ?_; simp only [e0]) | refine wG_pure (o_ldf_pt rfl llat hrl rfl) ?_ | (first
    | refine wC_a rfl ?_
    | refine q_s rfl ?_
    | refine q_b rfl ?_
    | refine wG_nil ?_
    | refine wG_g rfl ?_
    | refine wG_pure (o_len_vwm rfl) ?_
    | refine wG_pure (o_not_d rfl) ?_
    | refine wG_p rfl (by first | exact rfl | omega) ?_
    | refine wG_pure (o_str2 rfl rfl rfl) ?_
    | refine wG_pure (e_istr rfl rfl (by omega)) ?_
    | refine wG_pure (e_istr0 rfl rfl (by omega)) ?_
    | refine wG_pure (o_not rfl) ?_
    | refine wG_pure (e_ia_vw0 rfl rfl (by omega) rfl) ?_
    | refine wG_pure (e_ia_vwp rfl rfl (by omega) rfl) ?_
    | refine wG_pure (e_ia_vwm rfl rfl (by omega) (by omega) rfl) ?_
    | refine wG_pure (e_ia_vwi rfl rfl (by omega) rfl) ?_
    | refine wG_pure (e_ia_vwn rfl rfl (by omega) (by omega) rfl) ?_
    | refine wG_n rfl rfl ?_
    | refine wG_u rfl rfl ?_
    | refine wG_new (o_mks rfl rfl (by omega) (by decide)) ?_))
          exact nxt (fun hc => by rw [hc.1] at hb; cases hb) _ ⟨⟨rfl, by simp [AV.ltr]⟩, ⟨rfl, by simp [AV.ltr]; omega⟩, ⟨rfl, by simp [AV.ltr]; omega⟩, ⟨rfl, rfl⟩, ⟨rfl, rfl⟩, ⟨rfl, rfl⟩, ⟨rfl, by simp [AV.ltr]; omega⟩, ⟨rfl, rfl⟩, ⟨rfl, rfl⟩, trivial⟩
      · have hk3 : k = r.cs.length := by omega
        subst hk3
        repeat (first
    | refine wC_a rfl ?_
    | refine q_s rfl ?_
    | refine q_b rfl ?_
    | refine wG_nil ?_
    | refine wG_g rfl ?_
    | refine wG_pure (o_len_vwm rfl) ?_
    | refine wG_pure (o_not_d rfl) ?_
    | refine wG_p rfl (by first | exact rfl | omega) ?_
    | refine wG_pure (o_str2 rfl rfl rfl) ?_
    | refine wG_pure (e_istr rfl rfl (by omega)) ?_
    | refine wG_pure (e_istr0 rfl rfl (by omega)) ?_
    | refine wG_pure (o_not rfl) ?_
    | refine wG_pure (e_ia_vw0 rfl rfl (by omega) rfl) ?_
    | refine wG_pure (e_ia_vwp rfl rfl (by omega) rfl) ?_
    | refine wG_pure (e_ia_vwm rfl rfl (by omega) (by omega) rfl) ?_
    | refine wG_pure (e_ia_vwi rfl rfl (by omega) rfl) ?_
    | refine wG_pure (e_ia_vwn rfl rfl (by omega) (by omega) rfl) ?_
    | refine wG_n rfl rfl ?_
    | refine wG_u rfl rfl ?_
    | refine wG_new (o_mks rfl rfl (by omega) (by decide)) ?_)
        exact ⟨i + 1, ⟨by omega, fun q hq => hbk q (by rw [Nat.succ_mul] at hq; omega)⟩, by omega, .inl (Le_of ⟨⟨rfl, by simp [AV.ltr]⟩, ⟨rfl, by simp [AV.ltr]; omega⟩, ⟨rfl, by simp [AV.ltr]; omega⟩, ⟨rfl, rfl⟩, ⟨rfl, rfl⟩, trivial⟩ (fun q rows hq => hq) hwf)⟩
    · have hi3 : i = r.cs.length := by omega
      subst hi3
      rw [fc_none hE hbi]
      repeat (first
    | refine wC_a rfl ?_
    | refine q_s rfl ?_
    | refine q_b rfl ?_
    | refine wG_nil ?_
    | refine wG_g rfl ?_
    | refine wG_pure (o_len_vwm rfl) ?_
    | refine wG_pure (o_not_d rfl) ?_
    | refine wG_p rfl (by first | exact rfl | omega) ?_
    | refine wG_pure (o_str2 rfl rfl rfl) ?_
    | refine wG_pure (e_istr rfl rfl (by omega)) ?_
    | refine wG_pure (e_istr0 rfl rfl (by omega)) ?_
    | refine wG_pure (o_not rfl) ?_
    | refine wG_pure (e_ia_vw0 rfl rfl (by omega) rfl) ?_
    | refine wG_pure (e_ia_vwp rfl rfl (by omega) rfl) ?_
    | refine wG_pure (e_ia_vwm rfl rfl (by omega) (by omega) rfl) ?_
    | refine wG_pure (e_ia_vwi rfl rfl (by omega) rfl) ?_
    | refine wG_pure (e_ia_vwn rfl rfl (by omega) (by omega) rfl) ?_
    | refine wG_n rfl rfl ?_
    | refine wG_u rfl rfl ?_
    | refine wG_new (o_mks rfl rfl (by omega) (by decide)) ?_)
      exact ret_pl (.inr rfl) (retVs_4 (retV_mv rfl) (retV_mv rfl) (retV_mv rfl) (retV_mv rfl)) rfl rfl (by simp)
  · rw [fc_no hE]
    repeat (first
    | refine wC_a rfl ?_
    | refine q_s rfl ?_
    | refine q_b rfl ?_
    | refine wG_nil ?_
    | refine wG_g rfl ?_
    | refine wG_pure (o_len_vwm rfl) ?_
    | refine wG_pure (o_not_d rfl) ?_
    | refine wG_p rfl (by first | exact rfl | omega) ?_
    | refine wG_pure (o_str2 rfl rfl rfl) ?_
    | refine wG_pure (e_istr rfl rfl (by omega)) ?_
    | refine wG_pure (e_istr0 rfl rfl (by omega)) ?_
    | refine wG_pure (o_not rfl) ?_
    | refine wG_pure (e_ia_vw0 rfl rfl (by omega) rfl) ?_
    | refine wG_pure (e_ia_vwp rfl rfl (by omega) rfl) ?_
    | refine wG_pure (e_ia_vwm rfl rfl (by omega) (by omega) rfl) ?_
    | refine wG_pure (e_ia_vwi rfl rfl (by omega) rfl) ?_
    | refine wG_pure (e_ia_vwn rfl rfl (by omega) (by omega) rfl) ?_
    | refine wG_n rfl rfl ?_
    | refine wG_u rfl rfl ?_
    | refine wG_new (o_mks rfl rfl (by omega) (by decide)) ?_)
    refine wG_callG (v' := .tup [.nilP, .nilS, .bool false]) (con45_no a b nn r es h1 h2 h3 hE) rfl rfl rfl ?_
    repeat (first
    | refine wC_a rfl ?_
    | refine q_s rfl ?_
    | refine q_b rfl ?_
    | refine wG_nil ?_
    | refine wG_g rfl ?_
    | refine wG_pure (o_len_vwm rfl) ?_
    | refine wG_pure (o_not_d rfl) ?_
    | refine wG_p rfl (by first | exact rfl | omega) ?_
    | refine wG_pure (o_str2 rfl rfl rfl) ?_
    | refine wG_pure (e_istr rfl rfl (by omega)) ?_
    | refine wG_pure (e_istr0 rfl rfl (by omega)) ?_
    | refine wG_pure (o_not rfl) ?_
    | refine wG_pure (e_ia_vw0 rfl rfl (by omega) rfl) ?_
    | refine wG_pure (e_ia_vwp rfl rfl (by omega) rfl) ?_
    | refine wG_pure (e_ia_vwm rfl rfl (by omega) (by omega) rfl) ?_
    | refine wG_pure (e_ia_vwi rfl rfl (by omega) rfl) ?_
    | refine wG_pure (e_ia_vwn rfl rfl (by omega) (by omega) rfl) ?_
    | refine wG_n rfl rfl ?_
    | refine wG_u rfl rfl ?_
    | refine wG_new (o_mks rfl rfl (by omega) (by decide)) ?_)
    exact ret_pl (.inr rfl) (retVs_4 (retV_mv rfl) (retV_mv rfl) (retV_mv rfl) (retV_mv rfl)) rfl rfl (by simp)
theorem con6 (a b nn : Bool) (r : Rc) (es : List Dt) (h1 : r.cs.length ≤ 9223372036854775807) (h2 : r.xs.length ≤ 9223372036854775807) (h3 : es.length ≤ 9223372036854775807) : Con Try.prog 6 true [.agg (rRow a b r), .vw nn (es.map tRow)] (.bool true) [] := by
  refine con_of_wp mixed fun6 (by simp) [] plain_nil ?_
  unfold ac6 ro6
  simp only [zipT]
  have c1 := con7 a b r h1 h2 1048576 (by decide) (by decide)
  repeat (first | refine wG_call c1 rfl rfl ?_ | (first
    | refine wC_a rfl ?_
    | refine q_s rfl ?_
    | refine q_b rfl ?_
    | refine wG_nil ?_
    | refine wG_g rfl ?_
    | refine wG_pure (o_len_vwm rfl) ?_
    | refine wG_pure (o_not_d rfl) ?_
    | refine wG_p rfl (by first | exact rfl | omega) ?_
    | refine wG_pure (o_str2 rfl rfl rfl) ?_
    | refine wG_pure (e_istr rfl rfl (by omega)) ?_
    | refine wG_pure (e_istr0 rfl rfl (by omega)) ?_
    | refine wG_pure (o_not rfl) ?_
    | refine wG_pure (e_ia_vw0 rfl rfl (by omega) rfl) ?_
    | refine wG_pure (e_ia_vwp rfl rfl (by omega) rfl) ?_
    | refine wG_pure (e_ia_vwm rfl rfl (by omega) (by omega) rfl) ?_
    | refine wG_pure (e_ia_vwi rfl rfl (by omega) rfl) ?_
    | refine wG_pure (e_ia_vwn rfl rfl (by omega) (by omega) rfl) ?_
    | refine wG_n rfl rfl ?_
    | refine wG_u rfl rfl ?_
    | refine wG_new (o_mks rfl rfl (by omega) (by decide)) ?_))
  refine wC_cond_d rfl (fun h => ?_) (fun h => ?_)
  · repeat (first
    | refine wC_a rfl ?_
    | refine q_s rfl ?_
    | refine q_b rfl ?_
    | refine wG_nil ?_
    | refine wG_g rfl ?_
    | refine wG_pure (o_len_vwm rfl) ?_
    | refine wG_pure (o_not_d rfl) ?_
    | refine wG_p rfl (by first | exact rfl | omega) ?_
    | refine wG_pure (o_str2 rfl rfl rfl) ?_
    | refine wG_pure (e_istr rfl rfl (by omega)) ?_
    | refine wG_pure (e_istr0 rfl rfl (by omega)) ?_
    | refine wG_pure (o_not rfl) ?_
    | refine wG_pure (e_ia_vw0 rfl rfl (by omega) rfl) ?_
    | refine wG_pure (e_ia_vwp rfl rfl (by omega) rfl) ?_
    | refine wG_pure (e_ia_vwm rfl rfl (by omega) (by omega) rfl) ?_
    | refine wG_pure (e_ia_vwi rfl rfl (by omega) rfl) ?_
    | refine wG_pure (e_ia_vwn rfl rfl (by omega) (by omega) rfl) ?_
    | refine wG_n rfl rfl ?_
    | refine wG_u rfl rfl ?_
    | refine wG_new (o_mks rfl rfl (by omega) (by decide)) ?_)
    exact ret_boolE (.inr rfl) ⟨_, retV_mv rfl, rfl⟩
  obtain ⟨s1, s2, s3⟩ := szR_ok (Int.not_lt.1 h)
  have c2 := con8 nn es h3 (szR 1048576 r) (Int.not_lt.1 h) s3
  by_cases hs : szR 1048576 r - (es.length : Int) < 0
  · rw [if_pos hs] at c2
    repeat (first | refine wG_call c2 rfl rfl ?_ | (first
    | refine wC_a rfl ?_
    | refine q_s rfl ?_
    | refine q_b rfl ?_
    | refine wG_nil ?_
    | refine wG_g rfl ?_
    | refine wG_pure (o_len_vwm rfl) ?_
    | refine wG_pure (o_not_d rfl) ?_
    | refine wG_p rfl (by first | exact rfl | omega) ?_
    | refine wG_pure (o_str2 rfl rfl rfl) ?_
    | refine wG_pure (e_istr rfl rfl (by omega)) ?_
    | refine wG_pure (e_istr0 rfl rfl (by omega)) ?_
    | refine wG_pure (o_not rfl) ?_
    | refine wG_pure (e_ia_vw0 rfl rfl (by omega) rfl) ?_
    | refine wG_pure (e_ia_vwp rfl rfl (by omega) rfl) ?_
    | refine wG_pure (e_ia_vwm rfl rfl (by omega) (by omega) rfl) ?_
    | refine wG_pure (e_ia_vwi rfl rfl (by omega) rfl) ?_
    | refine wG_pure (e_ia_vwn rfl rfl (by omega) (by omega) rfl) ?_
    | refine wG_n rfl rfl ?_
    | refine wG_u rfl rfl ?_
    | refine wG_new (o_mks rfl rfl (by omega) (by decide)) ?_))
    exact ret_boolE (.inr rfl) ⟨_, retV_mv rfl, rfl⟩
  · rw [if_neg hs] at c2
    have h1' : r.cs.length ≤ 1048576 := by omega
    have h2' : r.xs.length ≤ 1048576 := by omega
    have h3' : es.length ≤ 1048576 := by omega
    have cT := con10 a b r h1' h2'
    have cD := con11 nn es h3'
    have cS := con27 true true true r es h1' h2' h3'
    have cI := con28 true true true r es h1' h2' h3'
    have cE := con14 true true true true r h1' h2'
    have cF := con15 true true es h3'
    unfold fcV at cS cI
    repeat' (first | refine wC_dregE ?_ | refine wG_call c2 rfl rfl ?_ | refine wG_call2 cT rfl rfl ?_ | refine wE_call2 cT rfl rfl rfl ?_ | refine wG_call1 cD rfl rfl ?_ | refine wG_call cS (ag_rec rfl rfl rfl (ag_sl rfl rfl rfl tRow_plain ag_nil)) rfl ?_ | refine wG_call cI (ag_rec rfl rfl rfl (ag_sl rfl rfl rfl tRow_plain ag_nil)) rfl ?_ | refine wG_call cE (ag_rec rfl rfl rfl (ag_rec rfl rfl rfl ag_nil)) rfl ?_ | refine wE_call cE (ag_rec rfl rfl rfl (ag_rec rfl rfl rfl ag_nil)) rfl rfl ?_ | refine wG_call cF (ag_sl rfl rfl rfl tRow_plain (ag_sl rfl rfl rfl tRow_plain ag_nil)) rfl ?_ | (first
    | refine wC_a rfl ?_
    | refine q_s rfl ?_
    | refine q_b rfl ?_
    | refine wG_nil ?_
    | refine wG_g rfl ?_
    | refine wG_pure (o_len_vwm rfl) ?_
    | refine wG_pure (o_not_d rfl) ?_
    | refine wG_p rfl (by first | exact rfl | omega) ?_
    | refine wG_pure (o_str2 rfl rfl rfl) ?_
    | refine wG_pure (e_istr rfl rfl (by omega)) ?_
    | refine wG_pure (e_istr0 rfl rfl (by omega)) ?_
    | refine wG_pure (o_not rfl) ?_
    | refine wG_pure (e_ia_vw0 rfl rfl (by omega) rfl) ?_
    | refine wG_pure (e_ia_vwp rfl rfl (by omega) rfl) ?_
    | refine wG_pure (e_ia_vwm rfl rfl (by omega) (by omega) rfl) ?_
    | refine wG_pure (e_ia_vwi rfl rfl (by omega) rfl) ?_
    | refine wG_pure (e_ia_vwn rfl rfl (by omega) (by omega) rfl) ?_
    | refine wG_n rfl rfl ?_
    | refine wG_u rfl rfl ?_
    | refine wG_new (o_mks rfl rfl (by omega) (by decide)) ?_) | (first
    | refine wE_nil (by kernel_rfl) ?_
    | refine wE_gy rfl ?_
    | refine wE_gn rfl rfl rfl ?_
    | refine wE_gu rfl rfl ?_
    | refine wE_gnn rfl rfl rfl ?_
    | refine wE_v (o_len_vwm rfl) rfl ?_
    | refine wE_v (o_not_d rfl) rfl ?_
    | refine wE_p rfl (by first | exact rfl | omega) rfl ?_
    | refine wE_v (o_str2 rfl rfl rfl) rfl ?_
    | refine wE_v (e_istr rfl rfl (by omega)) rfl ?_
    | refine wE_v (e_istr0 rfl rfl (by omega)) rfl ?_
    | refine wE_v (o_not rfl) rfl ?_
    | refine wE_v (e_ia_vw0 rfl rfl (by omega) rfl) rfl ?_
    | refine wE_v (e_ia_vwp rfl rfl (by omega) rfl) rfl ?_
    | refine wE_v (e_ia_vwm rfl rfl (by omega) (by omega) rfl) rfl ?_
    | refine wE_v (e_ia_vwi rfl rfl (by omega) rfl) rfl ?_
    | refine wE_v (e_ia_vwn rfl rfl (by omega) (by omega) rfl) rfl ?_
    | refine wE_n rfl rfl rfl ?_
    | refine wE_u rfl rfl rfl ?_
    | refine wE_new (o_mks rfl rfl (by omega) (by decide)) rfl ?_) | (refine wG_gd rfl (fun hgt => ?_) (fun hgf => ?_) <;> (first | simp only [eq_true hgt, decide_true] | simp only [eq_false hgf, decide_false])) | refine wC_cond_d rfl (fun hg => ?_) (fun hg => ?_))
    all_goals (first | contradiction | exact ret_boolE (.inr rfl) ⟨_, retV_mv rfl, rfl⟩ | (exfalso; omega) | trace_state)
end Go.Proofs.Ytencmeleapmjnaa.Rec
