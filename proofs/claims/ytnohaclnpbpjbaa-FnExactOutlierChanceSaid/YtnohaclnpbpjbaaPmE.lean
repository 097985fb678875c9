/- Lists of lists: how they grow; the specification's lists of boundaries and of weights. -/
import Derived.Test.YtnohaclnpbpjbaaPmU
namespace Go.Proofs.Ytnohaclnpbpjbaa.Dst
open Go Go.Proofs.Ytnohaclnpbpjbaa.Ab Go.Proofs.Ytnohaclnpbpjbaa.Il
attribute [local irreducible] wpO wpC wpDr wpQ wpG wpE stepA seqQ blkQ Ret RetG ev
set_option maxRecDepth 10000
set_option maxHeartbeats 8000000
set_option linter.unusedSimpArgs false
set_option linter.unusedVariables false

def ac63 : AC := (.seq (.reg [⟨(some 1), none, (.box 4 true (.t 0))⟩, ⟨(some 2), none, (.mv (.c .nilS))⟩]) (.seq (.reg [⟨(some 5), none, (.bsl 1 [.nilS] 0 [])⟩, ⟨(some 3), none, (.mv (.t 5))⟩]) (.seq (.seq (.reg [⟨(some 4), none, (.mv (.c (.int .i64 0)))⟩]) (.blk 0 (.loop (.seq (.seq (.reg [⟨(some 6), none, (.mv (.t 4))⟩, ⟨(some 7), none, (.fa 3 (.t 1))⟩, ⟨(some 8), none, (.ld false 1 (.t 7))⟩, ⟨(some 9), none, (.len (.t 8))⟩, ⟨(some 10), none, (.bin .lss (.t 6) (.t 9))⟩]) (.cond (.t 10) .skip (.exit 0))) (.seq (.blk 1 (.reg [⟨(some 13), none, (.mv (.t 3))⟩, ⟨(some 14), none, (.ld true 4 (.t 1))⟩, ⟨(some 15), none, (.mv (.t 4))⟩, ⟨(some 16), none, (.call 67 [(.t 14), (.t 15), (.c (.bool false))])⟩, ⟨(some 17), none, (.bsl 1 [.nilS] 1 [(0, (.t 16))])⟩, ⟨(some 18), none, (.app 1 24 [.nilS] (.t 13) (.t 17))⟩, ⟨(some 3), none, (.mv (.t 18))⟩])) (.reg [⟨(some 11), none, (.mv (.t 4))⟩, ⟨(some 12), none, (.bin .add (.t 11) (.c (.int .i64 1)))⟩, ⟨(some 4), none, (.mv (.t 12))⟩])))))) (.seq (.reg [⟨(some 19), none, (.mv (.t 3))⟩, ⟨(some 2), none, (.mv (.t 19))⟩]) .ret))))
def ro63 : List AOp := [(.mv (.t 2))]
theorem fun63 : Fun Try.prog 63 20 ac63 ro63 := ⟨Try.f63, _, Try.func63, by kernel_rfl, rfl, rfl, by kernel_rfl, by kernel_rfl, by decide⟩
def ac67 : AC := (.seq (.reg [⟨(some 3), none, (.box 4 true (.t 0))⟩, ⟨(some 6), none, (.mv (.c .nilS))⟩]) (.seq (.reg [⟨(some 12), none, (.fa 3 (.t 3))⟩, ⟨(some 13), none, (.ld false 1 (.t 12))⟩, ⟨(some 14), none, (.mv (.t 1))⟩, ⟨(some 15), none, (.ia 4 (.t 13) (.t 14))⟩, ⟨(some 16), none, (.ld true 4 (.t 15))⟩, ⟨(some 7), none, (.alloc [(.int .i64 0), (.int .i64 0), .nilS, (.int .i64 0)])⟩, ⟨none, none, (.st 4 (.t 7) (.t 16))⟩]) (.seq (.reg [⟨(some 17), none, (.fa 1 (.t 7))⟩, ⟨(some 18), none, (.fa 1 (.t 17))⟩, ⟨(some 19), none, (.ld false 1 (.t 18))⟩, ⟨(some 20), none, (.call 49 [(.t 19)])⟩, ⟨(some 8), none, (.mv (.t 20))⟩]) (.seq (.reg [⟨(some 21), none, (.bsl 1 [(.int .i64 0)] 0 [])⟩, ⟨(some 9), none, (.mv (.t 21))⟩]) (.seq (.seq (.reg [⟨(some 10), none, (.mv (.c (.int .i64 0)))⟩]) (.blk 0 (.loop (.seq (.seq (.reg [⟨(some 22), none, (.mv (.t 10))⟩, ⟨(some 23), none, (.fa 1 (.t 3))⟩, ⟨(some 24), none, (.ld false 1 (.t 23))⟩, ⟨(some 25), none, (.bin .lss (.t 22) (.t 24))⟩]) (.cond (.t 25) .skip (.exit 0))) (.seq (.blk 1 (.seq (.reg [⟨(some 28), none, (.fa 3 (.t 7))⟩, ⟨(some 29), none, (.ld false 1 (.t 28))⟩, ⟨(some 30), none, (.mv (.t 8))⟩, ⟨(some 31), none, (.bin .mul (.t 29) (.t 30))⟩, ⟨(some 11), none, (.mv (.t 31))⟩]) (.seq (.seq (.reg [⟨(some 32), none, (.mv (.t 2))⟩, ⟨(some 33), none, (.un .not (.t 32))⟩]) (.cond (.t 33) (.dreg [⟨(some 34), none, (.mv (.t 11))⟩, ⟨(some 35), none, (.fa 3 (.t 7))⟩, ⟨(some 36), none, (.ld false 1 (.t 35))⟩, ⟨(some 37), none, (.bin .sub (.c (.int .i64 100)) (.t 36))⟩, ⟨(some 38), none, (.fa 1 (.t 3))⟩, ⟨(some 39), none, (.ld false 1 (.t 38))⟩, ⟨(some 40), none, (.bin .mul (.t 37) (.t 39))⟩, ⟨(some 41), none, (.fa 1 (.t 7))⟩, ⟨(some 42), none, (.ld true 2 (.t 41))⟩, ⟨(some 43), none, (.fa 0 (.t 3))⟩, ⟨(some 44), none, (.ld false 1 (.t 43))⟩, ⟨(some 45), none, (.mv (.t 10))⟩, ⟨(some 46), none, (.bin .add (.t 44) (.t 45))⟩, ⟨(some 47), none, (.call 96 [(.t 42), (.t 46)])⟩, ⟨(some 48), none, (.bin .mul (.t 40) (.t 47))⟩, ⟨(some 49), none, (.bin .add (.t 34) (.t 48))⟩, ⟨(some 11), none, (.mv (.t 49))⟩] [[], [], [1], [1, 2], [], [4], [1, 2, 3, 4, 5], [], [7], [], [9], [], [9, 10, 11], [7, 8, 9, 10, 11, 12], [1, 2, 3, 4, 5, 6, 7, 8, 9, 10, 11, 12, 13], [0, 1, 2, 3, 4, 5, 6, 7, 8, 9, 10, 11, 12, 13, 14], [0, 1, 2, 3, 4, 5, 6, 7, 8, 9, 10, 11, 12, 13, 14, 15]]) .skip)) (.reg [⟨(some 50), none, (.mv (.t 9))⟩, ⟨(some 51), none, (.mv (.t 11))⟩, ⟨(some 52), none, (.bsl 1 [(.int .i64 0)] 1 [(0, (.t 51))])⟩, ⟨(some 53), none, (.app 1 8 [(.int .i64 0)] (.t 50) (.t 52))⟩, ⟨(some 9), none, (.mv (.t 53))⟩])))) (.reg [⟨(some 26), none, (.mv (.t 10))⟩, ⟨(some 27), none, (.bin .add (.t 26) (.c (.int .i64 1)))⟩, ⟨(some 10), none, (.mv (.t 27))⟩])))))) (.seq (.reg [⟨(some 54), none, (.mv (.t 9))⟩, ⟨(some 6), none, (.mv (.t 54))⟩]) .ret))))))
def ro67 : List AOp := [(.mv (.t 6))]
theorem fun67 : Fun Try.prog 67 55 ac67 ro67 := ⟨Try.f67, _, Try.func67, by kernel_rfl, rfl, rfl, by kernel_rfl, by kernel_rfl, by decide⟩

def hI : Hol (List Int) where
  g := fun x v => [v]
  w := fun x => x
  sh := fun n x v => rfl
  rn := fun π x v => rfl
  dr := fun H m x v => rfl
  mem := fun x v y hy => by
    simp only [List.mem_cons, List.not_mem_nil, or_false] at hy
    exact .inr hy
def zI : List Int → List AV := fun _ => [.nilS]
def nI (x : List Int) : List AV := [.vw true (x.map iRow)]
theorem zI_ltr (m : Nat) (xs : List (List Int)) : ∀ x ∈ xs, ∀ y ∈ zI x, AV.ltr m y = true := fun x _ y hy => by
  simp only [zI, List.mem_cons, List.not_mem_nil, or_false] at hy
  subst hy; rfl
theorem nI_rn {π : Nat → Nat} {b b' : Nat} {L : List (List Int)} (h : ∀ j, j < L.length → π (b + j) = b' + j) : (nR hI b L L.length zI).map (fun row => rnL π row) = nR hI b' L L.length zI := by
  unfold nR
  rw [List.map_map]
  refine List.map_congr_left fun j hj => ?_
  have hj2 := List.mem_range.1 hj
  simp only [Function.comp, if_pos hj2, hI.rn, Ab.rn, h j hj2]
theorem nI_app {b : Nat} {L : List (List Int)} {x : List Int} : nR hI b (L ++ [x]) (L ++ [x]).length zI = nR hI b L L.length zI ++ [[.sl (b + L.length) 1 0 x.length]] := by
  refine List.ext_getElem? fun j => ?_
  rcases Nat.lt_trichotomy j L.length with h | h | h
  · rw [nR_get_n (by simp; omega), List.getElem?_append_left (by rw [nR_len]; exact h), nR_get_n h]
    have e : (L ++ [x]).getD j default = L.getD j default := by simp [List.getD_eq_getElem?_getD, List.getElem?_append_left h]
    rw [e]
  · subst h
    rw [nR_get_n (by simp), List.getElem?_append_right (by rw [nR_len]; exact Nat.le_refl _), nR_len, Nat.sub_self]
    have e : (L ++ [x]).getD L.length default = x := by simp [List.getD_eq_getElem?_getD]
    rw [e]; rfl
  · rw [List.getElem?_eq_none (by rw [nR_len]; simp; omega), List.getElem?_eq_none (by simp [nR_len]; omega)]
def teL (L : List (List Int)) : List Ab.Rows := nR hI 1 L L.length zI :: nO hI L L.length
theorem teL_len (L : List (List Int)) : (teL L).length = L.length + 1 := by rw [teL, List.length_cons, nO_len (Nat.le_refl _)]
theorem teL_lt {i : Nat} {L : List (List Int)} {rows : Ab.Rows} (hi : (teL L)[i]? = some rows) : i < L.length + 1 := by
  have := (List.getElem?_eq_some_iff.1 hi).1
  rwa [teL_len] at this
/-- A list of lists in own memory: the outer one q, the inner ones b, b + 1 .. -/
def hQ (q b : Nat) (L : List (List Int)) (h' : List (Nat × Option Ab.Rows)) : List (Nat × Option Ab.Rows) := (q, some (nR hI b L L.length zI)) :: (mkh b (nO hI L L.length) ++ h')
section
variable {q b : Nat} {L : List (List Int)} {h' : List (Nat × Option Ab.Rows)}
theorem hQ_q : hg (hQ q b L h') q = some (nR hI b L L.length zI) := hg_here
theorem hQ_in {i : Nat} (hi : i < L.length) (hq : b + i ≠ q) : hg (hQ q b L h') (b + i) = some ((L.getD i default).map iRow) :=
  hg_skip hq (hg_in (by omega) (by rw [Nat.add_sub_cancel_left]; exact nO_get (K := hI) hi (Nat.le_refl _)))
theorem hQ_cs {r : Nat} {rows : Ab.Rows} (h : hg (hQ q b L h') r = some rows) : (r = q ∧ rows = nR hI b L L.length zI) ∨ (r ≠ q ∧ ∃ i, i < L.length ∧ r = b + i ∧ rows = (L.getD i default).map iRow) ∨ (r ≠ q ∧ (r < b ∨ b + L.length ≤ r) ∧ hg h' r = some rows) := by
  by_cases e : r = q
  · subst e
    rw [hQ_q] at h
    exact .inl ⟨rfl, (Option.some.inj h).symm⟩
  · have h2 : hg (mkh b (nO hI L L.length) ++ h') r = some rows := by simpa [hQ, Ab.hg, upd, e] using h
    rw [hg_app, nO_len (Nat.le_refl _)] at h2
    split at h2
    · rename_i hc
      refine .inr (.inl ⟨e, r - b, by omega, by omega, ?_⟩)
      rw [nO_get (by omega) (Nat.le_refl _)] at h2
      exact (Option.some.inj h2).symm
    · exact .inr (.inr ⟨e, by omega, h2⟩)
theorem hQ_out {r : Nat} {rows : Ab.Rows} (h1 : r ≠ q) (h2 : r < b ∨ b + L.length ≤ r) (h : hg h' r = some rows) : hg (hQ q b L h') r = some rows :=
  hg_skip h1 (hg_out (fun hc => by have h3 := hc.1; have h4 := hc.2; rw [nO_len (Nat.le_refl _)] at h4; omega) h)
theorem hQ_wf {nr : Nat} (hq : q < nr) (hb : b + L.length ≤ nr) (hw : wfH h' nr) : wfH (hQ q b L h') nr := by
  intro r rows hr
  rcases hQ_cs hr with ⟨rfl, rfl⟩ | ⟨_, i, hi, rfl, rfl⟩ | ⟨_, _, h3⟩
  · exact ⟨hq, nR_ltr hb (zI_ltr _ _)⟩
  · exact ⟨by omega, ltrI _ _⟩
  · exact hw r rows h3
theorem hQ_row {i : Nat} (h : i < L.length) : (nR hI b L L.length zI)[i]? = some [.sl (b + i) 1 0 (L.getD i default).length] := nR_get_n (K := hI) h
end
theorem dr_L {H : Nat → Option Ab.Rows} {q : Nat} (L : List (List Int)) (hH : ∀ i rows, (teL L)[i]? = some rows → H (q + i) = some (shR q rows)) : Ab.dr H 6 (.sl q 1 0 L.length) = .vw true (L.map nI) := by
  have e3 := nR_dr (K := hI) (b := q + 1) (xs := L) (z := zI) (H := H) (q := q) (sz := 1) (m := 2) (by rw [← nR_sh]; exact hH 0 _ rfl) (fun i hi => by
    have h6 : (teL L)[i + 1]? = some ((hI.w (L.getD i default)).map iRow) := nO_get (K := hI) (k := L.length) hi (Nat.le_refl _)
    have := hH _ _ h6
    rw [shR_plain (rowsP _)] at this
    rwa [show q + 1 + i = q + (i + 1) by omega])
  exact e3
/-- The return of a whole list of lists. -/
theorem retG_L {ro : AOp} {L : List (List Int)} {t : List (Nat × AV)} {h' : List (Nat × Option Ab.Rows)} {nr : Nat} {e : EX} (he : e = .n ∨ e = .r) (hv : retV ⟨t, hQ 1 2 L h', nr⟩ ro = some (.sl 1 1 0 L.length)) : RetG [ro] ((List.range (L.length + 1)).map (· + 1)) (.sl 0 1 0 L.length) (teL L) e ⟨t, hQ 1 2 L h', nr⟩ := by
  have hπ : ∀ i, i < L.length + 1 → πof ((List.range (L.length + 1)).map (· + 1)) i = i + 1 := fun i hi => by simp [πof, hi]
  refine retG_gen he (retVs_1 hv) ?_ trivial (by rw [teL_len]; simp [AV.ltr]) (by rw [teL_len]; simp) ?_ (fun i rows hi => ?_)
  · show [AV.sl 1 1 0 _] = [AV.sl (πof ((List.range (L.length + 1)).map (· + 1)) 0) 1 0 _]
    rw [hπ 0 (by omega)]
  · unfold List.Nodup
    rw [List.pairwise_map]
    exact List.nodup_range.imp (fun h e => h (by omega))
  · have hi2 := teL_lt hi
    rw [hπ i hi2]
    match i, hi with
    | 0, hi =>
      cases hi
      refine hQ_q.trans (congrArg some ?_)
      exact (nI_rn (fun j hj => by rw [hπ _ (by omega)]; omega)).symm
    | i + 1, hi =>
      have h6 : (nO hI L L.length)[i]? = some rows := hi
      rw [nO_get (by omega) (Nat.le_refl _)] at h6
      cases h6
      have := hQ_in (q := 1) (b := 2) (L := L) (h' := h') (i := i) (by omega) (by omega)
      rw [← rn_rows (rowsP _), show i + 1 + 1 = 2 + i by omega]
      exact this

theorem hg_one {r q : Nat} {x rows : Ab.Rows} (h : hg [(r, some x)] q = some rows) : q = r ∧ rows = x := by
  by_cases e : q = r
  · subst e
    exact ⟨rfl, (Option.some.inj ((hg_here (h := [])).symm.trans h)).symm⟩
  · simp [Ab.hg, upd, e] at h
theorem mulB {x y X Y : Int} (hx : 0 ≤ x ∧ x ≤ X) (hy : 0 ≤ y ∧ y ≤ Y) : 0 ≤ x * y ∧ x * y ≤ X * Y :=
  ⟨Int.mul_nonneg hx.1 hy.1, Int.mul_le_mul hx.2 hy.2 hy.1 (by omega)⟩
theorem mdR_ltr1' {c : Bool} {m : Md} {xs : List Ev} (n : Nat) : ∀ row ∈ [mdR c m xs], ∀ x ∈ row, AV.ltr n x = true := fun row hr x hx => by
  simp at hr; subst hr
  simp [mdR] at hx
  rcases hx with rfl | rfl | rfl | rfl <;> rfl
theorem nE_ltr1 {x : Ev} (n : Nat) : ∀ row ∈ [nE x], ∀ y ∈ row, AV.ltr n y = true := fun row hr y hy => by
  simp at hr; subst hr
  simp [nE] at hy
  rcases hy with rfl | rfl | rfl | rfl <;> rfl
theorem con67 (c : Bool) (m : Md) (xs : List Ev) (hG : GoodM m xs) {i : Nat} (hi : i < xs.length) (q : Bool) : Con Try.prog 67 true [.agg (mdR c m xs), .int .i64 (i : Int), .bool q] (.sl 0 1 0 m.y.toNat) [(lG m.y.toNat (ew m (xs.getD i default) q)).map iRow] := by
  refine con_of_wp mixed fun67 (by simp) [2] (plain_map iRow_plain _) ?_
  unfold ac67 ro67
  simp only [zipT]
  have hy := hG.1
  have hf := hG.2.1
  have hn4 := hG.2.2.2.1
  obtain ⟨g1, g2, g3, _⟩ := hG.2.2.2.2 i hi
  have h60 := g2.1
  have hT := g2.total_b
  have m1 := mulB (X := 100) g3 hT
  have m2 := mulB (x := 100 - (xs.getD i default).o) (X := 100) (y := m.y) (Y := 20) ⟨by omega, by omega⟩ ⟨by omega, by omega⟩
  have e4 := con49 (xs.getD i default).b (xs.getD i default).d.ws (by omega) g2.bnd (by decide) (by omega)
  rw [show sm (xs.getD i default).d.ws (xs.getD i default).d.ws.length = total (xs.getD i default).d from rfl] at e4
  repeat (first | refine wG_call e4 rfl rfl ?_ | (first
    | refine wC_a rfl ?_
    | refine q_s rfl ?_
    | refine q_b rfl ?_
    | refine wG_nil ?_
    | refine wG_g rfl ?_
    | refine wG_pure (o_len_vwm rfl) ?_
    | refine wG_pure (o_not_d rfl) ?_
    | refine wG_p rfl (by first | exact rfl | omega) ?_
    | refine wG_pure (o_str2 rfl rfl rfl) ?_
    | refine wG_pure (e_istr rfl rfl (by omega)) ?_
    | refine wG_pure (e_istr0 rfl rfl (by omega)) ?_
    | refine wG_pure (o_not rfl) ?_
    | refine wG_pure (e_ia_vw0 rfl rfl (by omega) rfl) ?_
    | refine wG_pure (e_ia_vwp rfl rfl (by omega) rfl) ?_
    | refine wG_pure (e_ia_vwm rfl rfl (by omega) (by omega) rfl) ?_
    | refine wG_pure (e_ia_vwi rfl rfl (by omega) rfl) ?_
    | refine wG_pure (e_ia_vwn rfl rfl (by omega) (by omega) rfl) ?_
    | refine wG_n rfl rfl ?_
    | refine wG_u rfl rfl ?_
    | refine wG_new (o_mks rfl rfl (by omega) (by decide)) ?_))
  refine wC_loopR Nat (fun y => ⟨[(2, .bool q), (3, .pt 0 0 0), (7, .pt 1 0 0), (8, .int .i64 (total (xs.getD i default).d)), (9, .sl 2 1 0 y), (10, .int .i64 (y : Int))], [(2, some ((lG y (ew m (xs.getD i default) q)).map iRow)), (1, some [nE (xs.getD i default)]), (0, some [mdR c m xs])], 3⟩) (fun y => y ≤ m.y.toNat) (fun y => m.y.toNat - y) 0 (Nat.zero_le _) ⟨[0, 1, 2], ?_⟩ ?_
  · exact ⟨⟨⟨rfl, rfl⟩, ⟨rfl, rfl⟩, ⟨rfl, rfl⟩, ⟨rfl, rfl⟩, ⟨rfl, rfl⟩, ⟨rfl, rfl⟩, trivial⟩, ⟨⟨⟨_, rfl, rfl⟩, (by show 2 < 3; decide), ltrI _ _⟩, ⟨⟨_, rfl, rfl⟩, (by show 1 < 3; decide), nE_ltr1 _⟩, ⟨⟨_, rfl, rfl⟩, (by show 0 < 3; decide), mdR_ltr1' _⟩, trivial⟩, rfl, by decide⟩
  intro y hy2
  have hll := lG_len y (ew m (xs.getD i default) q)
  have hat := g2.at_b (m.f + y)
  have m3 := mulB (X := 2000) m2 hat
  have e5 := con96 (xs.getD i default).b (xs.getD i default).d g2 (m.f + y)
  have hup : lG (y + 1) (ew m (xs.getD i default) q) = lG y (ew m (xs.getD i default) q) ++ [ew m (xs.getD i default) q y] := by simp [lG, List.range_succ]
  repeat (first
    | refine wC_a rfl ?_
    | refine q_s rfl ?_
    | refine q_b rfl ?_
    | refine wG_nil ?_
    | refine wG_g rfl ?_
    | refine wG_pure (o_len_vwm rfl) ?_
    | refine wG_pure (o_not_d rfl) ?_
    | refine wG_p rfl (by first | exact rfl | omega) ?_
    | refine wG_pure (o_str2 rfl rfl rfl) ?_
    | refine wG_pure (e_istr rfl rfl (by omega)) ?_
    | refine wG_pure (e_istr0 rfl rfl (by omega)) ?_
    | refine wG_pure (o_not rfl) ?_
    | refine wG_pure (e_ia_vw0 rfl rfl (by omega) rfl) ?_
    | refine wG_pure (e_ia_vwp rfl rfl (by omega) rfl) ?_
    | refine wG_pure (e_ia_vwm rfl rfl (by omega) (by omega) rfl) ?_
    | refine wG_pure (e_ia_vwi rfl rfl (by omega) rfl) ?_
    | refine wG_pure (e_ia_vwn rfl rfl (by omega) (by omega) rfl) ?_
    | refine wG_n rfl rfl ?_
    | refine wG_u rfl rfl ?_
    | refine wG_new (o_mks rfl rfl (by omega) (by decide)) ?_)
  refine wC_cond_d rfl (fun h5 => ?_) (fun h5 => ?_)
  · cases q
    · repeat (first | refine wC_dregE ?_ | refine wE_call e5 rfl rfl rfl ?_ | refine wG_app rfl rfl (by rw [List.length_map, hll]) (rows_sl rfl rfl rfl) (by simp) (by simp; omega) (by decide) ?_ | (first
    | refine wC_a rfl ?_
    | refine q_s rfl ?_
    | refine q_b rfl ?_
    | refine wG_nil ?_
    | refine wG_g rfl ?_
    | refine wG_pure (o_len_vwm rfl) ?_
    | refine wG_pure (o_not_d rfl) ?_
    | refine wG_p rfl (by first | exact rfl | omega) ?_
    | refine wG_pure (o_str2 rfl rfl rfl) ?_
    | refine wG_pure (e_istr rfl rfl (by omega)) ?_
    | refine wG_pure (e_istr0 rfl rfl (by omega)) ?_
    | refine wG_pure (o_not rfl) ?_
    | refine wG_pure (e_ia_vw0 rfl rfl (by omega) rfl) ?_
    | refine wG_pure (e_ia_vwp rfl rfl (by omega) rfl) ?_
    | refine wG_pure (e_ia_vwm rfl rfl (by omega) (by omega) rfl) ?_
    | refine wG_pure (e_ia_vwi rfl rfl (by omega) rfl) ?_
    | refine wG_pure (e_ia_vwn rfl rfl (by omega) (by omega) rfl) ?_
    | refine wG_n rfl rfl ?_
    | refine wG_u rfl rfl ?_
    | refine wG_new (o_mks rfl rfl (by omega) (by decide)) ?_) | (first
    | refine wE_nil (by kernel_rfl) ?_
    | refine wE_gy rfl ?_
    | refine wE_gn rfl rfl rfl ?_
    | refine wE_gu rfl rfl ?_
    | refine wE_gnn rfl rfl rfl ?_
    | refine wE_v (o_len_vwm rfl) rfl ?_
    | refine wE_v (o_not_d rfl) rfl ?_
    | refine wE_p rfl (by first | exact rfl | omega) rfl ?_
    | refine wE_v (o_str2 rfl rfl rfl) rfl ?_
    | refine wE_v (e_istr rfl rfl (by omega)) rfl ?_
    | refine wE_v (e_istr0 rfl rfl (by omega)) rfl ?_
    | refine wE_v (o_not rfl) rfl ?_
    | refine wE_v (e_ia_vw0 rfl rfl (by omega) rfl) rfl ?_
    | refine wE_v (e_ia_vwp rfl rfl (by omega) rfl) rfl ?_
    | refine wE_v (e_ia_vwm rfl rfl (by omega) (by omega) rfl) rfl ?_
    | refine wE_v (e_ia_vwi rfl rfl (by omega) rfl) rfl ?_
    | refine wE_v (e_ia_vwn rfl rfl (by omega) (by omega) rfl) rfl ?_
    | refine wE_n rfl rfl rfl ?_
    | refine wE_u rfl rfl rfl ?_
    | refine wE_new (o_mks rfl rfl (by omega) (by decide)) rfl ?_))
      refine ⟨y + 1, by omega, by omega, [0, 1, 4], ?_⟩
      rw [hup]
      refine ⟨⟨⟨rfl, rfl⟩, ⟨rfl, rfl⟩, ⟨rfl, rfl⟩, ⟨rfl, rfl⟩, ⟨?_, rfl⟩, ⟨rfl, rfl⟩, trivial⟩, ⟨⟨⟨_, rfl, ?_⟩, (by show 2 < 3; decide), ltrI _ _⟩, ⟨⟨_, rfl, rfl⟩, (by show 1 < 3; decide), nE_ltr1 _⟩, ⟨⟨_, rfl, rfl⟩, (by show 0 < 3; decide), mdR_ltr1' _⟩, trivial⟩, rfl, by decide⟩
      · rfl
      · rw [← rn_rows (rowsP _), List.map_append]; rfl
    · repeat (first | refine wC_dregE ?_ | refine wG_app rfl rfl (by rw [List.length_map, hll]) (rows_sl rfl rfl rfl) (by simp) (by simp; omega) (by decide) ?_ | (first
    | refine wC_a rfl ?_
    | refine q_s rfl ?_
    | refine q_b rfl ?_
    | refine wG_nil ?_
    | refine wG_g rfl ?_
    | refine wG_pure (o_len_vwm rfl) ?_
    | refine wG_pure (o_not_d rfl) ?_
    | refine wG_p rfl (by first | exact rfl | omega) ?_
    | refine wG_pure (o_str2 rfl rfl rfl) ?_
    | refine wG_pure (e_istr rfl rfl (by omega)) ?_
    | refine wG_pure (e_istr0 rfl rfl (by omega)) ?_
    | refine wG_pure (o_not rfl) ?_
    | refine wG_pure (e_ia_vw0 rfl rfl (by omega) rfl) ?_
    | refine wG_pure (e_ia_vwp rfl rfl (by omega) rfl) ?_
    | refine wG_pure (e_ia_vwm rfl rfl (by omega) (by omega) rfl) ?_
    | refine wG_pure (e_ia_vwi rfl rfl (by omega) rfl) ?_
    | refine wG_pure (e_ia_vwn rfl rfl (by omega) (by omega) rfl) ?_
    | refine wG_n rfl rfl ?_
    | refine wG_u rfl rfl ?_
    | refine wG_new (o_mks rfl rfl (by omega) (by decide)) ?_) | (first
    | refine wE_nil (by kernel_rfl) ?_
    | refine wE_gy rfl ?_
    | refine wE_gn rfl rfl rfl ?_
    | refine wE_gu rfl rfl ?_
    | refine wE_gnn rfl rfl rfl ?_
    | refine wE_v (o_len_vwm rfl) rfl ?_
    | refine wE_v (o_not_d rfl) rfl ?_
    | refine wE_p rfl (by first | exact rfl | omega) rfl ?_
    | refine wE_v (o_str2 rfl rfl rfl) rfl ?_
    | refine wE_v (e_istr rfl rfl (by omega)) rfl ?_
    | refine wE_v (e_istr0 rfl rfl (by omega)) rfl ?_
    | refine wE_v (o_not rfl) rfl ?_
    | refine wE_v (e_ia_vw0 rfl rfl (by omega) rfl) rfl ?_
    | refine wE_v (e_ia_vwp rfl rfl (by omega) rfl) rfl ?_
    | refine wE_v (e_ia_vwm rfl rfl (by omega) (by omega) rfl) rfl ?_
    | refine wE_v (e_ia_vwi rfl rfl (by omega) rfl) rfl ?_
    | refine wE_v (e_ia_vwn rfl rfl (by omega) (by omega) rfl) rfl ?_
    | refine wE_n rfl rfl rfl ?_
    | refine wE_u rfl rfl rfl ?_
    | refine wE_new (o_mks rfl rfl (by omega) (by decide)) rfl ?_))
      refine ⟨y + 1, by omega, by omega, [0, 1, 4], ?_⟩
      rw [hup]
      refine ⟨⟨⟨rfl, rfl⟩, ⟨rfl, rfl⟩, ⟨rfl, rfl⟩, ⟨rfl, rfl⟩, ⟨?_, rfl⟩, ⟨rfl, rfl⟩, trivial⟩, ⟨⟨⟨_, rfl, ?_⟩, (by show 2 < 3; decide), ltrI _ _⟩, ⟨⟨_, rfl, rfl⟩, (by show 1 < 3; decide), nE_ltr1 _⟩, ⟨⟨_, rfl, rfl⟩, (by show 0 < 3; decide), mdR_ltr1' _⟩, trivial⟩, rfl, by decide⟩
      · rfl
      · rw [← rn_rows (rowsP _), List.map_append]
        simp only [ew, if_true, Int.add_zero]
        rfl
  · have hy3 : y = m.y.toNat := by omega
    subst hy3
    repeat (first
    | refine wC_a rfl ?_
    | refine q_s rfl ?_
    | refine q_b rfl ?_
    | refine wG_nil ?_
    | refine wG_g rfl ?_
    | refine wG_pure (o_len_vwm rfl) ?_
    | refine wG_pure (o_not_d rfl) ?_
    | refine wG_p rfl (by first | exact rfl | omega) ?_
    | refine wG_pure (o_str2 rfl rfl rfl) ?_
    | refine wG_pure (e_istr rfl rfl (by omega)) ?_
    | refine wG_pure (e_istr0 rfl rfl (by omega)) ?_
    | refine wG_pure (o_not rfl) ?_
    | refine wG_pure (e_ia_vw0 rfl rfl (by omega) rfl) ?_
    | refine wG_pure (e_ia_vwp rfl rfl (by omega) rfl) ?_
    | refine wG_pure (e_ia_vwm rfl rfl (by omega) (by omega) rfl) ?_
    | refine wG_pure (e_ia_vwi rfl rfl (by omega) rfl) ?_
    | refine wG_pure (e_ia_vwn rfl rfl (by omega) (by omega) rfl) ?_
    | refine wG_n rfl rfl ?_
    | refine wG_u rfl rfl ?_
    | refine wG_new (o_mks rfl rfl (by omega) (by decide)) ?_)
    exact ret_sl (.inr rfl) (retV_mv rfl) rfl
/-- The weights of the first events. -/
def pL (m : Md) (xs : List Ev) (k : Int) (i : Nat) : List (List Int) := (List.range i).map fun j => lG m.y.toNat (gE m xs k j)
theorem pL_len (m : Md) (xs : List Ev) (k : Int) (i : Nat) : (pL m xs k i).length = i := by simp [pL]
theorem pL_get {m : Md} {xs : List Ev} {k : Int} {i j : Nat} (h : j < i) : (pL m xs k i).getD j default = lG m.y.toNat (gE m xs k j) := by
  simp [pL, List.getD_eq_getElem?_getD, List.getElem?_map, List.getElem?_range h]
theorem pL_up (m : Md) (xs : List Ev) (k : Int) (i : Nat) : pL m xs k (i + 1) = pL m xs k i ++ [lG m.y.toNat (gE m xs k i)] := by simp [pL, List.range_succ]
theorem con63 (c : Bool) (m : Md) (xs : List Ev) (hG : GoodM m xs) : ConG Try.prog 63 true [.agg (mdR c m xs)] (.sl 0 1 0 (pL m xs (-1) xs.length).length) (teL (pL m xs (-1) xs.length)) := by
  refine con_of_wpG mixed fun63 (by simp) ((List.range ((pL m xs (-1) xs.length).length + 1)).map (· + 1)) nest_N ?_
  unfold ac63 ro63
  simp only [zipT]
  have hn4 := hG.2.2.2.1
  repeat (first
    | refine wC_a rfl ?_
    | refine q_s rfl ?_
    | refine q_b rfl ?_
    | refine wG_nil ?_
    | refine wG_g rfl ?_
    | refine wG_pure (o_len_vwm rfl) ?_
    | refine wG_pure (o_not_d rfl) ?_
    | refine wG_p rfl (by first | exact rfl | omega) ?_
    | refine wG_pure (o_str2 rfl rfl rfl) ?_
    | refine wG_pure (e_istr rfl rfl (by omega)) ?_
    | refine wG_pure (e_istr0 rfl rfl (by omega)) ?_
    | refine wG_pure (o_not rfl) ?_
    | refine wG_pure (e_ia_vw0 rfl rfl (by omega) rfl) ?_
    | refine wG_pure (e_ia_vwp rfl rfl (by omega) rfl) ?_
    | refine wG_pure (e_ia_vwm rfl rfl (by omega) (by omega) rfl) ?_
    | refine wG_pure (e_ia_vwi rfl rfl (by omega) rfl) ?_
    | refine wG_pure (e_ia_vwn rfl rfl (by omega) (by omega) rfl) ?_
    | refine wG_n rfl rfl ?_
    | refine wG_u rfl rfl ?_
    | refine wG_new (o_mks rfl rfl (by omega) (by decide)) ?_)
  have hwf : ∀ i, wfH (hQ 1 2 (pL m xs (-1) i) [(0, some [mdR c m xs])]) (2 + i) := fun i => hQ_wf (by omega) (by rw [pL_len]; exact Nat.le_refl _) (wfH_cons (by omega) (mdR_ltr1' _) wfH_nil)
  refine wC_loopX Nat (fun i => ⟨[(1, .pt 0 0 0), (3, .sl 1 1 0 i), (4, .int .i64 (i : Int))], hQ 1 2 (pL m xs (-1) i) [(0, some [mdR c m xs])], 2 + i⟩) (fun i => i ≤ xs.length) (fun i => xs.length - i) 0 (Nat.zero_le _) ?_ ?_
  · exact .inl (Le_of ⟨⟨rfl, rfl⟩, ⟨rfl, rfl⟩, ⟨rfl, rfl⟩, trivial⟩ (fun q rows hq => hq) (hwf 0))
  intro i hi
  have h0 : hg (hQ 1 2 (pL m xs (-1) i) [(0, some [mdR c m xs])]) 0 = some [mdR c m xs] := hQ_out (by omega) (by omega) hg_here
  have h1 : hg (hQ 1 2 (pL m xs (-1) i) [(0, some [mdR c m xs])]) 1 = some (nR hI 2 (pL m xs (-1) i) (pL m xs (-1) i).length zI) := hQ_q
  have hl := pL_len m xs (-1) i
  repeat (first | refine wG_pure (o_ldf_pt rfl h0 rfl rfl) ?_ | (first
    | refine wC_a rfl ?_
    | refine q_s rfl ?_
    | refine q_b rfl ?_
    | refine wG_nil ?_
    | refine wG_g rfl ?_
    | refine wG_pure (o_len_vwm rfl) ?_
    | refine wG_pure (o_not_d rfl) ?_
    | refine wG_p rfl (by first | exact rfl | omega) ?_
    | refine wG_pure (o_str2 rfl rfl rfl) ?_
    | refine wG_pure (e_istr rfl rfl (by omega)) ?_
    | refine wG_pure (e_istr0 rfl rfl (by omega)) ?_
    | refine wG_pure (o_not rfl) ?_
    | refine wG_pure (e_ia_vw0 rfl rfl (by omega) rfl) ?_
    | refine wG_pure (e_ia_vwp rfl rfl (by omega) rfl) ?_
    | refine wG_pure (e_ia_vwm rfl rfl (by omega) (by omega) rfl) ?_
    | refine wG_pure (e_ia_vwi rfl rfl (by omega) rfl) ?_
    | refine wG_pure (e_ia_vwn rfl rfl (by omega) (by omega) rfl) ?_
    | refine wG_n rfl rfl ?_
    | refine wG_u rfl rfl ?_
    | refine wG_new (o_mks rfl rfl (by omega) (by decide)) ?_))
  refine wC_cond_d rfl (fun h5 => ?_) (fun h5 => ?_)
  · have hi2 : i < xs.length := by omega
    have cp := con67 c m xs hG hi2 false
    have hap := nI_app (b := 2) (L := pL m xs (-1) i) (x := lG m.y.toNat (gE m xs (-1) i))
    rw [← pL_up, lG_len] at hap
    have eg : gE m xs (-1) i = ew m (xs.getD i default) false := gE_m1
    rw [← eg] at cp
    repeat (first | refine wG_pure (o_ldt_pt rfl h0 rfl rfl rfl) ?_ | refine wG_call1 cp rfl rfl ?_ | refine wG_app rfl (hg_skip (by omega) (hg_skip (by omega) h1)) (by rw [nR_len, hl]) (rows_sl rfl hg_here rfl) (by simp) (by rw [show ∀ a : List AV, [a].length = 1 from fun _ => rfl]; omega) (by decide) ?_ | (first
    | refine wC_a rfl ?_
    | refine q_s rfl ?_
    | refine q_b rfl ?_
    | refine wG_nil ?_
    | refine wG_g rfl ?_
    | refine wG_pure (o_len_vwm rfl) ?_
    | refine wG_pure (o_not_d rfl) ?_
    | refine wG_p rfl (by first | exact rfl | omega) ?_
    | refine wG_pure (o_str2 rfl rfl rfl) ?_
    | refine wG_pure (e_istr rfl rfl (by omega)) ?_
    | refine wG_pure (e_istr0 rfl rfl (by omega)) ?_
    | refine wG_pure (o_not rfl) ?_
    | refine wG_pure (e_ia_vw0 rfl rfl (by omega) rfl) ?_
    | refine wG_pure (e_ia_vwp rfl rfl (by omega) rfl) ?_
    | refine wG_pure (e_ia_vwm rfl rfl (by omega) (by omega) rfl) ?_
    | refine wG_pure (e_ia_vwi rfl rfl (by omega) rfl) ?_
    | refine wG_pure (e_ia_vwn rfl rfl (by omega) (by omega) rfl) ?_
    | refine wG_n rfl rfl ?_
    | refine wG_u rfl rfl ?_
    | refine wG_new (o_mks rfl rfl (by omega) (by decide)) ?_))
    refine ⟨i + 1, hi2, by omega, .inr ⟨fun r => if r = 1 then 2 + i + 1 + 1 else r, LeR_of ⟨⟨rfl, rfl⟩, ⟨rfl, by simp [AV.ltr]; omega⟩, ⟨rfl, rfl⟩, trivial⟩ (fun q rows hq => ?_) (hwf (i + 1)) (fun q q' a1 a2 a3 => ?_)⟩⟩
    · rcases hQ_cs hq with ⟨rfl, rfl⟩ | ⟨e1, j, hj, rfl, rfl⟩ | ⟨e1, e2, e3⟩
      · rw [nI_rn (π := fun r => if r = 1 then 2 + i + 1 + 1 else r) (L := pL m xs (-1) (i + 1)) (b := 2) (b' := 2) (fun j hj => if_neg (show ¬ 2 + j = 1 by omega))]
        refine (hg_skip (by omega) hg_here).trans ?_
        rw [hap, hl]; rfl
      · rw [pL_len] at hj
        rw [← rn_rows (rowsP _), pL_get hj]
        show hg _ (if 2 + j = 1 then _ else 2 + j) = _
        rw [if_neg (by omega)]
        refine hg_skip (by omega) (hg_skip (by omega) (hg_skip (by omega) ?_))
        by_cases ej : j = i
        · subst ej; exact hg_here
        · have := hQ_in (q := 1) (b := 2) (L := pL m xs (-1) i) (h' := [(0, some [mdR c m xs])]) (i := j) (by omega) (by omega)
          rw [pL_get (by omega)] at this
          exact hg_skip (by omega) this
      · obtain ⟨rfl, rfl⟩ := hg_one e3
        show hg _ (if 0 = 1 then _ else 0) = _
        rw [if_neg (by omega)]
        exact hg_skip (by omega) (hg_skip (by omega) (hg_skip (by omega) (hg_skip (by omega) h0)))
    · have b1 : q < 2 + (i + 1) := a1
      have b2 : q' < 2 + (i + 1) := a2
      split at a3 <;> split at a3 <;> omega
  · have hi3 : i = xs.length := by omega
    subst hi3
    repeat (first
    | refine wC_a rfl ?_
    | refine q_s rfl ?_
    | refine q_b rfl ?_
    | refine wG_nil ?_
    | refine wG_g rfl ?_
    | refine wG_pure (o_len_vwm rfl) ?_
    | refine wG_pure (o_not_d rfl) ?_
    | refine wG_p rfl (by first | exact rfl | omega) ?_
    | refine wG_pure (o_str2 rfl rfl rfl) ?_
    | refine wG_pure (e_istr rfl rfl (by omega)) ?_
    | refine wG_pure (e_istr0 rfl rfl (by omega)) ?_
    | refine wG_pure (o_not rfl) ?_
    | refine wG_pure (e_ia_vw0 rfl rfl (by omega) rfl) ?_
    | refine wG_pure (e_ia_vwp rfl rfl (by omega) rfl) ?_
    | refine wG_pure (e_ia_vwm rfl rfl (by omega) (by omega) rfl) ?_
    | refine wG_pure (e_ia_vwi rfl rfl (by omega) rfl) ?_
    | refine wG_pure (e_ia_vwn rfl rfl (by omega) (by omega) rfl) ?_
    | refine wG_n rfl rfl ?_
    | refine wG_u rfl rfl ?_
    | refine wG_new (o_mks rfl rfl (by omega) (by decide)) ?_)
    exact retG_L (.inr rfl) (by rw [hl]; exact retV_mv rfl)
end Go.Proofs.Ytnohaclnpbpjbaa.Dst
