/- In how many sequences one context comes before another: both sides. -/
import Derived.Test.YthicnjgdngfbkaaSeqH
import Derived.Test.YthicnjgdngfbkaaSeqE
namespace Go.Proofs.Ythicnjgdngfbkaa.Rec
open Go Go.Proofs.Ythicnjgdngfbkaa.Ab Go.Proofs.Ythicnjgdngfbkaa.Il
attribute [local irreducible] wpO wpC wpDr wpQ wpG wpE stepA seqQ blkQ Ret RetG ev
set_option maxRecDepth 10000
set_option maxHeartbeats 8000000
set_option linter.unusedSimpArgs false
set_option linter.unusedVariables false

def ac19 : AC := (.seq (.reg [⟨(some 3), none, (.box 2 true (.t 0))⟩, ⟨(some 6), none, (.mv (.c (.int .i64 0)))⟩, ⟨(some 7), none, (.mv (.c (.bool false)))⟩]) (.seq (.dreg [⟨(some 13), none, (.ld true 2 (.t 3))⟩, ⟨(some 14), none, (.mv (.t 1))⟩, ⟨(some 15), none, (.call 48 [(.t 13), (.t 14)])⟩, ⟨(some 16), none, (.ld true 2 (.t 3))⟩, ⟨(some 17), none, (.mv (.t 2))⟩, ⟨(some 18), none, (.call 48 [(.t 16), (.t 17)])⟩, ⟨(some 8), none, (.mv (.t 15))⟩, ⟨(some 9), none, (.mv (.t 18))⟩] [[], [], [0, 1], [], [], [0, 1, 2, 3, 4], [0, 1, 2, 3, 4, 5], [0, 1, 2, 3, 4, 5, 6]]) (.seq (.seq (.reg [⟨(some 19), none, (.ld true 2 (.t 3))⟩, ⟨(some 20), none, (.call 40 [(.t 19)])⟩, ⟨(some 21), none, (.un .not (.t 20))⟩, ⟨(some 22), none, (.mv (.t 21))⟩, ⟨(some 23), (some (22, false)), (.mv (.t 8))⟩, ⟨(some 24), (some (22, false)), (.bin .lss (.t 23) (.c (.int .i64 0)))⟩, ⟨(some 25), none, (.pick (.t 22) (.c (.bool true)) (.t 24))⟩, ⟨(some 26), none, (.mv (.t 25))⟩, ⟨(some 27), (some (26, false)), (.mv (.t 9))⟩, ⟨(some 28), (some (26, false)), (.bin .lss (.t 27) (.c (.int .i64 0)))⟩, ⟨(some 29), none, (.pick (.t 26) (.c (.bool true)) (.t 28))⟩, ⟨(some 30), none, (.mv (.t 29))⟩, ⟨(some 31), (some (30, false)), (.mv (.t 8))⟩, ⟨(some 32), (some (30, false)), (.mv (.t 9))⟩, ⟨(some 33), (some (30, false)), (.bin .eql (.t 31) (.t 32))⟩, ⟨(some 34), none, (.pick (.t 30) (.c (.bool true)) (.t 33))⟩]) (.cond (.t 34) (.seq (.reg [⟨(some 6), none, (.mv (.c (.int .i64 0)))⟩, ⟨(some 7), none, (.mv (.c (.bool false)))⟩]) .ret) .skip)) (.seq (.reg [⟨(some 35), none, (.ld true 2 (.t 3))⟩, ⟨(some 36), none, (.call 42 [(.t 35)])⟩, ⟨(some 10), none, (.mv (.t 36))⟩]) (.seq (.seq (.reg [⟨(some 37), none, (.mv (.t 10))⟩, ⟨(some 38), none, (.mv (.t 9))⟩, ⟨(some 39), none, (.ia 1 (.t 37) (.t 38))⟩, ⟨(some 40), none, (.ld false 1 (.t 39))⟩, ⟨(some 41), none, (.mv (.t 8))⟩, ⟨(some 42), none, (.call 49 [(.t 40), (.t 41)])⟩]) (.cond (.t 42) (.seq (.reg [⟨(some 6), none, (.mv (.c (.int .i64 0)))⟩, ⟨(some 7), none, (.mv (.c (.bool true)))⟩]) .ret) .skip)) (.seq (.reg [⟨(some 43), none, (.bsl 1 [(.int .i64 0)] 0 [])⟩, ⟨(some 44), none, (.mv (.t 10))⟩, ⟨(some 45), none, (.app 1 8 [(.int .i64 0)] (.t 43) (.t 44))⟩, ⟨(some 11), none, (.mv (.t 45))⟩]) (.seq (.seq (.reg [⟨(some 12), none, (.mv (.c (.int .i64 0)))⟩]) (.blk 0 (.loop (.seq (.seq (.reg [⟨(some 46), none, (.mv (.t 12))⟩, ⟨(some 47), none, (.mv (.t 11))⟩, ⟨(some 48), none, (.len (.t 47))⟩, ⟨(some 49), none, (.bin .lss (.t 46) (.t 48))⟩]) (.cond (.t 49) .skip (.exit 0))) (.seq (.blk 1 (.seq (.reg [⟨(some 52), none, (.mv (.t 12))⟩, ⟨(some 53), none, (.mv (.t 8))⟩, ⟨(some 54), none, (.bin .eql (.t 52) (.t 53))⟩, ⟨(some 55), none, (.mv (.t 54))⟩, ⟨(some 56), (some (55, false)), (.mv (.t 10))⟩, ⟨(some 57), (some (55, false)), (.mv (.t 12))⟩, ⟨(some 58), (some (55, false)), (.ia 1 (.t 56) (.t 57))⟩, ⟨(some 59), (some (55, false)), (.ld false 1 (.t 58))⟩, ⟨(some 60), (some (55, false)), (.mv (.t 8))⟩, ⟨(some 61), (some (55, false)), (.call 49 [(.t 59), (.t 60)])⟩, ⟨(some 62), none, (.pick (.t 55) (.c (.bool true)) (.t 61))⟩]) (.cond (.t 62) (.dreg [⟨(some 63), none, (.mv (.t 11))⟩, ⟨(some 64), none, (.mv (.t 12))⟩, ⟨(some 65), none, (.mv (.t 11))⟩, ⟨(some 66), none, (.mv (.t 12))⟩, ⟨(some 67), none, (.ia 1 (.t 65) (.t 66))⟩, ⟨(some 68), none, (.ld false 1 (.t 67))⟩, ⟨(some 69), none, (.mv (.t 10))⟩, ⟨(some 70), none, (.mv (.t 9))⟩, ⟨(some 71), none, (.ia 1 (.t 69) (.t 70))⟩, ⟨(some 72), none, (.ld false 1 (.t 71))⟩, ⟨(some 73), none, (.bin .or (.t 68) (.t 72))⟩, ⟨(some 74), none, (.mv (.t 9))⟩, ⟨(some 75), none, (.cv .u64 (.t 74))⟩, ⟨(some 76), none, (.bin .shl (.c (.int .i64 1)) (.t 75))⟩, ⟨(some 77), none, (.bin .or (.t 73) (.t 76))⟩, ⟨(some 78), none, (.ia 1 (.t 63) (.t 64))⟩, ⟨none, none, (.st 1 (.t 78) (.t 77))⟩] [[], [], [], [], [2, 3], [2, 3, 4], [], [], [6, 7], [6, 7, 8], [2, 3, 4, 5, 6, 7, 8, 9], [], [11], [11, 12], [2, 3, 4, 5, 6, 7, 8, 9, 10, 11, 12, 13], [0, 1, 2, 3, 4, 5, 6, 7, 8, 9, 10, 11, 12, 13, 14], [0, 1, 2, 3, 4, 5, 6, 7, 8, 9, 10, 11, 12, 13, 14, 15]]) .skip))) (.reg [⟨(some 50), none, (.mv (.t 12))⟩, ⟨(some 51), none, (.bin .add (.t 50) (.c (.int .i64 1)))⟩, ⟨(some 12), none, (.mv (.t 51))⟩])))))) (.seq (.reg [⟨(some 79), none, (.mv (.t 11))⟩, ⟨(some 80), none, (.call 41 [(.t 79)])⟩, ⟨(some 81), none, (.ia 1 (.t 80) (.c (.int .i64 0)))⟩, ⟨(some 82), none, (.ld false 1 (.t 81))⟩, ⟨(some 6), none, (.mv (.t 82))⟩, ⟨(some 7), none, (.mv (.c (.bool true)))⟩]) .ret))))))))
def ro19 : List AOp := [(.mv (.t 6)), (.mv (.t 7))]
theorem fun19 : Fun Try.prog 19 83 ac19 ro19 := ⟨Try.f19, _, Try.func19, by kernel_rfl, rfl, rfl, by kernel_rfl, by kernel_rfl, by decide⟩
def ac20 : AC := (.seq (.reg [⟨(some 3), none, (.box 2 true (.t 0))⟩, ⟨(some 6), none, (.mv (.c (.int .i64 0)))⟩, ⟨(some 7), none, (.mv (.c (.bool false)))⟩]) (.seq (.reg [⟨(some 16), none, (.ld true 2 (.t 3))⟩, ⟨(some 17), none, (.call 45 [(.t 16)])⟩, ⟨(some 15), none, (.mv (.t 17))⟩, ⟨(some 18), none, (.ext (.t 15) 0)⟩, ⟨(some 19), none, (.ext (.t 15) 1)⟩, ⟨(some 8), none, (.mv (.t 18))⟩, ⟨(some 9), none, (.mv (.t 19))⟩]) (.seq (.seq (.reg [⟨(some 20), none, (.mv (.t 9))⟩, ⟨(some 21), none, (.un .not (.t 20))⟩, ⟨(some 22), none, (.mv (.t 21))⟩, ⟨(some 23), (some (22, false)), (.ld true 2 (.t 3))⟩, ⟨(some 24), (some (22, false)), (.mv (.t 1))⟩, ⟨(some 25), (some (22, false)), (.call 50 [(.t 23), (.t 24)])⟩, ⟨(some 26), (some (22, false)), (.bin .lss (.t 25) (.c (.int .i64 0)))⟩, ⟨(some 27), none, (.pick (.t 22) (.c (.bool true)) (.t 26))⟩, ⟨(some 28), none, (.mv (.t 27))⟩, ⟨(some 29), (some (28, false)), (.ld true 2 (.t 3))⟩, ⟨(some 30), (some (28, false)), (.mv (.t 2))⟩, ⟨(some 31), (some (28, false)), (.call 50 [(.t 29), (.t 30)])⟩, ⟨(some 32), (some (28, false)), (.bin .lss (.t 31) (.c (.int .i64 0)))⟩, ⟨(some 33), none, (.pick (.t 28) (.c (.bool true)) (.t 32))⟩, ⟨(some 34), none, (.mv (.t 33))⟩, ⟨(some 35), (some (34, false)), (.mv (.t 1))⟩, ⟨(some 36), (some (34, false)), (.mv (.t 2))⟩, ⟨(some 37), (some (34, false)), (.bin .eql (.t 35) (.t 36))⟩, ⟨(some 38), none, (.pick (.t 34) (.c (.bool true)) (.t 37))⟩]) (.cond (.t 38) (.seq (.reg [⟨(some 6), none, (.mv (.c (.int .i64 0)))⟩, ⟨(some 7), none, (.mv (.c (.bool false)))⟩]) .ret) .skip)) (.seq (.dreg [⟨(some 39), none, (.ld true 2 (.t 3))⟩, ⟨(some 40), none, (.mv (.t 1))⟩, ⟨(some 41), none, (.call 50 [(.t 39), (.t 40)])⟩, ⟨(some 42), none, (.ld true 2 (.t 3))⟩, ⟨(some 43), none, (.mv (.t 2))⟩, ⟨(some 44), none, (.call 50 [(.t 42), (.t 43)])⟩, ⟨(some 10), none, (.mv (.t 41))⟩, ⟨(some 11), none, (.mv (.t 44))⟩] [[], [], [0, 1], [], [], [0, 1, 2, 3, 4], [0, 1, 2, 3, 4, 5], [0, 1, 2, 3, 4, 5, 6]]) (.seq (.reg [⟨(some 12), none, (.mv (.c (.int .i64 0)))⟩]) (.seq (.seq (.reg [⟨(some 45), none, (.mv (.t 8))⟩, ⟨(some 46), none, (.nck (.t 45))⟩, ⟨(some 47), none, (.fa 1 (.t 46))⟩, ⟨(some 48), none, (.ld false 1 (.t 47))⟩, ⟨(some 49), none, (.len (.t 48))⟩, ⟨(some 50), none, (.mv (.c (.int .i64 0)))⟩]) (.blk 0 (.loop (.seq (.reg [⟨(some 51), none, (.bin .lss (.t 50) (.t 49))⟩]) (.seq (.cond (.t 51) .skip (.exit 0)) (.seq (.blk 1 (.seq (.reg [⟨(some 52), none, (.mv (.t 50))⟩, ⟨(some 53), none, (.ia 1 (.t 48) (.t 50))⟩, ⟨(some 54), none, (.ld false 1 (.t 53))⟩, ⟨(some 13), none, (.mv (.t 52))⟩, ⟨(some 14), none, (.mv (.t 54))⟩]) (.seq (.reg [⟨(some 55), none, (.mv (.t 13))⟩, ⟨(some 56), none, (.mv (.t 11))⟩, ⟨(some 57), none, (.bin .shr (.t 55) (.t 56))⟩, ⟨(some 58), none, (.bin .and (.t 57) (.c (.int .i64 1)))⟩, ⟨(some 59), none, (.bin .eql (.t 58) (.c (.int .i64 0)))⟩, ⟨(some 60), none, (.mv (.t 59))⟩, ⟨(some 61), (some (60, true)), (.mv (.t 8))⟩, ⟨(some 62), (some (60, true)), (.nck (.t 61))⟩, ⟨(some 63), (some (60, true)), (.fa 0 (.t 62))⟩, ⟨(some 64), (some (60, true)), (.ld false 1 (.t 63))⟩, ⟨(some 65), (some (60, true)), (.mv (.t 13))⟩, ⟨(some 66), (some (60, true)), (.mv (.t 10))⟩, ⟨(some 67), (some (60, true)), (.call 51 [(.t 64), (.t 65), (.t 66)])⟩, ⟨(some 68), none, (.pick (.t 60) (.t 67) (.c (.bool false)))⟩]) (.cond (.t 68) (.dreg [⟨(some 69), none, (.mv (.t 12))⟩, ⟨(some 70), none, (.mv (.t 14))⟩, ⟨(some 71), none, (.mv (.t 8))⟩, ⟨(some 72), none, (.nck (.t 71))⟩, ⟨(some 73), none, (.fa 2 (.t 72))⟩, ⟨(some 74), none, (.ld false 1 (.t 73))⟩, ⟨(some 75), none, (.mv (.t 13))⟩, ⟨(some 76), none, (.mv (.t 10))⟩, ⟨(some 77), none, (.bin .shl (.c (.int .i64 1)) (.t 76))⟩, ⟨(some 78), none, (.bin .or (.t 75) (.t 77))⟩, ⟨(some 79), none, (.ia 1 (.t 74) (.t 78))⟩, ⟨(some 80), none, (.ld false 1 (.t 79))⟩, ⟨(some 81), none, (.bin .mul (.t 70) (.t 80))⟩, ⟨(some 82), none, (.bin .add (.t 69) (.t 81))⟩, ⟨(some 12), none, (.mv (.t 82))⟩] [[], [], [], [2], [2, 3], [2, 3, 4], [], [], [7], [6, 7, 8], [2, 3, 4, 5, 6, 7, 8, 9], [2, 3, 4, 5, 6, 7, 8, 9, 10], [1, 2, 3, 4, 5, 6, 7, 8, 9, 10, 11], [0, 1, 2, 3, 4, 5, 6, 7, 8, 9, 10, 11, 12], [0, 1, 2, 3, 4, 5, 6, 7, 8, 9, 10, 11, 12, 13]]) .skip)))) (.reg [⟨(some 83), none, (.bin .add (.t 50) (.c (.int .i64 1)))⟩, ⟨(some 50), none, (.mv (.t 83))⟩]))))))) (.seq (.reg [⟨(some 84), none, (.mv (.t 12))⟩, ⟨(some 6), none, (.mv (.t 84))⟩, ⟨(some 7), none, (.mv (.c (.bool true)))⟩]) .ret)))))))
def ro20 : List AOp := [(.mv (.t 6)), (.mv (.t 7))]
theorem fun20 : Fun Try.prog 20 85 ac20 ro20 := ⟨Try.f20, _, Try.func20, by kernel_rfl, rfl, rfl, by kernel_rfl, by kernel_rfl, by decide⟩

theorem idx_inj {r : Rc} {x y : Int} (h0 : 0 ≤ idx r x) (h : idx r x = idx r y) : x = y := by
  have h1 := (ixN_in (n := r.cs.length) (p := fun j => (r.cs.getD j default).n = x) h0).2
  have h2 := (ixN_in (n := r.cs.length) (p := fun j => (r.cs.getD j default).n = y) (show 0 ≤ idx r y by omega)).2
  change (r.cs.getD (idx r x).toNat default).n = x at h1
  change (r.cs.getD (idx r y).toNat default).n = y at h2
  rw [← h, h1] at h2
  exact h2
theorem ltr_shx {m b : Nat} {x : AV} (h : AV.ltr m x = true) (hx : x.plain = true ∨ (∃ r s o q, x = .sl r s o q) ∨ ∃ r i j, x = .pt r i j) : AV.ltr (b + m) (sh b x) = true := by
  rcases hx with h2 | ⟨r, s, o, q, rfl⟩ | ⟨r, i, j, rfl⟩
  · rw [sh_plain h2]; cases x <;> first | rfl | simp [AV.plain] at h2
  · simp [sh, AV.ltr] at h ⊢; omega
  · simp [sh, AV.ltr] at h ⊢; omega
theorem mem_shL {b : Nat} : ∀ {row : List AV} {x : AV}, x ∈ shL b row → ∃ y ∈ row, x = sh b y
  | [], x, h => by simp [shL] at h
  | y :: ys, x, h => by
    rw [shL] at h
    rcases List.mem_cons.1 h with rfl | h
    · exact ⟨y, List.mem_cons_self, rfl⟩
    · obtain ⟨z, h1, h2⟩ := mem_shL h
      exact ⟨z, List.mem_cons_of_mem _ h1, h2⟩
theorem cgO_sh (r : Rc) : ∀ rows ∈ cgO r, ∀ row ∈ rows, ∀ x ∈ row, x.plain = true ∨ (∃ r s o q, x = .sl r s o q) ∨ ∃ r i j, x = .pt r i j := by
  intro rows hr row hrow x hx
  rcases List.mem_append.1 hr with hr | hr
  · rcases ordO_sl (rowsP _) _ _ _ rows hr row hrow x hx with h | h
    · exact .inl h
    · exact .inr (.inl h)
  · simp only [List.mem_cons, List.not_mem_nil, or_false] at hr
    rcases hr with rfl | rfl | rfl
    · exact .inl (rowsP _ row hrow x hx)
    · exact .inl (rowsP _ row hrow x hx)
    · simp only [List.mem_cons, List.not_mem_nil, or_false] at hrow
      subst hrow
      simp only [List.mem_cons, List.not_mem_nil, or_false] at hx
      rcases hx with rfl | rfl | rfl
      · exact .inr (.inr ⟨_, _, _, rfl⟩)
      · exact .inr (.inl ⟨_, _, _, _, rfl⟩)
      · exact .inr (.inl ⟨_, _, _, _, rfl⟩)
theorem gH_wf (a b : Bool) (r : Rc) : wfH (gH a b r) (0 + 1 + (cgO r).length) := by
  intro q rows hq
  unfold gH at hq
  rw [hg_app] at hq
  split at hq
  · rename_i hc
    rw [List.length_map] at hc
    refine ⟨by omega, fun row hrow x hx => ?_⟩
    rw [List.getElem?_map, Option.map_eq_some_iff] at hq
    obtain ⟨rows0, h0, rfl⟩ := hq
    obtain ⟨row0, hr0, rfl⟩ := List.mem_map.1 hrow
    have hm := List.mem_of_getElem? h0
    obtain ⟨y, hy, rfl⟩ := mem_shL hx
    exact ltr_shx (b := 0 + 1) (cgO_nest r rows0 hm row0 hr0 y hy).1 (cgO_sh r rows0 hm row0 hr0 y hy)
  · have h1 : q = 0 ∧ rows = [rRow a b r] := by
      by_cases h0 : q = 0
      · subst h0; exact ⟨rfl, (Option.some.inj hq).symm⟩
      · simp [Ab.hg, upd, h0] at hq
    obtain ⟨rfl, rfl⟩ := h1
    refine ⟨by omega, fun row hrow x hx => ?_⟩
    simp at hrow; subst hrow
    simp [rRow] at hx
    rcases hx with rfl | rfl <;> rfl
theorem dr_gHo {a b : Bool} {r : Rc} {t : List (Nat × Option Ab.Rows)} (ht : ∀ q rows, hg (gH a b r) q = some rows → q ≠ 0 → hg t q = some rows) : dr (hg t) 6 (.pt 1 0 0) = oC r :=
  dr_ordH (H := hg t) (nums r r.cs.length) (later r) (lk0 r r.xs.length) r.cs.length 1 2 (nums_len (Nat.le_refl _)) (fun i rows h => ht _ _ (gH_o h) (by omega))
theorem drgo {a b : Bool} {r : Rc} : dr (hg (gH a b r)) 6 (.pt 1 0 0) = oC r := dr_gHo (fun q rows h _ => h)

def mxW (W : Nat → Nat → Bool) (i k m : Nat) : Nat → Nat → Bool := fun q => if q < m then moreW W i k q else W q
theorem mxW_0 (W : Nat → Nat → Bool) (i k : Nat) : mxW W i k 0 = W := by funext q; simp [mxW]
theorem mxW_end {W : Nat → Nat → Bool} {i k n : Nat} : maskL (mxW W i k n) n = maskL (moreW W i k) n := List.map_congr_left fun q hq => by
  have : mxW W i k n q = moreW W i k q := if_pos (List.mem_range.1 hq)
  rw [this]
theorem mxW_at {W : Nat → Nat → Bool} {i k m : Nat} : mxW W i k m m = W m := if_neg (Nat.lt_irrefl m)
theorem mxW_ne {W : Nat → Nat → Bool} {i k m a : Nat} (h : a ≠ m) : mxW W i k (m + 1) a = mxW W i k m a := by
  unfold mxW
  by_cases g : a < m
  · rw [if_pos g, if_pos (by omega)]
  · rw [if_neg g, if_neg (by omega)]
theorem mxW_no {W : Nat → Nat → Bool} {i k m : Nat} (h1 : m ≠ i) (h2 : W m i = false) : mxW W i k (m + 1) = mxW W i k m := by
  funext q
  by_cases e : q = m
  · subst e
    rw [mxW_at]
    have : mxW W i k (q + 1) q = moreW W i k q := if_pos (Nat.lt_succ_self q)
    rw [this]
    funext j
    simp [moreW, h1, h2]
  · exact mxW_ne e
theorem mxW_yes {W : Nat → Nat → Bool} {i k m n : Nat} (hk : k < n) (h : m = i ∨ W m i = true) : ((maskL (mxW W i k m) n).map iRow).set m (iRow ((mkM (W m) n ||| mkM (W k) n ||| 2 ^ k : Nat) : Int)) = (maskL (mxW W i k (m + 1)) n).map iRow := by
  refine maskL_set ?_ (fun a ha => mxW_ne ha)
  have : mxW W i k (m + 1) m = moreW W i k m := if_pos (Nat.lt_succ_self m)
  rw [this, mkM_or, mkM_or1 _ _ _ hk]
  refine mkM_congr n fun j _ => ?_
  have hc : (decide (m = i) || W m i) = true := by
    rcases h with h | h
    · simp [h]
    · simp [h]
  show moreW W i k m j = _
  unfold moreW
  rw [hc, Bool.true_and, Bool.or_assoc]
def okB (r : Rc) (x y : Int) : Prop := GoodC r ∧ 0 ≤ idx r x ∧ 0 ≤ idx r y ∧ idx r x ≠ idx r y
theorem con19_yes (a b : Bool) (r : Rc) (x y : Int) (h1 : r.cs.length ≤ 1048576) (h2 : r.xs.length ≤ 1048576) (hC : GoodC r) {i k : Nat} (hi : idx r x = i) (hk : idx r y = k) (hik : i ≠ k) : Con Try.prog 19 true [.agg (rRow a b r), .int .i64 x, .int .i64 y] (.tup [.int .i64 ((sumTo (addM r.cs.length (later r) i k) (2 ^ r.cs.length) : Nat) : Int), .bool true]) [] := by
  classical
  refine con_of_wp mixed fun19 (by simp) [] plain_nil ?_
  unfold ac19 ro19
  simp only [zipT]
  have c1 := con40 a b r h1 h2
  rw [decide_eq_true hC] at c1
  have h10 := hC.1.1
  have cx := con48 a b r x (by omega)
  have cy := con48 a b r y (by omega)
  have bx := idx_b r x
  have bY := idx_b r y
  rw [hi] at cx bx
  rw [hk] at cy bY
  have c3 := con42 a b r hC.1
  have e0 : ∀ n : Nat, 0 + ((n : Int)).toNat = n := fun n => by simp
  have hi2 : i < r.cs.length := by omega
  have hk2 : k < r.cs.length := by omega
  have d1 : decide ((i : Int) < 0) = false := decide_eq_false (by omega)
  have d2 : decide ((k : Int) < 0) = false := decide_eq_false (by omega)
  have d3 : decide ((i : Int) = (k : Int)) = false := decide_eq_false (by omega)
  have hgk := maskL_get (W := later r) hk2
  have hmk := mk10 (later r k) h10
  have cw := con49 (mkM (later r k) r.cs.length) i hmk (by omega)
  have hbit : (mkM (later r k) r.cs.length).testBit i = later r k i := by rw [mkM_bit]; simp [hi2]
  rw [hbit] at cw
  repeat (first | refine wG_call cx rfl rfl ?_ | refine wG_call cy rfl rfl ?_ | refine wG_call c1 rfl rfl ?_ | (first
    | refine wC_a rfl ?_
    | refine q_s rfl ?_
    | refine q_b rfl ?_
    | refine wG_nil ?_
    | refine wG_g rfl ?_
    | refine wG_pure (o_len_vwm rfl) ?_
    | refine wG_pure (o_not_d rfl) ?_
    | refine wG_p rfl (by first | exact rfl | omega) ?_
    | refine wG_pure (o_str2 rfl rfl rfl) ?_
    | refine wG_pure (e_istr rfl rfl (by omega)) ?_
    | refine wG_pure (e_istr0 rfl rfl (by omega)) ?_
    | refine wG_pure (o_not rfl) ?_
    | refine wG_pure (e_ia_vw0 rfl rfl (by omega) rfl) ?_
    | refine wG_pure (e_ia_vwp rfl rfl (by omega) rfl) ?_
    | refine wG_pure (e_ia_vwm rfl rfl (by omega) (by omega) rfl) ?_
    | refine wG_pure (e_ia_vwi rfl rfl (by omega) rfl) ?_
    | refine wG_pure (e_ia_vwn rfl rfl (by omega) (by omega) rfl) ?_
    | refine wG_n rfl rfl ?_
    | refine wG_u rfl rfl ?_
    | refine wG_new (o_mks rfl rfl (by omega) (by decide)) ?_))
  simp only [d1]
  repeat (first
    | refine wC_a rfl ?_
    | refine q_s rfl ?_
    | refine q_b rfl ?_
    | refine wG_nil ?_
    | refine wG_g rfl ?_
    | refine wG_pure (o_len_vwm rfl) ?_
    | refine wG_pure (o_not_d rfl) ?_
    | refine wG_p rfl (by first | exact rfl | omega) ?_
    | refine wG_pure (o_str2 rfl rfl rfl) ?_
    | refine wG_pure (e_istr rfl rfl (by omega)) ?_
    | refine wG_pure (e_istr0 rfl rfl (by omega)) ?_
    | refine wG_pure (o_not rfl) ?_
    | refine wG_pure (e_ia_vw0 rfl rfl (by omega) rfl) ?_
    | refine wG_pure (e_ia_vwp rfl rfl (by omega) rfl) ?_
    | refine wG_pure (e_ia_vwm rfl rfl (by omega) (by omega) rfl) ?_
    | refine wG_pure (e_ia_vwi rfl rfl (by omega) rfl) ?_
    | refine wG_pure (e_ia_vwn rfl rfl (by omega) (by omega) rfl) ?_
    | refine wG_n rfl rfl ?_
    | refine wG_u rfl rfl ?_
    | refine wG_new (o_mks rfl rfl (by omega) (by decide)) ?_)
  simp only [d2]
  repeat (first
    | refine wC_a rfl ?_
    | refine q_s rfl ?_
    | refine q_b rfl ?_
    | refine wG_nil ?_
    | refine wG_g rfl ?_
    | refine wG_pure (o_len_vwm rfl) ?_
    | refine wG_pure (o_not_d rfl) ?_
    | refine wG_p rfl (by first | exact rfl | omega) ?_
    | refine wG_pure (o_str2 rfl rfl rfl) ?_
    | refine wG_pure (e_istr rfl rfl (by omega)) ?_
    | refine wG_pure (e_istr0 rfl rfl (by omega)) ?_
    | refine wG_pure (o_not rfl) ?_
    | refine wG_pure (e_ia_vw0 rfl rfl (by omega) rfl) ?_
    | refine wG_pure (e_ia_vwp rfl rfl (by omega) rfl) ?_
    | refine wG_pure (e_ia_vwm rfl rfl (by omega) (by omega) rfl) ?_
    | refine wG_pure (e_ia_vwi rfl rfl (by omega) rfl) ?_
    | refine wG_pure (e_ia_vwn rfl rfl (by omega) (by omega) rfl) ?_
    | refine wG_n rfl rfl ?_
    | refine wG_u rfl rfl ?_
    | refine wG_new (o_mks rfl rfl (by omega) (by decide)) ?_)
  simp only [d3]
  cases hb : later r k i with
  | true =>
    rw [hb] at cw
    rw [more_no hk2 hb]
    repeat (first | refine wG_call1 c3 rfl rfl ?_ | (refine wG_pure (e_ia_sl rfl rfl (by omega) (by omega)) ?_; simp only [e0]) | refine wG_pure (o_ldf_pt rfl rfl hgk rfl) ?_ | refine wG_call cw rfl rfl ?_ | (first
    | refine wC_a rfl ?_
    | refine q_s rfl ?_
    | refine q_b rfl ?_
    | refine wG_nil ?_
    | refine wG_g rfl ?_
    | refine wG_pure (o_len_vwm rfl) ?_
    | refine wG_pure (o_not_d rfl) ?_
    | refine wG_p rfl (by first | exact rfl | omega) ?_
    | refine wG_pure (o_str2 rfl rfl rfl) ?_
    | refine wG_pure (e_istr rfl rfl (by omega)) ?_
    | refine wG_pure (e_istr0 rfl rfl (by omega)) ?_
    | refine wG_pure (o_not rfl) ?_
    | refine wG_pure (e_ia_vw0 rfl rfl (by omega) rfl) ?_
    | refine wG_pure (e_ia_vwp rfl rfl (by omega) rfl) ?_
    | refine wG_pure (e_ia_vwm rfl rfl (by omega) (by omega) rfl) ?_
    | refine wG_pure (e_ia_vwi rfl rfl (by omega) rfl) ?_
    | refine wG_pure (e_ia_vwn rfl rfl (by omega) (by omega) rfl) ?_
    | refine wG_n rfl rfl ?_
    | refine wG_u rfl rfl ?_
    | refine wG_new (o_mks rfl rfl (by omega) (by decide)) ?_))
    exact ret_pl (.inr rfl) (retVs_2 (retV_mv rfl) (retV_mv rfl)) rfl rfl (by simp)
  | false =>
    rw [hb] at cw
    rw [more_eq hi2 hk2 hik]
    have hml := maskL_len (later r) r.cs.length
    have hlm : 0 + ((maskL (later r) r.cs.length).map iRow).length = r.cs.length := by simp [hml]
    have hpk := p10 hk2 h10
    have hp0 : 0 < 2 ^ r.cs.length := Nat.pow_pos (by decide)
    have cC := con41 true (moreW (later r) i k) h10
    repeat (first | refine wG_call1 c3 rfl rfl ?_ | (refine wG_pure (e_ia_sl rfl rfl (by omega) (by omega)) ?_; simp only [e0]) | refine wG_pure (o_ldf_pt rfl rfl hgk rfl) ?_ | refine wG_call cw rfl rfl ?_ | refine wG_app rfl rfl rfl (rows_sl rfl rfl (by simp [hml])) (by simp [hml]; omega) (by simp [hml]; omega) (by decide) ?_ | (first
    | refine wC_a rfl ?_
    | refine q_s rfl ?_
    | refine q_b rfl ?_
    | refine wG_nil ?_
    | refine wG_g rfl ?_
    | refine wG_pure (o_len_vwm rfl) ?_
    | refine wG_pure (o_not_d rfl) ?_
    | refine wG_p rfl (by first | exact rfl | omega) ?_
    | refine wG_pure (o_str2 rfl rfl rfl) ?_
    | refine wG_pure (e_istr rfl rfl (by omega)) ?_
    | refine wG_pure (e_istr0 rfl rfl (by omega)) ?_
    | refine wG_pure (o_not rfl) ?_
    | refine wG_pure (e_ia_vw0 rfl rfl (by omega) rfl) ?_
    | refine wG_pure (e_ia_vwp rfl rfl (by omega) rfl) ?_
    | refine wG_pure (e_ia_vwm rfl rfl (by omega) (by omega) rfl) ?_
    | refine wG_pure (e_ia_vwi rfl rfl (by omega) rfl) ?_
    | refine wG_pure (e_ia_vwn rfl rfl (by omega) (by omega) rfl) ?_
    | refine wG_n rfl rfl ?_
    | refine wG_u rfl rfl ?_
    | refine wG_new (o_mks rfl rfl (by omega) (by decide)) ?_))
    simp only [hlm]
    refine wC_loop Nat (fun m => ⟨[(8, .int .i64 (i : Int)), (9, .int .i64 (k : Int)), (10, .sl 1 1 0 r.cs.length), (11, .sl 3 1 0 r.cs.length), (12, .int .i64 (m : Int))], [(3, some ((maskL (mxW (later r) i k m) r.cs.length).map iRow)), (1, some ((maskL (later r) r.cs.length).map iRow))], 4⟩) (fun m => m ≤ r.cs.length) (fun m => r.cs.length - m) 0 (Nat.zero_le _) ?_ (fun _ _ => Nat.zero_le _) ?_
    · refine ⟨⟨⟨rfl, rfl⟩, ⟨rfl, rfl⟩, ⟨rfl, rfl⟩, ⟨rfl, rfl⟩, ⟨rfl, rfl⟩, trivial⟩, ⟨?_, by show 3 < 4; decide, ltrI _ _⟩, ⟨rfl, by show 1 < 4; decide, ltrI _ _⟩, trivial⟩
      rw [mxW_0]; rfl
    intro m hm
    repeat (first
    | refine wC_a rfl ?_
    | refine q_s rfl ?_
    | refine q_b rfl ?_
    | refine wG_nil ?_
    | refine wG_g rfl ?_
    | refine wG_pure (o_len_vwm rfl) ?_
    | refine wG_pure (o_not_d rfl) ?_
    | refine wG_p rfl (by first | exact rfl | omega) ?_
    | refine wG_pure (o_str2 rfl rfl rfl) ?_
    | refine wG_pure (e_istr rfl rfl (by omega)) ?_
    | refine wG_pure (e_istr0 rfl rfl (by omega)) ?_
    | refine wG_pure (o_not rfl) ?_
    | refine wG_pure (e_ia_vw0 rfl rfl (by omega) rfl) ?_
    | refine wG_pure (e_ia_vwp rfl rfl (by omega) rfl) ?_
    | refine wG_pure (e_ia_vwm rfl rfl (by omega) (by omega) rfl) ?_
    | refine wG_pure (e_ia_vwi rfl rfl (by omega) rfl) ?_
    | refine wG_pure (e_ia_vwn rfl rfl (by omega) (by omega) rfl) ?_
    | refine wG_n rfl rfl ?_
    | refine wG_u rfl rfl ?_
    | refine wG_new (o_mks rfl rfl (by omega) (by decide)) ?_)
    refine wC_cond_d rfl (fun h5 => ?_) (fun h5 => ?_)
    · have hm2 : m < r.cs.length := by omega
      have hgm := maskL_get (W := later r) hm2
      have hgx := maskL_get (W := mxW (later r) i k m) hm2
      rw [mxW_at] at hgx
      have hmm := mk10 (later r m) h10
      have cb := con49 (mkM (later r m) r.cs.length) i hmm (by omega)
      have hbm : (mkM (later r m) r.cs.length).testBit i = later r m i := by rw [mkM_bit]; simp [hi2]
      rw [hbm] at cb
      have hor2 := Nat.or_lt_two_pow (show mkM (later r m) r.cs.length < 2 ^ 10 from hmm) (show mkM (later r k) r.cs.length < 2 ^ 10 from hmk)
      by_cases hc : m = i ∨ later r m i = true
      · have hset := mxW_yes hk2 hc
        by_cases hmi : m = i
        · have d4 : decide ((m : Int) = (i : Int)) = true := decide_eq_true (by omega)
          repeat (first
    | refine wC_a rfl ?_
    | refine q_s rfl ?_
    | refine q_b rfl ?_
    | refine wG_nil ?_
    | refine wG_g rfl ?_
    | refine wG_pure (o_len_vwm rfl) ?_
    | refine wG_pure (o_not_d rfl) ?_
    | refine wG_p rfl (by first | exact rfl | omega) ?_
    | refine wG_pure (o_str2 rfl rfl rfl) ?_
    | refine wG_pure (e_istr rfl rfl (by omega)) ?_
    | refine wG_pure (e_istr0 rfl rfl (by omega)) ?_
    | refine wG_pure (o_not rfl) ?_
    | refine wG_pure (e_ia_vw0 rfl rfl (by omega) rfl) ?_
    | refine wG_pure (e_ia_vwp rfl rfl (by omega) rfl) ?_
    | refine wG_pure (e_ia_vwm rfl rfl (by omega) (by omega) rfl) ?_
    | refine wG_pure (e_ia_vwi rfl rfl (by omega) rfl) ?_
    | refine wG_pure (e_ia_vwn rfl rfl (by omega) (by omega) rfl) ?_
    | refine wG_n rfl rfl ?_
    | refine wG_u rfl rfl ?_
    | refine wG_new (o_mks rfl rfl (by omega) (by decide)) ?_)
          simp only [d4]
          repeat (first | (refine wE_v (e_ia_sl rfl rfl (by omega) (by omega)) rfl ?_; simp only [e0]) | refine wE_v (o_ldf_pt rfl rfl hgx rfl) rfl ?_ | refine wE_v (o_ldf_pt rfl rfl hgk rfl) rfl ?_ | refine wE_v (o_cvu rfl (by omega)) rfl ?_ | refine wE_v (o_shl1 rfl rfl (by omega)) rfl ?_ | refine wE_v (o_or rfl rfl (by omega) (by omega)) rfl ?_ | refine wE_upd (o_st1 rfl rfl hgx rfl rfl hset) rfl ?_ | (first
    | refine wC_a rfl ?_
    | refine q_s rfl ?_
    | refine q_b rfl ?_
    | refine wG_nil ?_
    | refine wG_g rfl ?_
    | refine wG_pure (o_len_vwm rfl) ?_
    | refine wG_pure (o_not_d rfl) ?_
    | refine wG_p rfl (by first | exact rfl | omega) ?_
    | refine wG_pure (o_str2 rfl rfl rfl) ?_
    | refine wG_pure (e_istr rfl rfl (by omega)) ?_
    | refine wG_pure (e_istr0 rfl rfl (by omega)) ?_
    | refine wG_pure (o_not rfl) ?_
    | refine wG_pure (e_ia_vw0 rfl rfl (by omega) rfl) ?_
    | refine wG_pure (e_ia_vwp rfl rfl (by omega) rfl) ?_
    | refine wG_pure (e_ia_vwm rfl rfl (by omega) (by omega) rfl) ?_
    | refine wG_pure (e_ia_vwi rfl rfl (by omega) rfl) ?_
    | refine wG_pure (e_ia_vwn rfl rfl (by omega) (by omega) rfl) ?_
    | refine wG_n rfl rfl ?_
    | refine wG_u rfl rfl ?_
    | refine wG_new (o_mks rfl rfl (by omega) (by decide)) ?_) | (first
    | refine wE_nil (by kernel_rfl) ?_
    | refine wE_gy rfl ?_
    | refine wE_gn rfl rfl rfl ?_
    | refine wE_gu rfl rfl ?_
    | refine wE_gnn rfl rfl rfl ?_
    | refine wE_v (o_len_vwm rfl) rfl ?_
    | refine wE_v (o_not_d rfl) rfl ?_
    | refine wE_p rfl (by first | exact rfl | omega) rfl ?_
    | refine wE_v (o_str2 rfl rfl rfl) rfl ?_
    | refine wE_v (e_istr rfl rfl (by omega)) rfl ?_
    | refine wE_v (e_istr0 rfl rfl (by omega)) rfl ?_
    | refine wE_v (o_not rfl) rfl ?_
    | refine wE_v (e_ia_vw0 rfl rfl (by omega) rfl) rfl ?_
    | refine wE_v (e_ia_vwp rfl rfl (by omega) rfl) rfl ?_
    | refine wE_v (e_ia_vwm rfl rfl (by omega) (by omega) rfl) rfl ?_
    | refine wE_v (e_ia_vwi rfl rfl (by omega) rfl) rfl ?_
    | refine wE_v (e_ia_vwn rfl rfl (by omega) (by omega) rfl) rfl ?_
    | refine wE_n rfl rfl rfl ?_
    | refine wE_u rfl rfl rfl ?_
    | refine wE_new (o_mks rfl rfl (by omega) (by decide)) rfl ?_))
          exact ⟨m + 1, hm2, by omega, ⟨⟨rfl, rfl⟩, ⟨rfl, rfl⟩, ⟨rfl, rfl⟩, ⟨rfl, rfl⟩, ⟨rfl, rfl⟩, trivial⟩, ⟨rfl, by show 3 < 4; decide, ltrI _ _⟩, ⟨rfl, by show 1 < 4; decide, ltrI _ _⟩, trivial⟩
        · have d4 : decide ((m : Int) = (i : Int)) = false := decide_eq_false (by omega)
          rcases hc with hc | hc
          · exact absurd hc hmi
          rw [hc] at cb
          repeat (first
    | refine wC_a rfl ?_
    | refine q_s rfl ?_
    | refine q_b rfl ?_
    | refine wG_nil ?_
    | refine wG_g rfl ?_
    | refine wG_pure (o_len_vwm rfl) ?_
    | refine wG_pure (o_not_d rfl) ?_
    | refine wG_p rfl (by first | exact rfl | omega) ?_
    | refine wG_pure (o_str2 rfl rfl rfl) ?_
    | refine wG_pure (e_istr rfl rfl (by omega)) ?_
    | refine wG_pure (e_istr0 rfl rfl (by omega)) ?_
    | refine wG_pure (o_not rfl) ?_
    | refine wG_pure (e_ia_vw0 rfl rfl (by omega) rfl) ?_
    | refine wG_pure (e_ia_vwp rfl rfl (by omega) rfl) ?_
    | refine wG_pure (e_ia_vwm rfl rfl (by omega) (by omega) rfl) ?_
    | refine wG_pure (e_ia_vwi rfl rfl (by omega) rfl) ?_
    | refine wG_pure (e_ia_vwn rfl rfl (by omega) (by omega) rfl) ?_
    | refine wG_n rfl rfl ?_
    | refine wG_u rfl rfl ?_
    | refine wG_new (o_mks rfl rfl (by omega) (by decide)) ?_)
          simp only [d4]
          repeat (first | (refine wG_pure (e_ia_sl rfl rfl (by omega) (by omega)) ?_; simp only [e0]) | refine wG_pure (o_ldf_pt rfl rfl hgm rfl) ?_ | refine wG_call cb rfl rfl ?_ | (refine wE_v (e_ia_sl rfl rfl (by omega) (by omega)) rfl ?_; simp only [e0]) | refine wE_v (o_ldf_pt rfl rfl hgx rfl) rfl ?_ | refine wE_v (o_ldf_pt rfl rfl hgk rfl) rfl ?_ | refine wE_v (o_cvu rfl (by omega)) rfl ?_ | refine wE_v (o_shl1 rfl rfl (by omega)) rfl ?_ | refine wE_v (o_or rfl rfl (by omega) (by omega)) rfl ?_ | refine wE_upd (o_st1 rfl rfl hgx rfl rfl hset) rfl ?_ | (first
    | refine wC_a rfl ?_
    | refine q_s rfl ?_
    | refine q_b rfl ?_
    | refine wG_nil ?_
    | refine wG_g rfl ?_
    | refine wG_pure (o_len_vwm rfl) ?_
    | refine wG_pure (o_not_d rfl) ?_
    | refine wG_p rfl (by first | exact rfl | omega) ?_
    | refine wG_pure (o_str2 rfl rfl rfl) ?_
    | refine wG_pure (e_istr rfl rfl (by omega)) ?_
    | refine wG_pure (e_istr0 rfl rfl (by omega)) ?_
    | refine wG_pure (o_not rfl) ?_
    | refine wG_pure (e_ia_vw0 rfl rfl (by omega) rfl) ?_
    | refine wG_pure (e_ia_vwp rfl rfl (by omega) rfl) ?_
    | refine wG_pure (e_ia_vwm rfl rfl (by omega) (by omega) rfl) ?_
    | refine wG_pure (e_ia_vwi rfl rfl (by omega) rfl) ?_
    | refine wG_pure (e_ia_vwn rfl rfl (by omega) (by omega) rfl) ?_
    | refine wG_n rfl rfl ?_
    | refine wG_u rfl rfl ?_
    | refine wG_new (o_mks rfl rfl (by omega) (by decide)) ?_) | (first
    | refine wE_nil (by kernel_rfl) ?_
    | refine wE_gy rfl ?_
    | refine wE_gn rfl rfl rfl ?_
    | refine wE_gu rfl rfl ?_
    | refine wE_gnn rfl rfl rfl ?_
    | refine wE_v (o_len_vwm rfl) rfl ?_
    | refine wE_v (o_not_d rfl) rfl ?_
    | refine wE_p rfl (by first | exact rfl | omega) rfl ?_
    | refine wE_v (o_str2 rfl rfl rfl) rfl ?_
    | refine wE_v (e_istr rfl rfl (by omega)) rfl ?_
    | refine wE_v (e_istr0 rfl rfl (by omega)) rfl ?_
    | refine wE_v (o_not rfl) rfl ?_
    | refine wE_v (e_ia_vw0 rfl rfl (by omega) rfl) rfl ?_
    | refine wE_v (e_ia_vwp rfl rfl (by omega) rfl) rfl ?_
    | refine wE_v (e_ia_vwm rfl rfl (by omega) (by omega) rfl) rfl ?_
    | refine wE_v (e_ia_vwi rfl rfl (by omega) rfl) rfl ?_
    | refine wE_v (e_ia_vwn rfl rfl (by omega) (by omega) rfl) rfl ?_
    | refine wE_n rfl rfl rfl ?_
    | refine wE_u rfl rfl rfl ?_
    | refine wE_new (o_mks rfl rfl (by omega) (by decide)) rfl ?_))
          exact ⟨m + 1, hm2, by omega, ⟨⟨rfl, rfl⟩, ⟨rfl, rfl⟩, ⟨rfl, rfl⟩, ⟨rfl, rfl⟩, ⟨rfl, rfl⟩, trivial⟩, ⟨rfl, by show 3 < 4; decide, ltrI _ _⟩, ⟨rfl, by show 1 < 4; decide, ltrI _ _⟩, trivial⟩
      · have hmi : m ≠ i := fun h => hc (.inl h)
        have hf : later r m i = false := by
          cases e : later r m i with
          | false => rfl
          | true => exact absurd (.inr e) hc
        have d4 : decide ((m : Int) = (i : Int)) = false := decide_eq_false (by omega)
        rw [hf] at cb
        have hno := mxW_no (k := k) hmi hf
        repeat (first
    | refine wC_a rfl ?_
    | refine q_s rfl ?_
    | refine q_b rfl ?_
    | refine wG_nil ?_
    | refine wG_g rfl ?_
    | refine wG_pure (o_len_vwm rfl) ?_
    | refine wG_pure (o_not_d rfl) ?_
    | refine wG_p rfl (by first | exact rfl | omega) ?_
    | refine wG_pure (o_str2 rfl rfl rfl) ?_
    | refine wG_pure (e_istr rfl rfl (by omega)) ?_
    | refine wG_pure (e_istr0 rfl rfl (by omega)) ?_
    | refine wG_pure (o_not rfl) ?_
    | refine wG_pure (e_ia_vw0 rfl rfl (by omega) rfl) ?_
    | refine wG_pure (e_ia_vwp rfl rfl (by omega) rfl) ?_
    | refine wG_pure (e_ia_vwm rfl rfl (by omega) (by omega) rfl) ?_
    | refine wG_pure (e_ia_vwi rfl rfl (by omega) rfl) ?_
    | refine wG_pure (e_ia_vwn rfl rfl (by omega) (by omega) rfl) ?_
    | refine wG_n rfl rfl ?_
    | refine wG_u rfl rfl ?_
    | refine wG_new (o_mks rfl rfl (by omega) (by decide)) ?_)
        simp only [d4]
        repeat (first | (refine wG_pure (e_ia_sl rfl rfl (by omega) (by omega)) ?_; simp only [e0]) | refine wG_pure (o_ldf_pt rfl rfl hgm rfl) ?_ | refine wG_call cb rfl rfl ?_ | (first
    | refine wC_a rfl ?_
    | refine q_s rfl ?_
    | refine q_b rfl ?_
    | refine wG_nil ?_
    | refine wG_g rfl ?_
    | refine wG_pure (o_len_vwm rfl) ?_
    | refine wG_pure (o_not_d rfl) ?_
    | refine wG_p rfl (by first | exact rfl | omega) ?_
    | refine wG_pure (o_str2 rfl rfl rfl) ?_
    | refine wG_pure (e_istr rfl rfl (by omega)) ?_
    | refine wG_pure (e_istr0 rfl rfl (by omega)) ?_
    | refine wG_pure (o_not rfl) ?_
    | refine wG_pure (e_ia_vw0 rfl rfl (by omega) rfl) ?_
    | refine wG_pure (e_ia_vwp rfl rfl (by omega) rfl) ?_
    | refine wG_pure (e_ia_vwm rfl rfl (by omega) (by omega) rfl) ?_
    | refine wG_pure (e_ia_vwi rfl rfl (by omega) rfl) ?_
    | refine wG_pure (e_ia_vwn rfl rfl (by omega) (by omega) rfl) ?_
    | refine wG_n rfl rfl ?_
    | refine wG_u rfl rfl ?_
    | refine wG_new (o_mks rfl rfl (by omega) (by decide)) ?_))
        refine ⟨m + 1, hm2, by omega, ⟨⟨rfl, rfl⟩, ⟨rfl, rfl⟩, ⟨rfl, rfl⟩, ⟨rfl, rfl⟩, ⟨rfl, rfl⟩, trivial⟩, ⟨?_, by show 3 < 4; decide, ltrI _ _⟩, ⟨rfl, by show 1 < 4; decide, ltrI _ _⟩, trivial⟩
        rw [hno]; rfl
    · have hm3 : m = r.cs.length := by omega
      subst hm3
      rw [mxW_end]
      repeat (first | refine wG_call1 cC (ag_sl rfl rfl (maskL_len _ _).symm iRow_plain ag_nil) rfl ?_ | refine wG_pure (e_ia_sl (n := 0) rfl rfl (by decide) (by omega)) ?_ | refine wG_pure (o_ldf_pt rfl rfl cnt0_get rfl) ?_ | (first
    | refine wC_a rfl ?_
    | refine q_s rfl ?_
    | refine q_b rfl ?_
    | refine wG_nil ?_
    | refine wG_g rfl ?_
    | refine wG_pure (o_len_vwm rfl) ?_
    | refine wG_pure (o_not_d rfl) ?_
    | refine wG_p rfl (by first | exact rfl | omega) ?_
    | refine wG_pure (o_str2 rfl rfl rfl) ?_
    | refine wG_pure (e_istr rfl rfl (by omega)) ?_
    | refine wG_pure (e_istr0 rfl rfl (by omega)) ?_
    | refine wG_pure (o_not rfl) ?_
    | refine wG_pure (e_ia_vw0 rfl rfl (by omega) rfl) ?_
    | refine wG_pure (e_ia_vwp rfl rfl (by omega) rfl) ?_
    | refine wG_pure (e_ia_vwm rfl rfl (by omega) (by omega) rfl) ?_
    | refine wG_pure (e_ia_vwi rfl rfl (by omega) rfl) ?_
    | refine wG_pure (e_ia_vwn rfl rfl (by omega) (by omega) rfl) ?_
    | refine wG_n rfl rfl ?_
    | refine wG_u rfl rfl ?_
    | refine wG_new (o_mks rfl rfl (by omega) (by decide)) ?_))
      exact ret_pl (.inr rfl) (retVs_2 (retV_mv rfl) (retV_mv rfl)) rfl rfl (by simp)
theorem con19_no (a b : Bool) (r : Rc) (x y : Int) (h1 : r.cs.length ≤ 1048576) (h2 : r.xs.length ≤ 1048576) (hC : ¬ okB r x y) : Con Try.prog 19 true [.agg (rRow a b r), .int .i64 x, .int .i64 y] (.tup [.int .i64 0, .bool false]) [] := by
  classical
  refine con_of_wp mixed fun19 (by simp) [] plain_nil ?_
  unfold ac19 ro19
  simp only [zipT]
  have c1 := con40 a b r h1 h2
  have cx := con48 a b r x (by omega)
  have cy := con48 a b r y (by omega)
  by_cases hG : GoodC r
  · rw [decide_eq_true hG] at c1
    repeat (first | refine wG_call cx rfl rfl ?_ | refine wG_call cy rfl rfl ?_ | refine wG_call c1 rfl rfl ?_ | (first
    | refine wC_a rfl ?_
    | refine q_s rfl ?_
    | refine q_b rfl ?_
    | refine wG_nil ?_
    | refine wG_g rfl ?_
    | refine wG_pure (o_len_vwm rfl) ?_
    | refine wG_pure (o_not_d rfl) ?_
    | refine wG_p rfl (by first | exact rfl | omega) ?_
    | refine wG_pure (o_str2 rfl rfl rfl) ?_
    | refine wG_pure (e_istr rfl rfl (by omega)) ?_
    | refine wG_pure (e_istr0 rfl rfl (by omega)) ?_
    | refine wG_pure (o_not rfl) ?_
    | refine wG_pure (e_ia_vw0 rfl rfl (by omega) rfl) ?_
    | refine wG_pure (e_ia_vwp rfl rfl (by omega) rfl) ?_
    | refine wG_pure (e_ia_vwm rfl rfl (by omega) (by omega) rfl) ?_
    | refine wG_pure (e_ia_vwi rfl rfl (by omega) rfl) ?_
    | refine wG_pure (e_ia_vwn rfl rfl (by omega) (by omega) rfl) ?_
    | refine wG_n rfl rfl ?_
    | refine wG_u rfl rfl ?_
    | refine wG_new (o_mks rfl rfl (by omega) (by decide)) ?_))
    by_cases q1 : 0 ≤ idx r x
    · have d1 : decide (idx r x < 0) = false := decide_eq_false (by omega)
      simp only [d1]
      repeat (first
    | refine wC_a rfl ?_
    | refine q_s rfl ?_
    | refine q_b rfl ?_
    | refine wG_nil ?_
    | refine wG_g rfl ?_
    | refine wG_pure (o_len_vwm rfl) ?_
    | refine wG_pure (o_not_d rfl) ?_
    | refine wG_p rfl (by first | exact rfl | omega) ?_
    | refine wG_pure (o_str2 rfl rfl rfl) ?_
    | refine wG_pure (e_istr rfl rfl (by omega)) ?_
    | refine wG_pure (e_istr0 rfl rfl (by omega)) ?_
    | refine wG_pure (o_not rfl) ?_
    | refine wG_pure (e_ia_vw0 rfl rfl (by omega) rfl) ?_
    | refine wG_pure (e_ia_vwp rfl rfl (by omega) rfl) ?_
    | refine wG_pure (e_ia_vwm rfl rfl (by omega) (by omega) rfl) ?_
    | refine wG_pure (e_ia_vwi rfl rfl (by omega) rfl) ?_
    | refine wG_pure (e_ia_vwn rfl rfl (by omega) (by omega) rfl) ?_
    | refine wG_n rfl rfl ?_
    | refine wG_u rfl rfl ?_
    | refine wG_new (o_mks rfl rfl (by omega) (by decide)) ?_)
      by_cases q2 : 0 ≤ idx r y
      · have d2 : decide (idx r y < 0) = false := decide_eq_false (by omega)
        simp only [d2]
        repeat (first
    | refine wC_a rfl ?_
    | refine q_s rfl ?_
    | refine q_b rfl ?_
    | refine wG_nil ?_
    | refine wG_g rfl ?_
    | refine wG_pure (o_len_vwm rfl) ?_
    | refine wG_pure (o_not_d rfl) ?_
    | refine wG_p rfl (by first | exact rfl | omega) ?_
    | refine wG_pure (o_str2 rfl rfl rfl) ?_
    | refine wG_pure (e_istr rfl rfl (by omega)) ?_
    | refine wG_pure (e_istr0 rfl rfl (by omega)) ?_
    | refine wG_pure (o_not rfl) ?_
    | refine wG_pure (e_ia_vw0 rfl rfl (by omega) rfl) ?_
    | refine wG_pure (e_ia_vwp rfl rfl (by omega) rfl) ?_
    | refine wG_pure (e_ia_vwm rfl rfl (by omega) (by omega) rfl) ?_
    | refine wG_pure (e_ia_vwi rfl rfl (by omega) rfl) ?_
    | refine wG_pure (e_ia_vwn rfl rfl (by omega) (by omega) rfl) ?_
    | refine wG_n rfl rfl ?_
    | refine wG_u rfl rfl ?_
    | refine wG_new (o_mks rfl rfl (by omega) (by decide)) ?_)
        have d3 : decide (idx r x = idx r y) = true := decide_eq_true (Classical.byContradiction fun h => hC ⟨hG, q1, q2, h⟩)
        simp only [d3]
        repeat (first
    | refine wC_a rfl ?_
    | refine q_s rfl ?_
    | refine q_b rfl ?_
    | refine wG_nil ?_
    | refine wG_g rfl ?_
    | refine wG_pure (o_len_vwm rfl) ?_
    | refine wG_pure (o_not_d rfl) ?_
    | refine wG_p rfl (by first | exact rfl | omega) ?_
    | refine wG_pure (o_str2 rfl rfl rfl) ?_
    | refine wG_pure (e_istr rfl rfl (by omega)) ?_
    | refine wG_pure (e_istr0 rfl rfl (by omega)) ?_
    | refine wG_pure (o_not rfl) ?_
    | refine wG_pure (e_ia_vw0 rfl rfl (by omega) rfl) ?_
    | refine wG_pure (e_ia_vwp rfl rfl (by omega) rfl) ?_
    | refine wG_pure (e_ia_vwm rfl rfl (by omega) (by omega) rfl) ?_
    | refine wG_pure (e_ia_vwi rfl rfl (by omega) rfl) ?_
    | refine wG_pure (e_ia_vwn rfl rfl (by omega) (by omega) rfl) ?_
    | refine wG_n rfl rfl ?_
    | refine wG_u rfl rfl ?_
    | refine wG_new (o_mks rfl rfl (by omega) (by decide)) ?_)
        exact ret_pl (.inr rfl) (retVs_2 (retV_mv rfl) (retV_mv rfl)) rfl rfl (by simp)
      · have d2 : decide (idx r y < 0) = true := decide_eq_true (by omega)
        simp only [d2]
        repeat (first
    | refine wC_a rfl ?_
    | refine q_s rfl ?_
    | refine q_b rfl ?_
    | refine wG_nil ?_
    | refine wG_g rfl ?_
    | refine wG_pure (o_len_vwm rfl) ?_
    | refine wG_pure (o_not_d rfl) ?_
    | refine wG_p rfl (by first | exact rfl | omega) ?_
    | refine wG_pure (o_str2 rfl rfl rfl) ?_
    | refine wG_pure (e_istr rfl rfl (by omega)) ?_
    | refine wG_pure (e_istr0 rfl rfl (by omega)) ?_
    | refine wG_pure (o_not rfl) ?_
    | refine wG_pure (e_ia_vw0 rfl rfl (by omega) rfl) ?_
    | refine wG_pure (e_ia_vwp rfl rfl (by omega) rfl) ?_
    | refine wG_pure (e_ia_vwm rfl rfl (by omega) (by omega) rfl) ?_
    | refine wG_pure (e_ia_vwi rfl rfl (by omega) rfl) ?_
    | refine wG_pure (e_ia_vwn rfl rfl (by omega) (by omega) rfl) ?_
    | refine wG_n rfl rfl ?_
    | refine wG_u rfl rfl ?_
    | refine wG_new (o_mks rfl rfl (by omega) (by decide)) ?_)
        exact ret_pl (.inr rfl) (retVs_2 (retV_mv rfl) (retV_mv rfl)) rfl rfl (by simp)
    · have d1 : decide (idx r x < 0) = true := decide_eq_true (by omega)
      simp only [d1]
      repeat (first
    | refine wC_a rfl ?_
    | refine q_s rfl ?_
    | refine q_b rfl ?_
    | refine wG_nil ?_
    | refine wG_g rfl ?_
    | refine wG_pure (o_len_vwm rfl) ?_
    | refine wG_pure (o_not_d rfl) ?_
    | refine wG_p rfl (by first | exact rfl | omega) ?_
    | refine wG_pure (o_str2 rfl rfl rfl) ?_
    | refine wG_pure (e_istr rfl rfl (by omega)) ?_
    | refine wG_pure (e_istr0 rfl rfl (by omega)) ?_
    | refine wG_pure (o_not rfl) ?_
    | refine wG_pure (e_ia_vw0 rfl rfl (by omega) rfl) ?_
    | refine wG_pure (e_ia_vwp rfl rfl (by omega) rfl) ?_
    | refine wG_pure (e_ia_vwm rfl rfl (by omega) (by omega) rfl) ?_
    | refine wG_pure (e_ia_vwi rfl rfl (by omega) rfl) ?_
    | refine wG_pure (e_ia_vwn rfl rfl (by omega) (by omega) rfl) ?_
    | refine wG_n rfl rfl ?_
    | refine wG_u rfl rfl ?_
    | refine wG_new (o_mks rfl rfl (by omega) (by decide)) ?_)
      exact ret_pl (.inr rfl) (retVs_2 (retV_mv rfl) (retV_mv rfl)) rfl rfl (by simp)
  · rw [decide_eq_false hG] at c1
    repeat (first | refine wG_call cx rfl rfl ?_ | refine wG_call cy rfl rfl ?_ | refine wG_call c1 rfl rfl ?_ | (first
    | refine wC_a rfl ?_
    | refine q_s rfl ?_
    | refine q_b rfl ?_
    | refine wG_nil ?_
    | refine wG_g rfl ?_
    | refine wG_pure (o_len_vwm rfl) ?_
    | refine wG_pure (o_not_d rfl) ?_
    | refine wG_p rfl (by first | exact rfl | omega) ?_
    | refine wG_pure (o_str2 rfl rfl rfl) ?_
    | refine wG_pure (e_istr rfl rfl (by omega)) ?_
    | refine wG_pure (e_istr0 rfl rfl (by omega)) ?_
    | refine wG_pure (o_not rfl) ?_
    | refine wG_pure (e_ia_vw0 rfl rfl (by omega) rfl) ?_
    | refine wG_pure (e_ia_vwp rfl rfl (by omega) rfl) ?_
    | refine wG_pure (e_ia_vwm rfl rfl (by omega) (by omega) rfl) ?_
    | refine wG_pure (e_ia_vwi rfl rfl (by omega) rfl) ?_
    | refine wG_pure (e_ia_vwn rfl rfl (by omega) (by omega) rfl) ?_
    | refine wG_n rfl rfl ?_
    | refine wG_u rfl rfl ?_
    | refine wG_new (o_mks rfl rfl (by omega) (by decide)) ?_))
    exact ret_pl (.inr rfl) (retVs_2 (retV_mv rfl) (retV_mv rfl)) rfl rfl (by simp)
theorem con20_yes (a b : Bool) (r : Rc) (x y : Int) (h1 : r.cs.length ≤ 1048576) (h2 : r.xs.length ≤ 1048576) (hC : GoodC r) {i k : Nat} (hi : idx r x = i) (hk : idx r y = k) (hik : i ≠ k) : Con Try.prog 20 true [.agg (rRow a b r), .int .i64 x, .int .i64 y] (.tup [.int .i64 ((sumTo (addM r.cs.length (later r) i k) (2 ^ r.cs.length) : Nat) : Int), .bool true]) [] := by
  refine con_of_wp mixed fun20 (by simp) [] plain_nil ?_
  unfold ac20 ro20
  simp only [zipT]
  have h10 := hC.1.1
  have cx := con50 a b r x (by omega)
  have cy := con50 a b r y (by omega)
  have bx := idx_b r x
  have bY := idx_b r y
  have hxy : x ≠ y := fun e => by subst e; omega
  rw [hi] at cx bx
  rw [hk] at cy bY
  have e0 : ∀ n : Nat, 0 + ((n : Int)).toNat = n := fun n => by simp
  have hi2 : i < r.cs.length := by omega
  have hk2 : k < r.cs.length := by omega
  have d1 : decide ((i : Int) < 0) = false := decide_eq_false (by omega)
  have d2 : decide ((k : Int) < 0) = false := decide_eq_false (by omega)
  have d3 : decide (x = y) = false := decide_eq_false hxy
  obtain ⟨p, hp⟩ : ∃ p, 2 ^ r.cs.length = p := ⟨_, rfl⟩
  have hp1 : p ≤ 1024 := by rw [← hp]; exact Nat.pow_le_pow_right (by decide) h10
  have hnl : (nums r r.cs.length).length = r.cs.length := nums_len (Nat.le_refl _)
  have hgc := gH_c (a := a) (b := b) (r := r)
  rw [hp] at hgc ⊢
  repeat (first
    | refine wC_a rfl ?_
    | refine q_s rfl ?_
    | refine q_b rfl ?_
    | refine wG_nil ?_
    | refine wG_g rfl ?_
    | refine wG_pure (o_len_vwm rfl) ?_
    | refine wG_pure (o_not_d rfl) ?_
    | refine wG_p rfl (by first | exact rfl | omega) ?_
    | refine wG_pure (o_str2 rfl rfl rfl) ?_
    | refine wG_pure (e_istr rfl rfl (by omega)) ?_
    | refine wG_pure (e_istr0 rfl rfl (by omega)) ?_
    | refine wG_pure (o_not rfl) ?_
    | refine wG_pure (e_ia_vw0 rfl rfl (by omega) rfl) ?_
    | refine wG_pure (e_ia_vwp rfl rfl (by omega) rfl) ?_
    | refine wG_pure (e_ia_vwm rfl rfl (by omega) (by omega) rfl) ?_
    | refine wG_pure (e_ia_vwi rfl rfl (by omega) rfl) ?_
    | refine wG_pure (e_ia_vwn rfl rfl (by omega) (by omega) rfl) ?_
    | refine wG_n rfl rfl ?_
    | refine wG_u rfl rfl ?_
    | refine wG_new (o_mks rfl rfl (by omega) (by decide)) ?_)
  refine wG_callG (v' := .tup [.pt (1 + ((oO r).length + 2)) 0 0, .bool true]) (con45_yes a b r h1 h2 hC) rfl rfl rfl ?_
  change wpG _ _ _ ⟨_, gH a b r, _⟩ _
  repeat (first | refine wG_pure (o_ldt_pt rfl gH_0 rfl rfl rfl) ?_ | refine wG_call cx rfl rfl ?_ | refine wG_call cy rfl rfl ?_ | (first
    | refine wC_a rfl ?_
    | refine q_s rfl ?_
    | refine q_b rfl ?_
    | refine wG_nil ?_
    | refine wG_g rfl ?_
    | refine wG_pure (o_len_vwm rfl) ?_
    | refine wG_pure (o_not_d rfl) ?_
    | refine wG_p rfl (by first | exact rfl | omega) ?_
    | refine wG_pure (o_str2 rfl rfl rfl) ?_
    | refine wG_pure (e_istr rfl rfl (by omega)) ?_
    | refine wG_pure (e_istr0 rfl rfl (by omega)) ?_
    | refine wG_pure (o_not rfl) ?_
    | refine wG_pure (e_ia_vw0 rfl rfl (by omega) rfl) ?_
    | refine wG_pure (e_ia_vwp rfl rfl (by omega) rfl) ?_
    | refine wG_pure (e_ia_vwm rfl rfl (by omega) (by omega) rfl) ?_
    | refine wG_pure (e_ia_vwi rfl rfl (by omega) rfl) ?_
    | refine wG_pure (e_ia_vwn rfl rfl (by omega) (by omega) rfl) ?_
    | refine wG_n rfl rfl ?_
    | refine wG_u rfl rfl ?_
    | refine wG_new (o_mks rfl rfl (by omega) (by decide)) ?_))
  simp only [d1]
  repeat (first | refine wG_pure (o_ldt_pt rfl gH_0 rfl rfl rfl) ?_ | refine wG_call cx rfl rfl ?_ | refine wG_call cy rfl rfl ?_ | (first
    | refine wC_a rfl ?_
    | refine q_s rfl ?_
    | refine q_b rfl ?_
    | refine wG_nil ?_
    | refine wG_g rfl ?_
    | refine wG_pure (o_len_vwm rfl) ?_
    | refine wG_pure (o_not_d rfl) ?_
    | refine wG_p rfl (by first | exact rfl | omega) ?_
    | refine wG_pure (o_str2 rfl rfl rfl) ?_
    | refine wG_pure (e_istr rfl rfl (by omega)) ?_
    | refine wG_pure (e_istr0 rfl rfl (by omega)) ?_
    | refine wG_pure (o_not rfl) ?_
    | refine wG_pure (e_ia_vw0 rfl rfl (by omega) rfl) ?_
    | refine wG_pure (e_ia_vwp rfl rfl (by omega) rfl) ?_
    | refine wG_pure (e_ia_vwm rfl rfl (by omega) (by omega) rfl) ?_
    | refine wG_pure (e_ia_vwi rfl rfl (by omega) rfl) ?_
    | refine wG_pure (e_ia_vwn rfl rfl (by omega) (by omega) rfl) ?_
    | refine wG_n rfl rfl ?_
    | refine wG_u rfl rfl ?_
    | refine wG_new (o_mks rfl rfl (by omega) (by decide)) ?_))
  simp only [d2]
  repeat (first
    | refine wC_a rfl ?_
    | refine q_s rfl ?_
    | refine q_b rfl ?_
    | refine wG_nil ?_
    | refine wG_g rfl ?_
    | refine wG_pure (o_len_vwm rfl) ?_
    | refine wG_pure (o_not_d rfl) ?_
    | refine wG_p rfl (by first | exact rfl | omega) ?_
    | refine wG_pure (o_str2 rfl rfl rfl) ?_
    | refine wG_pure (e_istr rfl rfl (by omega)) ?_
    | refine wG_pure (e_istr0 rfl rfl (by omega)) ?_
    | refine wG_pure (o_not rfl) ?_
    | refine wG_pure (e_ia_vw0 rfl rfl (by omega) rfl) ?_
    | refine wG_pure (e_ia_vwp rfl rfl (by omega) rfl) ?_
    | refine wG_pure (e_ia_vwm rfl rfl (by omega) (by omega) rfl) ?_
    | refine wG_pure (e_ia_vwi rfl rfl (by omega) rfl) ?_
    | refine wG_pure (e_ia_vwn rfl rfl (by omega) (by omega) rfl) ?_
    | refine wG_n rfl rfl ?_
    | refine wG_u rfl rfl ?_
    | refine wG_new (o_mks rfl rfl (by omega) (by decide)) ?_)
  simp only [d3]
  repeat (first | refine wG_pure (o_ldt_pt rfl gH_0 rfl rfl rfl) ?_ | refine wG_call cx rfl rfl ?_ | refine wG_call cy rfl rfl ?_ | refine wG_pure (o_ldf_pt rfl hgc rfl rfl) ?_ | (first
    | refine wC_a rfl ?_
    | refine q_s rfl ?_
    | refine q_b rfl ?_
    | refine wG_nil ?_
    | refine wG_g rfl ?_
    | refine wG_pure (o_len_vwm rfl) ?_
    | refine wG_pure (o_not_d rfl) ?_
    | refine wG_p rfl (by first | exact rfl | omega) ?_
    | refine wG_pure (o_str2 rfl rfl rfl) ?_
    | refine wG_pure (e_istr rfl rfl (by omega)) ?_
    | refine wG_pure (e_istr0 rfl rfl (by omega)) ?_
    | refine wG_pure (o_not rfl) ?_
    | refine wG_pure (e_ia_vw0 rfl rfl (by omega) rfl) ?_
    | refine wG_pure (e_ia_vwp rfl rfl (by omega) rfl) ?_
    | refine wG_pure (e_ia_vwm rfl rfl (by omega) (by omega) rfl) ?_
    | refine wG_pure (e_ia_vwi rfl rfl (by omega) rfl) ?_
    | refine wG_pure (e_ia_vwn rfl rfl (by omega) (by omega) rfl) ?_
    | refine wG_n rfl rfl ?_
    | refine wG_u rfl rfl ?_
    | refine wG_new (o_mks rfl rfl (by omega) (by decide)) ?_))
  refine wC_loopX Nat (fun s => ⟨[(8, .pt (1 + ((oO r).length + 2)) 0 0), (10, .int .i64 (i : Int)), (11, .int .i64 (k : Int)), (12, .int .i64 ((sumTo (addM r.cs.length (later r) i k) s : Nat) : Int)), (48, .sl (1 + (oO r).length) 1 0 p), (49, .int .i64 (p : Int)), (50, .int .i64 (s : Int))], gH a b r, 0 + 1 + (cgO r).length⟩) (fun s => s ≤ p) (fun s => p - s) 0 (Nat.zero_le _) ?_ ?_
  · have hl := cgO_len r
    exact .inl (Le_of ⟨⟨rfl, by simp [AV.ltr]; omega⟩, ⟨rfl, rfl⟩, ⟨rfl, rfl⟩, ⟨rfl, rfl⟩, ⟨rfl, by simp [AV.ltr]; omega⟩, ⟨rfl, rfl⟩, ⟨rfl, rfl⟩, trivial⟩ (fun q rows hq => hq) (gH_wf a b r))
  intro s hs
  repeat (first
    | refine wC_a rfl ?_
    | refine q_s rfl ?_
    | refine q_b rfl ?_
    | refine wG_nil ?_
    | refine wG_g rfl ?_
    | refine wG_pure (o_len_vwm rfl) ?_
    | refine wG_pure (o_not_d rfl) ?_
    | refine wG_p rfl (by first | exact rfl | omega) ?_
    | refine wG_pure (o_str2 rfl rfl rfl) ?_
    | refine wG_pure (e_istr rfl rfl (by omega)) ?_
    | refine wG_pure (e_istr0 rfl rfl (by omega)) ?_
    | refine wG_pure (o_not rfl) ?_
    | refine wG_pure (e_ia_vw0 rfl rfl (by omega) rfl) ?_
    | refine wG_pure (e_ia_vwp rfl rfl (by omega) rfl) ?_
    | refine wG_pure (e_ia_vwm rfl rfl (by omega) (by omega) rfl) ?_
    | refine wG_pure (e_ia_vwi rfl rfl (by omega) rfl) ?_
    | refine wG_pure (e_ia_vwn rfl rfl (by omega) (by omega) rfl) ?_
    | refine wG_n rfl rfl ?_
    | refine wG_u rfl rfl ?_
    | refine wG_new (o_mks rfl rfl (by omega) (by decide)) ?_)
  refine wC_cond_d rfl (fun h4 => ?_) (fun h4 => ?_)
  · have hl := cgO_len r
    have hs2 : s < p := by omega
    have hs3 : s < 2 ^ r.cs.length := by omega
    have gB := befL_get (W := later r) hs3
    have hsh : s >>> k ≤ 1024 := by rw [Nat.shiftRight_eq_div_pow]; exact Nat.le_trans (Nat.div_le_self _ _) (by omega)
    have hup : sumTo (addM r.cs.length (later r) i k) (s + 1) = sumTo (addM r.cs.length (later r) i k) s + addM r.cs.length (later r) i k s := rfl
    have bsum := addM_sum (W := later r) (k := k) h10 hi2 s (by omega)
    repeat (first | (refine wG_pure (e_ia_sl rfl rfl (by omega) (by omega)) ?_; simp only [e0]) | refine wG_pure (o_ldf_pt rfl gH_b gB rfl) ?_ | refine wG_pure (o_shr rfl rfl (by omega)) ?_ | refine wG_pure (o_and (b := 1) rfl rfl (by omega) (by decide)) ?_ | (first
    | refine wC_a rfl ?_
    | refine q_s rfl ?_
    | refine q_b rfl ?_
    | refine wG_nil ?_
    | refine wG_g rfl ?_
    | refine wG_pure (o_len_vwm rfl) ?_
    | refine wG_pure (o_not_d rfl) ?_
    | refine wG_p rfl (by first | exact rfl | omega) ?_
    | refine wG_pure (o_str2 rfl rfl rfl) ?_
    | refine wG_pure (e_istr rfl rfl (by omega)) ?_
    | refine wG_pure (e_istr0 rfl rfl (by omega)) ?_
    | refine wG_pure (o_not rfl) ?_
    | refine wG_pure (e_ia_vw0 rfl rfl (by omega) rfl) ?_
    | refine wG_pure (e_ia_vwp rfl rfl (by omega) rfl) ?_
    | refine wG_pure (e_ia_vwm rfl rfl (by omega) (by omega) rfl) ?_
    | refine wG_pure (e_ia_vwi rfl rfl (by omega) rfl) ?_
    | refine wG_pure (e_ia_vwn rfl rfl (by omega) (by omega) rfl) ?_
    | refine wG_n rfl rfl ?_
    | refine wG_u rfl rfl ?_
    | refine wG_new (o_mks rfl rfl (by omega) (by decide)) ?_))
    cases hb : s.testBit k with
    | true =>
      have hd : decide (((s >>> k &&& 1 : Nat) : Int) = 0) = false := decide_eq_false fun h => by rw [(bit_iff0 s k).1 h] at hb; cases hb
      have hz : addM r.cs.length (later r) i k s = 0 := if_neg fun h => by rw [h.1] at hb; cases hb
      rw [hz, Nat.add_zero] at hup
      simp only [hd]
      repeat (first
    | refine wC_a rfl ?_
    | refine q_s rfl ?_
    | refine q_b rfl ?_
    | refine wG_nil ?_
    | refine wG_g rfl ?_
    | refine wG_pure (o_len_vwm rfl) ?_
    | refine wG_pure (o_not_d rfl) ?_
    | refine wG_p rfl (by first | exact rfl | omega) ?_
    | refine wG_pure (o_str2 rfl rfl rfl) ?_
    | refine wG_pure (e_istr rfl rfl (by omega)) ?_
    | refine wG_pure (e_istr0 rfl rfl (by omega)) ?_
    | refine wG_pure (o_not rfl) ?_
    | refine wG_pure (e_ia_vw0 rfl rfl (by omega) rfl) ?_
    | refine wG_pure (e_ia_vwp rfl rfl (by omega) rfl) ?_
    | refine wG_pure (e_ia_vwm rfl rfl (by omega) (by omega) rfl) ?_
    | refine wG_pure (e_ia_vwi rfl rfl (by omega) rfl) ?_
    | refine wG_pure (e_ia_vwn rfl rfl (by omega) (by omega) rfl) ?_
    | refine wG_n rfl rfl ?_
    | refine wG_u rfl rfl ?_
    | refine wG_new (o_mks rfl rfl (by omega) (by decide)) ?_)
      refine ⟨s + 1, hs2, by omega, .inl (Le_of ⟨⟨rfl, by simp [AV.ltr]; omega⟩, ⟨rfl, rfl⟩, ⟨rfl, rfl⟩, ⟨?_, rfl⟩, ⟨rfl, by simp [AV.ltr]; omega⟩, ⟨rfl, rfl⟩, ⟨rfl, rfl⟩, trivial⟩ (fun q rows hq => hq) (gH_wf a b r))⟩
      rw [hup]; rfl
    | false =>
      have hd : decide (((s >>> k &&& 1 : Nat) : Int) = 0) = true := decide_eq_true ((bit_iff0 s k).2 hb)
      simp only [hd]
      have cF := con51 (nums r r.cs.length) (later r) (lk0 r r.xs.length) hnl h10 (show s < 1024 by omega) hi2
      by_cases hr : rdy r.cs.length (later r) s i
      · rw [decide_eq_true hr] at cF
        have hz : addM r.cs.length (later r) i k s = bef r.cs.length (later r) s * cnt r.cs.length (later r) (s ||| 2 ^ i) := if_pos ⟨hb, hr⟩
        rw [hz] at hup
        have hpi := p10 hi2 h10
        have hor := or_lt hs3 hi2
        have hor2 : s ||| 2 ^ i < p := by omega
        have gC := cntL_get (W := later r) hor
        have bpr := prod_b (W := later r) h10 hs3 hr.1 hi2
        have e3 : ((bef r.cs.length (later r) s : Nat) : Int) * ((cnt r.cs.length (later r) (s ||| 2 ^ i) : Nat) : Int) = ((bef r.cs.length (later r) s * cnt r.cs.length (later r) (s ||| 2 ^ i) : Nat) : Int) := (Int.natCast_mul _ _).symm
        repeat (first | refine wG_pure (o_ldf_pt rfl hgc rfl rfl) ?_ | refine wG_call cF (ag_any drgo (ag_int rfl (ag_int rfl ag_nil))) rfl ?_ | refine wG_pure (o_shl1 rfl rfl (by omega)) ?_ | refine wG_pure (o_or rfl rfl (by omega) (by omega)) ?_ | (refine wG_pure (e_ia_sl rfl rfl (by omega) (by omega)) ?_; simp only [e0]) | refine wG_pure (o_ldf_pt rfl gH_h gC rfl) ?_ | refine wG_p rfl (by rw [e3]; omega) ?_ | (first
    | refine wC_a rfl ?_
    | refine q_s rfl ?_
    | refine q_b rfl ?_
    | refine wG_nil ?_
    | refine wG_g rfl ?_
    | refine wG_pure (o_len_vwm rfl) ?_
    | refine wG_pure (o_not_d rfl) ?_
    | refine wG_p rfl (by first | exact rfl | omega) ?_
    | refine wG_pure (o_str2 rfl rfl rfl) ?_
    | refine wG_pure (e_istr rfl rfl (by omega)) ?_
    | refine wG_pure (e_istr0 rfl rfl (by omega)) ?_
    | refine wG_pure (o_not rfl) ?_
    | refine wG_pure (e_ia_vw0 rfl rfl (by omega) rfl) ?_
    | refine wG_pure (e_ia_vwp rfl rfl (by omega) rfl) ?_
    | refine wG_pure (e_ia_vwm rfl rfl (by omega) (by omega) rfl) ?_
    | refine wG_pure (e_ia_vwi rfl rfl (by omega) rfl) ?_
    | refine wG_pure (e_ia_vwn rfl rfl (by omega) (by omega) rfl) ?_
    | refine wG_n rfl rfl ?_
    | refine wG_u rfl rfl ?_
    | refine wG_new (o_mks rfl rfl (by omega) (by decide)) ?_))
        refine ⟨s + 1, hs2, by omega, .inl (Le_of ⟨⟨rfl, by simp [AV.ltr]; omega⟩, ⟨rfl, rfl⟩, ⟨rfl, rfl⟩, ⟨?_, rfl⟩, ⟨rfl, by simp [AV.ltr]; omega⟩, ⟨rfl, rfl⟩, ⟨rfl, rfl⟩, trivial⟩ (fun q rows hq => hq) (gH_wf a b r))⟩
        rw [hup]; rfl
      · rw [decide_eq_false hr] at cF
        have hz : addM r.cs.length (later r) i k s = 0 := if_neg fun h => hr h.2
        rw [hz, Nat.add_zero] at hup
        repeat (first | refine wG_pure (o_ldf_pt rfl hgc rfl rfl) ?_ | refine wG_call cF (ag_any drgo (ag_int rfl (ag_int rfl ag_nil))) rfl ?_ | (first
    | refine wC_a rfl ?_
    | refine q_s rfl ?_
    | refine q_b rfl ?_
    | refine wG_nil ?_
    | refine wG_g rfl ?_
    | refine wG_pure (o_len_vwm rfl) ?_
    | refine wG_pure (o_not_d rfl) ?_
    | refine wG_p rfl (by first | exact rfl | omega) ?_
    | refine wG_pure (o_str2 rfl rfl rfl) ?_
    | refine wG_pure (e_istr rfl rfl (by omega)) ?_
    | refine wG_pure (e_istr0 rfl rfl (by omega)) ?_
    | refine wG_pure (o_not rfl) ?_
    | refine wG_pure (e_ia_vw0 rfl rfl (by omega) rfl) ?_
    | refine wG_pure (e_ia_vwp rfl rfl (by omega) rfl) ?_
    | refine wG_pure (e_ia_vwm rfl rfl (by omega) (by omega) rfl) ?_
    | refine wG_pure (e_ia_vwi rfl rfl (by omega) rfl) ?_
    | refine wG_pure (e_ia_vwn rfl rfl (by omega) (by omega) rfl) ?_
    | refine wG_n rfl rfl ?_
    | refine wG_u rfl rfl ?_
    | refine wG_new (o_mks rfl rfl (by omega) (by decide)) ?_))
        refine ⟨s + 1, hs2, by omega, .inl (Le_of ⟨⟨rfl, by simp [AV.ltr]; omega⟩, ⟨rfl, rfl⟩, ⟨rfl, rfl⟩, ⟨?_, rfl⟩, ⟨rfl, by simp [AV.ltr]; omega⟩, ⟨rfl, rfl⟩, ⟨rfl, rfl⟩, trivial⟩ (fun q rows hq => hq) (gH_wf a b r))⟩
        rw [hup]; rfl
  · have hs3 : s = p := by omega
    subst hs3
    repeat (first
    | refine wC_a rfl ?_
    | refine q_s rfl ?_
    | refine q_b rfl ?_
    | refine wG_nil ?_
    | refine wG_g rfl ?_
    | refine wG_pure (o_len_vwm rfl) ?_
    | refine wG_pure (o_not_d rfl) ?_
    | refine wG_p rfl (by first | exact rfl | omega) ?_
    | refine wG_pure (o_str2 rfl rfl rfl) ?_
    | refine wG_pure (e_istr rfl rfl (by omega)) ?_
    | refine wG_pure (e_istr0 rfl rfl (by omega)) ?_
    | refine wG_pure (o_not rfl) ?_
    | refine wG_pure (e_ia_vw0 rfl rfl (by omega) rfl) ?_
    | refine wG_pure (e_ia_vwp rfl rfl (by omega) rfl) ?_
    | refine wG_pure (e_ia_vwm rfl rfl (by omega) (by omega) rfl) ?_
    | refine wG_pure (e_ia_vwi rfl rfl (by omega) rfl) ?_
    | refine wG_pure (e_ia_vwn rfl rfl (by omega) (by omega) rfl) ?_
    | refine wG_n rfl rfl ?_
    | refine wG_u rfl rfl ?_
    | refine wG_new (o_mks rfl rfl (by omega) (by decide)) ?_)
    exact ret_pl (.inr rfl) (retVs_2 (retV_mv rfl) (retV_mv rfl)) rfl rfl (by simp)
theorem con20_no (a b : Bool) (r : Rc) (x y : Int) (h1 : r.cs.length ≤ 1048576) (h2 : r.xs.length ≤ 1048576) (hC : ¬ okB r x y) : Con Try.prog 20 true [.agg (rRow a b r), .int .i64 x, .int .i64 y] (.tup [.int .i64 0, .bool false]) [] := by
  refine con_of_wp mixed fun20 (by simp) [] plain_nil ?_
  unfold ac20 ro20
  simp only [zipT]
  have cx := con50 a b r x (by omega)
  have cy := con50 a b r y (by omega)
  by_cases hG : GoodC r
  · repeat (first
    | refine wC_a rfl ?_
    | refine q_s rfl ?_
    | refine q_b rfl ?_
    | refine wG_nil ?_
    | refine wG_g rfl ?_
    | refine wG_pure (o_len_vwm rfl) ?_
    | refine wG_pure (o_not_d rfl) ?_
    | refine wG_p rfl (by first | exact rfl | omega) ?_
    | refine wG_pure (o_str2 rfl rfl rfl) ?_
    | refine wG_pure (e_istr rfl rfl (by omega)) ?_
    | refine wG_pure (e_istr0 rfl rfl (by omega)) ?_
    | refine wG_pure (o_not rfl) ?_
    | refine wG_pure (e_ia_vw0 rfl rfl (by omega) rfl) ?_
    | refine wG_pure (e_ia_vwp rfl rfl (by omega) rfl) ?_
    | refine wG_pure (e_ia_vwm rfl rfl (by omega) (by omega) rfl) ?_
    | refine wG_pure (e_ia_vwi rfl rfl (by omega) rfl) ?_
    | refine wG_pure (e_ia_vwn rfl rfl (by omega) (by omega) rfl) ?_
    | refine wG_n rfl rfl ?_
    | refine wG_u rfl rfl ?_
    | refine wG_new (o_mks rfl rfl (by omega) (by decide)) ?_)
    refine wG_callG (v' := .tup [.pt (1 + ((oO r).length + 2)) 0 0, .bool true]) (con45_yes a b r h1 h2 hG) rfl rfl rfl ?_
    change wpG _ _ _ ⟨_, gH a b r, _⟩ _
    repeat (first | refine wG_pure (o_ldt_pt rfl gH_0 rfl rfl rfl) ?_ | refine wG_call cx rfl rfl ?_ | refine wG_call cy rfl rfl ?_ | (first
    | refine wC_a rfl ?_
    | refine q_s rfl ?_
    | refine q_b rfl ?_
    | refine wG_nil ?_
    | refine wG_g rfl ?_
    | refine wG_pure (o_len_vwm rfl) ?_
    | refine wG_pure (o_not_d rfl) ?_
    | refine wG_p rfl (by first | exact rfl | omega) ?_
    | refine wG_pure (o_str2 rfl rfl rfl) ?_
    | refine wG_pure (e_istr rfl rfl (by omega)) ?_
    | refine wG_pure (e_istr0 rfl rfl (by omega)) ?_
    | refine wG_pure (o_not rfl) ?_
    | refine wG_pure (e_ia_vw0 rfl rfl (by omega) rfl) ?_
    | refine wG_pure (e_ia_vwp rfl rfl (by omega) rfl) ?_
    | refine wG_pure (e_ia_vwm rfl rfl (by omega) (by omega) rfl) ?_
    | refine wG_pure (e_ia_vwi rfl rfl (by omega) rfl) ?_
    | refine wG_pure (e_ia_vwn rfl rfl (by omega) (by omega) rfl) ?_
    | refine wG_n rfl rfl ?_
    | refine wG_u rfl rfl ?_
    | refine wG_new (o_mks rfl rfl (by omega) (by decide)) ?_))
    by_cases q1 : 0 ≤ idx r x
    · have d1 : decide (idx r x < 0) = false := decide_eq_false (by omega)
      simp only [d1]
      repeat (first | refine wG_pure (o_ldt_pt rfl gH_0 rfl rfl rfl) ?_ | refine wG_call cx rfl rfl ?_ | refine wG_call cy rfl rfl ?_ | (first
    | refine wC_a rfl ?_
    | refine q_s rfl ?_
    | refine q_b rfl ?_
    | refine wG_nil ?_
    | refine wG_g rfl ?_
    | refine wG_pure (o_len_vwm rfl) ?_
    | refine wG_pure (o_not_d rfl) ?_
    | refine wG_p rfl (by first | exact rfl | omega) ?_
    | refine wG_pure (o_str2 rfl rfl rfl) ?_
    | refine wG_pure (e_istr rfl rfl (by omega)) ?_
    | refine wG_pure (e_istr0 rfl rfl (by omega)) ?_
    | refine wG_pure (o_not rfl) ?_
    | refine wG_pure (e_ia_vw0 rfl rfl (by omega) rfl) ?_
    | refine wG_pure (e_ia_vwp rfl rfl (by omega) rfl) ?_
    | refine wG_pure (e_ia_vwm rfl rfl (by omega) (by omega) rfl) ?_
    | refine wG_pure (e_ia_vwi rfl rfl (by omega) rfl) ?_
    | refine wG_pure (e_ia_vwn rfl rfl (by omega) (by omega) rfl) ?_
    | refine wG_n rfl rfl ?_
    | refine wG_u rfl rfl ?_
    | refine wG_new (o_mks rfl rfl (by omega) (by decide)) ?_))
      by_cases q2 : 0 ≤ idx r y
      · have d2 : decide (idx r y < 0) = false := decide_eq_false (by omega)
        simp only [d2]
        repeat (first
    | refine wC_a rfl ?_
    | refine q_s rfl ?_
    | refine q_b rfl ?_
    | refine wG_nil ?_
    | refine wG_g rfl ?_
    | refine wG_pure (o_len_vwm rfl) ?_
    | refine wG_pure (o_not_d rfl) ?_
    | refine wG_p rfl (by first | exact rfl | omega) ?_
    | refine wG_pure (o_str2 rfl rfl rfl) ?_
    | refine wG_pure (e_istr rfl rfl (by omega)) ?_
    | refine wG_pure (e_istr0 rfl rfl (by omega)) ?_
    | refine wG_pure (o_not rfl) ?_
    | refine wG_pure (e_ia_vw0 rfl rfl (by omega) rfl) ?_
    | refine wG_pure (e_ia_vwp rfl rfl (by omega) rfl) ?_
    | refine wG_pure (e_ia_vwm rfl rfl (by omega) (by omega) rfl) ?_
    | refine wG_pure (e_ia_vwi rfl rfl (by omega) rfl) ?_
    | refine wG_pure (e_ia_vwn rfl rfl (by omega) (by omega) rfl) ?_
    | refine wG_n rfl rfl ?_
    | refine wG_u rfl rfl ?_
    | refine wG_new (o_mks rfl rfl (by omega) (by decide)) ?_)
        have d3 : decide (x = y) = true := decide_eq_true (idx_inj q1 (Classical.byContradiction fun h => hC ⟨hG, q1, q2, h⟩))
        simp only [d3]
        repeat (first
    | refine wC_a rfl ?_
    | refine q_s rfl ?_
    | refine q_b rfl ?_
    | refine wG_nil ?_
    | refine wG_g rfl ?_
    | refine wG_pure (o_len_vwm rfl) ?_
    | refine wG_pure (o_not_d rfl) ?_
    | refine wG_p rfl (by first | exact rfl | omega) ?_
    | refine wG_pure (o_str2 rfl rfl rfl) ?_
    | refine wG_pure (e_istr rfl rfl (by omega)) ?_
    | refine wG_pure (e_istr0 rfl rfl (by omega)) ?_
    | refine wG_pure (o_not rfl) ?_
    | refine wG_pure (e_ia_vw0 rfl rfl (by omega) rfl) ?_
    | refine wG_pure (e_ia_vwp rfl rfl (by omega) rfl) ?_
    | refine wG_pure (e_ia_vwm rfl rfl (by omega) (by omega) rfl) ?_
    | refine wG_pure (e_ia_vwi rfl rfl (by omega) rfl) ?_
    | refine wG_pure (e_ia_vwn rfl rfl (by omega) (by omega) rfl) ?_
    | refine wG_n rfl rfl ?_
    | refine wG_u rfl rfl ?_
    | refine wG_new (o_mks rfl rfl (by omega) (by decide)) ?_)
        exact ret_pl (.inr rfl) (retVs_2 (retV_mv rfl) (retV_mv rfl)) rfl rfl (by simp)
      · have d2 : decide (idx r y < 0) = true := decide_eq_true (by omega)
        simp only [d2]
        repeat (first
    | refine wC_a rfl ?_
    | refine q_s rfl ?_
    | refine q_b rfl ?_
    | refine wG_nil ?_
    | refine wG_g rfl ?_
    | refine wG_pure (o_len_vwm rfl) ?_
    | refine wG_pure (o_not_d rfl) ?_
    | refine wG_p rfl (by first | exact rfl | omega) ?_
    | refine wG_pure (o_str2 rfl rfl rfl) ?_
    | refine wG_pure (e_istr rfl rfl (by omega)) ?_
    | refine wG_pure (e_istr0 rfl rfl (by omega)) ?_
    | refine wG_pure (o_not rfl) ?_
    | refine wG_pure (e_ia_vw0 rfl rfl (by omega) rfl) ?_
    | refine wG_pure (e_ia_vwp rfl rfl (by omega) rfl) ?_
    | refine wG_pure (e_ia_vwm rfl rfl (by omega) (by omega) rfl) ?_
    | refine wG_pure (e_ia_vwi rfl rfl (by omega) rfl) ?_
    | refine wG_pure (e_ia_vwn rfl rfl (by omega) (by omega) rfl) ?_
    | refine wG_n rfl rfl ?_
    | refine wG_u rfl rfl ?_
    | refine wG_new (o_mks rfl rfl (by omega) (by decide)) ?_)
        exact ret_pl (.inr rfl) (retVs_2 (retV_mv rfl) (retV_mv rfl)) rfl rfl (by simp)
    · have d1 : decide (idx r x < 0) = true := decide_eq_true (by omega)
      simp only [d1]
      repeat (first
    | refine wC_a rfl ?_
    | refine q_s rfl ?_
    | refine q_b rfl ?_
    | refine wG_nil ?_
    | refine wG_g rfl ?_
    | refine wG_pure (o_len_vwm rfl) ?_
    | refine wG_pure (o_not_d rfl) ?_
    | refine wG_p rfl (by first | exact rfl | omega) ?_
    | refine wG_pure (o_str2 rfl rfl rfl) ?_
    | refine wG_pure (e_istr rfl rfl (by omega)) ?_
    | refine wG_pure (e_istr0 rfl rfl (by omega)) ?_
    | refine wG_pure (o_not rfl) ?_
    | refine wG_pure (e_ia_vw0 rfl rfl (by omega) rfl) ?_
    | refine wG_pure (e_ia_vwp rfl rfl (by omega) rfl) ?_
    | refine wG_pure (e_ia_vwm rfl rfl (by omega) (by omega) rfl) ?_
    | refine wG_pure (e_ia_vwi rfl rfl (by omega) rfl) ?_
    | refine wG_pure (e_ia_vwn rfl rfl (by omega) (by omega) rfl) ?_
    | refine wG_n rfl rfl ?_
    | refine wG_u rfl rfl ?_
    | refine wG_new (o_mks rfl rfl (by omega) (by decide)) ?_)
      exact ret_pl (.inr rfl) (retVs_2 (retV_mv rfl) (retV_mv rfl)) rfl rfl (by simp)
  · have c1 := con45_no a b r h1 h2 hG
    repeat (first | refine wG_call c1 rfl rfl ?_ | (first
    | refine wC_a rfl ?_
    | refine q_s rfl ?_
    | refine q_b rfl ?_
    | refine wG_nil ?_
    | refine wG_g rfl ?_
    | refine wG_pure (o_len_vwm rfl) ?_
    | refine wG_pure (o_not_d rfl) ?_
    | refine wG_p rfl (by first | exact rfl | omega) ?_
    | refine wG_pure (o_str2 rfl rfl rfl) ?_
    | refine wG_pure (e_istr rfl rfl (by omega)) ?_
    | refine wG_pure (e_istr0 rfl rfl (by omega)) ?_
    | refine wG_pure (o_not rfl) ?_
    | refine wG_pure (e_ia_vw0 rfl rfl (by omega) rfl) ?_
    | refine wG_pure (e_ia_vwp rfl rfl (by omega) rfl) ?_
    | refine wG_pure (e_ia_vwm rfl rfl (by omega) (by omega) rfl) ?_
    | refine wG_pure (e_ia_vwi rfl rfl (by omega) rfl) ?_
    | refine wG_pure (e_ia_vwn rfl rfl (by omega) (by omega) rfl) ?_
    | refine wG_n rfl rfl ?_
    | refine wG_u rfl rfl ?_
    | refine wG_new (o_mks rfl rfl (by omega) (by decide)) ?_))
    exact ret_pl (.inr rfl) (retVs_2 (retV_mv rfl) (retV_mv rfl)) rfl rfl (by simp)
end Go.Proofs.Ythicnjgdngfbkaa.Rec
