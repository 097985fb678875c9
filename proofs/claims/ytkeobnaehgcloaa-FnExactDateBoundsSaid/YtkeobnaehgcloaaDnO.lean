/- The bounds of dates: both sides. -/
import Derived.Test.YtkeobnaehgcloaaDnH
namespace Go.Proofs.Ytkeobnaehgcloaa.Dst
open Go Go.Proofs.Ytkeobnaehgcloaa.Ab Go.Proofs.Ytkeobnaehgcloaa.Il Go.Proofs.Ytkeobnaehgcloaa.Rec
attribute [local irreducible] wpO wpC wpDr wpQ wpG wpE stepA seqQ blkQ Ret RetG ev
set_option maxRecDepth 10000
set_option maxHeartbeats 8000000
set_option linter.unusedSimpArgs false
set_option linter.unusedVariables false

def ac39 : AC := (.seq (.reg [⟨(some 1), none, (.box 3 true (.t 0))⟩, ⟨(some 2), none, (.mv (.c .nilS))⟩, ⟨(some 3), none, (.mv (.c .nilS))⟩, ⟨(some 4), none, (.mv (.c (.bool false)))⟩]) (.seq (.reg [⟨(some 11), none, (.bsl 1 [(.int .i64 0)] 0 [])⟩, ⟨(some 12), none, (.bsl 1 [(.int .i64 0)] 0 [])⟩, ⟨(some 5), none, (.mv (.t 11))⟩, ⟨(some 6), none, (.mv (.t 12))⟩]) (.seq (.seq (.reg [⟨(some 13), none, (.ld true 3 (.t 1))⟩, ⟨(some 14), none, (.call 47 [(.t 13)])⟩, ⟨(some 15), none, (.un .not (.t 14))⟩]) (.cond (.t 15) (.seq (.reg [⟨(some 16), none, (.mv (.t 5))⟩, ⟨(some 17), none, (.mv (.t 6))⟩, ⟨(some 2), none, (.mv (.t 16))⟩, ⟨(some 3), none, (.mv (.t 17))⟩, ⟨(some 4), none, (.mv (.c (.bool false)))⟩]) .ret) .skip)) (.seq (.reg [⟨(some 7), none, (.mv (.c (.bool false)))⟩]) (.seq (.seq (.reg [⟨(some 8), none, (.mv (.c (.int .i64 0)))⟩]) (.blk 0 (.loop (.seq (.seq (.reg [⟨(some 18), none, (.mv (.t 8))⟩, ⟨(some 19), none, (.ld true 3 (.t 1))⟩, ⟨(some 20), none, (.call 67 [(.t 19)])⟩, ⟨(some 21), none, (.bin .lss (.t 18) (.t 20))⟩]) (.cond (.t 21) .skip (.exit 0))) (.seq (.blk 1 (.seq (.reg [⟨(some 24), none, (.ld true 3 (.t 1))⟩, ⟨(some 25), none, (.mv (.t 8))⟩, ⟨(some 26), none, (.call 68 [(.t 24), (.t 25)])⟩, ⟨(some 9), none, (.mv (.t 26))⟩]) (.seq (.seq (.reg [⟨(some 27), none, (.ld true 3 (.t 1))⟩, ⟨(some 28), none, (.mv (.t 9))⟩, ⟨(some 29), none, (.call 65 [(.t 27), (.t 28)])⟩, ⟨(some 30), none, (.bin .eql (.t 29) (.c (.int .i64 0)))⟩]) (.cond (.t 30) (.exit 1) .skip)) (.seq (.seq (.reg [⟨(some 31), none, (.mv (.t 7))⟩, ⟨(some 32), none, (.un .not (.t 31))⟩]) (.cond (.t 32) (.seq (.reg [⟨(some 33), none, (.mv (.t 9))⟩, ⟨(some 34), none, (.call 76 [(.t 33)])⟩, ⟨(some 5), none, (.mv (.t 34))⟩]) (.reg [⟨(some 35), none, (.mv (.t 9))⟩, ⟨(some 36), none, (.call 76 [(.t 35)])⟩, ⟨(some 6), none, (.mv (.t 36))⟩])) .skip)) (.seq (.reg [⟨(some 7), none, (.mv (.c (.bool true)))⟩]) (.seq (.reg [⟨(some 10), none, (.mv (.c (.int .i64 0)))⟩]) (.blk 2 (.loop (.seq (.seq (.reg [⟨(some 37), none, (.mv (.t 10))⟩, ⟨(some 38), none, (.mv (.t 9))⟩, ⟨(some 39), none, (.len (.t 38))⟩, ⟨(some 40), none, (.bin .lss (.t 37) (.t 39))⟩]) (.cond (.t 40) .skip (.exit 2))) (.seq (.blk 3 (.seq (.dreg [⟨(some 43), none, (.mv (.t 5))⟩, ⟨(some 44), none, (.mv (.t 10))⟩, ⟨(some 45), none, (.mv (.t 5))⟩, ⟨(some 46), none, (.mv (.t 10))⟩, ⟨(some 47), none, (.ia 1 (.t 45) (.t 46))⟩, ⟨(some 48), none, (.ld false 1 (.t 47))⟩, ⟨(some 49), none, (.mv (.t 9))⟩, ⟨(some 50), none, (.mv (.t 10))⟩, ⟨(some 51), none, (.ia 1 (.t 49) (.t 50))⟩, ⟨(some 52), none, (.ld false 1 (.t 51))⟩, ⟨(some 53), none, (.call 77 [(.t 48), (.t 52)])⟩, ⟨(some 54), none, (.ia 1 (.t 43) (.t 44))⟩, ⟨none, none, (.st 1 (.t 54) (.t 53))⟩] [[], [], [], [], [2, 3], [2, 3, 4], [], [], [6, 7], [6, 7, 8], [2, 3, 4, 5, 6, 7, 8, 9], [0, 1, 2, 3, 4, 5, 6, 7, 8, 9, 10], [0, 1, 2, 3, 4, 5, 6, 7, 8, 9, 10, 11]]) (.dreg [⟨(some 55), none, (.mv (.t 6))⟩, ⟨(some 56), none, (.mv (.t 10))⟩, ⟨(some 57), none, (.mv (.t 6))⟩, ⟨(some 58), none, (.mv (.t 10))⟩, ⟨(some 59), none, (.ia 1 (.t 57) (.t 58))⟩, ⟨(some 60), none, (.ld false 1 (.t 59))⟩, ⟨(some 61), none, (.mv (.t 9))⟩, ⟨(some 62), none, (.mv (.t 10))⟩, ⟨(some 63), none, (.ia 1 (.t 61) (.t 62))⟩, ⟨(some 64), none, (.ld false 1 (.t 63))⟩, ⟨(some 65), none, (.call 78 [(.t 60), (.t 64)])⟩, ⟨(some 66), none, (.ia 1 (.t 55) (.t 56))⟩, ⟨none, none, (.st 1 (.t 66) (.t 65))⟩] [[], [], [], [], [2, 3], [2, 3, 4], [], [], [6, 7], [6, 7, 8], [2, 3, 4, 5, 6, 7, 8, 9], [0, 1, 2, 3, 4, 5, 6, 7, 8, 9, 10], [0, 1, 2, 3, 4, 5, 6, 7, 8, 9, 10, 11]]))) (.reg [⟨(some 41), none, (.mv (.t 10))⟩, ⟨(some 42), none, (.bin .add (.t 41) (.c (.int .i64 1)))⟩, ⟨(some 10), none, (.mv (.t 42))⟩]))))))))))) (.reg [⟨(some 22), none, (.mv (.t 8))⟩, ⟨(some 23), none, (.bin .add (.t 22) (.c (.int .i64 1)))⟩, ⟨(some 8), none, (.mv (.t 23))⟩])))))) (.seq (.reg [⟨(some 67), none, (.mv (.t 5))⟩, ⟨(some 68), none, (.mv (.t 6))⟩, ⟨(some 69), none, (.mv (.t 7))⟩, ⟨(some 2), none, (.mv (.t 67))⟩, ⟨(some 3), none, (.mv (.t 68))⟩, ⟨(some 4), none, (.mv (.t 69))⟩]) .ret))))))
def ro39 : List AOp := [(.mv (.t 2)), (.mv (.t 3)), (.mv (.t 4))]
theorem fun39 : Fun Try.prog 39 70 ac39 ro39 := ⟨Try.f39, _, Try.func39, by kernel_rfl, rfl, rfl, by kernel_rfl, by kernel_rfl, by decide⟩
def ac40 : AC := (.seq (.reg [⟨(some 1), none, (.box 3 true (.t 0))⟩, ⟨(some 2), none, (.mv (.c .nilS))⟩, ⟨(some 3), none, (.mv (.c .nilS))⟩, ⟨(some 4), none, (.mv (.c (.bool false)))⟩]) (.seq (.seq (.reg [⟨(some 8), none, (.ld true 3 (.t 1))⟩, ⟨(some 9), none, (.call 24 [(.t 8)])⟩, ⟨(some 10), none, (.un .not (.t 9))⟩]) (.cond (.t 10) (.seq (.reg [⟨(some 2), none, (.mv (.c .nilS))⟩, ⟨(some 3), none, (.mv (.c .nilS))⟩, ⟨(some 4), none, (.mv (.c (.bool false)))⟩]) .ret) .skip)) (.seq (.reg [⟨(some 5), none, (.alloc [.nilS])⟩, ⟨(some 6), none, (.alloc [.nilS])⟩]) (.seq (.reg [⟨(some 7), none, (.alloc [(.bool false)])⟩, ⟨none, none, (.st 1 (.t 7) (.c (.bool false)))⟩]) (.seq (.reg [⟨(some 11), none, (.ld true 3 (.t 1))⟩, ⟨(some 12), none, (.mkf 79 [(.t 7), (.t 5), (.t 6)])⟩, ⟨(some 13), none, (.call 69 [(.t 11), (.t 12)])⟩]) (.seq (.dreg [⟨(some 14), none, (.ld false 1 (.t 5))⟩, ⟨(some 15), none, (.ld false 1 (.t 6))⟩, ⟨(some 16), none, (.ld false 1 (.t 7))⟩, ⟨(some 2), none, (.mv (.t 14))⟩, ⟨(some 3), none, (.mv (.t 15))⟩, ⟨(some 4), none, (.mv (.t 16))⟩] [[], [], [], [0], [0, 1, 3], [0, 1, 2, 3, 4]]) .ret))))))
def ro40 : List AOp := [(.mv (.t 2)), (.mv (.t 3)), (.mv (.t 4))]
theorem fun40 : Fun Try.prog 40 17 ac40 ro40 := ⟨Try.f40, _, Try.func40, by kernel_rfl, rfl, rfl, by kernel_rfl, by kernel_rfl, by decide⟩
def ac79 : AC := (.seq (.seq (.reg [⟨(some 9), none, (.ld false 1 (.t 2))⟩, ⟨(some 10), none, (.un .not (.t 9))⟩]) (.cond (.t 10) (.seq (.reg [⟨(some 11), none, (.mv (.t 0))⟩, ⟨(some 12), none, (.call 73 [(.t 11)])⟩, ⟨(some 13), none, (.mv (.t 0))⟩, ⟨(some 14), none, (.call 73 [(.t 13)])⟩, ⟨none, none, (.st 1 (.t 3) (.t 12))⟩, ⟨none, none, (.st 1 (.t 4) (.t 14))⟩]) (.reg [⟨none, none, (.st 1 (.t 2) (.c (.bool true)))⟩])) .skip)) (.seq (.reg [⟨(some 15), none, (.mv (.t 0))⟩, ⟨(some 16), none, (.len (.t 15))⟩, ⟨(some 17), none, (.mv (.c (.int .i64 0)))⟩]) (.blk 0 (.loop (.seq (.reg [⟨(some 18), none, (.bin .lss (.t 17) (.t 16))⟩]) (.seq (.cond (.t 18) .skip (.exit 0)) (.seq (.blk 1 (.seq (.reg [⟨(some 19), none, (.mv (.t 17))⟩, ⟨(some 20), none, (.ia 1 (.t 15) (.t 17))⟩, ⟨(some 21), none, (.ld false 1 (.t 20))⟩, ⟨(some 7), none, (.mv (.t 19))⟩, ⟨(some 8), none, (.mv (.t 21))⟩]) (.seq (.dreg [⟨(some 22), none, (.ld false 1 (.t 3))⟩, ⟨(some 23), none, (.mv (.t 7))⟩, ⟨(some 24), none, (.ld false 1 (.t 3))⟩, ⟨(some 25), none, (.mv (.t 7))⟩, ⟨(some 26), none, (.ia 1 (.t 24) (.t 25))⟩, ⟨(some 27), none, (.ld false 1 (.t 26))⟩, ⟨(some 28), none, (.mv (.t 8))⟩, ⟨(some 29), none, (.mn (.t 27) (.t 28))⟩, ⟨(some 30), none, (.ia 1 (.t 22) (.t 23))⟩, ⟨none, none, (.st 1 (.t 30) (.t 29))⟩] [[], [], [], [], [2, 3], [2, 3, 4], [], [2, 3, 4, 5, 6], [0, 1, 2, 3, 4, 5, 6, 7], [0, 1, 2, 3, 4, 5, 6, 7, 8]]) (.dreg [⟨(some 31), none, (.ld false 1 (.t 4))⟩, ⟨(some 32), none, (.mv (.t 7))⟩, ⟨(some 33), none, (.ld false 1 (.t 4))⟩, ⟨(some 34), none, (.mv (.t 7))⟩, ⟨(some 35), none, (.ia 1 (.t 33) (.t 34))⟩, ⟨(some 36), none, (.ld false 1 (.t 35))⟩, ⟨(some 37), none, (.mv (.t 8))⟩, ⟨(some 38), none, (.mx (.t 36) (.t 37))⟩, ⟨(some 39), none, (.ia 1 (.t 31) (.t 32))⟩, ⟨none, none, (.st 1 (.t 39) (.t 38))⟩] [[], [], [], [], [2, 3], [2, 3, 4], [], [2, 3, 4, 5, 6], [0, 1, 2, 3, 4, 5, 6, 7], [0, 1, 2, 3, 4, 5, 6, 7, 8]])))) (.reg [⟨(some 40), none, (.bin .add (.t 17) (.c (.int .i64 1)))⟩, ⟨(some 17), none, (.mv (.t 40))⟩]))))))))
def ro79 : List AOp := []
theorem fun79 : Fun Try.prog 79 41 ac79 ro79 := ⟨Try.f79, _, Try.func79, by kernel_rfl, rfl, rfl, by kernel_rfl, by kernel_rfl, by decide⟩

theorem ret_ssb {r1 r2 r3 : AOp} {sz sz' off off' len len' q1 q2 : Nat} {rows1 rows2 : Ab.Rows} {v3 : AV} {s : St} {e : EX} (he : e = .n ∨ e = .r) (hne : q1 ≠ q2) (p3 : v3.plain = true) (g1 : retV s r1 = some (.sl q1 sz off len)) (g2 : retV s r2 = some (.sl q2 sz' off' len')) (g3 : retV s r3 = some v3) (h1 : hg s.h q1 = some rows1) (h2 : hg s.h q2 = some rows2) :
    Ret [r1, r2, r3] [q1, q2] (.tup [.sl 0 sz off len, .sl 1 sz' off' len', v3]) [rows1, rows2] e s := by
  have q : ∀ π (v : AV), v.plain = true → rn π v = v ∧ v.ltr 2 = true := by intro π v hv; cases v <;> first | exact ⟨rfl, rfl⟩ | simp [AV.plain] at hv
  refine ret_gen he (retVs_3 g1 g2 g3) ?_ (by simp [notOne]) ?_ rfl (by simp [hne]) (fun i rows' h => ?_)
  · simp only [retL, rnL, rn, (q _ _ p3).1]; rfl
  · simp only [List.length_cons, List.length_nil, AV.ltr, ltrL, (q (fun x => x) _ p3).2, Bool.and_self]; rfl
  · cases i with
    | zero => simp at h; subst h; exact h1
    | succ i =>
      cases i with
      | zero => simp at h; subst h; exact h2
      | succ i => simp at h
/-- The first i elements of a list brought together with those of another. -/
def zw (f : Int → Int → Int) (lo ys : List Int) (i : Nat) : List Int := (List.range lo.length).map fun j => if j < i then f (lo.getD j default) (ys.getD j default) else lo.getD j default
theorem zw_len (f : Int → Int → Int) (lo ys : List Int) (i : Nat) : (zw f lo ys i).length = lo.length := by simp [zw]
theorem zw_0 (f : Int → Int → Int) (lo ys : List Int) : zw f lo ys 0 = lo := by
  refine List.ext_getElem (zw_len _ _ _ _) fun j h1 h2 => ?_
  simp [zw, List.getD_eq_getElem?_getD, List.getElem?_eq_getElem h2]
theorem zw_get (f : Int → Int → Int) {lo : List Int} (ys : List Int) {i : Nat} (h : i < lo.length) : ((zw f lo ys i).map iRow)[i]? = some (iRow (lo.getD i default)) := by
  simp [zw, List.getElem?_map, List.getElem?_range h]
theorem zw_set (f : Int → Int → Int) {lo ys : List Int} {i : Nat} (h : i < lo.length) : ((zw f lo ys i).map iRow).set i (iRow (f (lo.getD i default) (ys.getD i default))) = (zw f lo ys (i + 1)).map iRow := by
  rw [← List.map_set]
  congr 1
  refine List.ext_getElem (by simp [zw]) fun j h1 h2 => ?_
  rw [List.getElem_set]
  simp only [zw, List.getElem_map, List.getElem_range]
  by_cases e : i = j
  · subst e; rw [if_pos rfl, if_pos (Nat.lt_succ_self _)]
  · rw [if_neg e]
    by_cases g : j < i
    · rw [if_pos g, if_pos (by omega)]
    · rw [if_neg g, if_neg (by omega)]
theorem iGet {ys : List Int} {i : Nat} (h : i < ys.length) : (ys.map iRow)[i]? = some (iRow (ys.getD i default)) := by
  simp [List.getElem?_map, List.getElem?_eq_getElem h, List.getD_eq_getElem?_getD]
abbrev SB := Option (List Int × List Int)
def stB (s : SB) (ys : List Int) (w : Int) : SB := match s with
  | none => some (zw min ys ys ys.length, zw max ys ys ys.length)
  | some (lo, hi) => some (zw min lo ys lo.length, zw max hi ys lo.length)
noncomputable def bS (r : Rc) (xs : List Dn) (n : Nat) : SB := fd (fun m => Fs stB (wtI r xs) (yrs xs m)) n none
def loB (s : SB) : List Int := match s with
  | none => []
  | some x => x.1
def hiB (s : SB) : List Int := match s with
  | none => []
  | some x => x.2
def okB (n : Nat) (s : SB) : Prop := ∀ lo hi, s = some (lo, hi) → lo.length = n ∧ hi.length = n
theorem stB_ok {n : Nat} {s : SB} {ys : List Int} {w : Int} (h : okB n s) (hy : ys.length = n) : okB n (stB s ys w) := by
  intro lo hi e
  cases s with
  | none =>
    cases e
    exact ⟨by rw [zw_len]; exact hy, by rw [zw_len]; exact hy⟩
  | some x =>
    obtain ⟨a, b⟩ := x
    have := h a b rfl
    cases e
    exact ⟨by rw [zw_len]; exact this.1, by rw [zw_len]; exact this.2⟩
theorem bS_ok (r : Rc) (xs : List Dn) : ∀ n, okB xs.length (bS r xs n)
  | 0 => fun lo hi e => by cases e
  | n + 1 => by
    have ih := bS_ok r xs n
    show okB xs.length (Fs stB (wtI r xs) (yrs xs n) (bS r xs n))
    unfold Fs
    split
    · exact stB_ok ih (yrs_len xs n)
    · exact ih
theorem con39_yes (a b c : Bool) (r : Rc) (xs : List Dn) (h1 : r.cs.length ≤ 1048576) (h2 : r.xs.length ≤ 1048576) (h3 : xs.length ≤ 1048576) (hL : LenN xs 1048576) (hG : GoodN r xs) : Con Try.prog 39 true [.agg (dtR a b c r xs)] (.tup [.sl 0 1 0 (loB (bS r xs (cp xs xs.length))).length, .sl 1 1 0 (hiB (bS r xs (cp xs xs.length))).length, .bool (bS r xs (cp xs xs.length)).isSome]) [(loB (bS r xs (cp xs xs.length))).map iRow, (hiB (bS r xs (cp xs xs.length))).map iRow] := by
  classical
  refine con_of_wp mixed fun39 (by simp) [1, 2] (by intro rows hr row hrow v hv; simp at hr; rcases hr with rfl | rfl <;> exact rowsP _ row hrow v hv) ?_
  unfold ac39 ro39
  simp only [zipT]
  have c1 := con47 a b c r xs h1 h2 h3 hL
  rw [decide_eq_true hG] at c1
  have c2 := con67 a b c r xs hG
  have hcp := cp_b hG
  repeat (first | refine wG_call c1 rfl rfl ?_ | (first
    | refine wC_a rfl ?_
    | refine q_s rfl ?_
    | refine q_b rfl ?_
    | refine wG_nil ?_
    | refine wG_g rfl ?_
    | refine wG_pure (o_len_vwm rfl) ?_
    | refine wG_pure (o_not_d rfl) ?_
    | refine wG_p rfl (by first | exact rfl | omega) ?_
    | refine wG_pure (o_str2 rfl rfl rfl) ?_
    | refine wG_pure (e_istr rfl rfl (by omega)) ?_
    | refine wG_pure (e_istr0 rfl rfl (by omega)) ?_
    | refine wG_pure (o_not rfl) ?_
    | refine wG_pure (e_ia_vw0 rfl rfl (by omega) rfl) ?_
    | refine wG_pure (e_ia_vwp rfl rfl (by omega) rfl) ?_
    | refine wG_pure (e_ia_vwm rfl rfl (by omega) (by omega) rfl) ?_
    | refine wG_pure (e_ia_vwi rfl rfl (by omega) rfl) ?_
    | refine wG_pure (e_ia_vwn rfl rfl (by omega) (by omega) rfl) ?_
    | refine wG_n rfl rfl ?_
    | refine wG_u rfl rfl ?_
    | refine wG_new (o_mks rfl rfl (by omega) (by decide)) ?_))
  refine wC_loopR Nat (fun n => ⟨[(1, .pt 0 0 0), (5, .sl 1 1 0 (loB (bS r xs n)).length), (6, .sl 2 1 0 (hiB (bS r xs n)).length), (7, .bool (bS r xs n).isSome), (8, .int .i64 (n : Int))], [(2, some ((hiB (bS r xs n)).map iRow)), (1, some ((loB (bS r xs n)).map iRow)), (0, some [dtR a b c r xs])], 3⟩) (fun n => n ≤ cp xs xs.length) (fun n => cp xs xs.length - n) 0 (Nat.zero_le _) ⟨[0, 1, 2], ?_⟩ ?_
  · exact ⟨⟨⟨rfl, rfl⟩, ⟨rfl, rfl⟩, ⟨rfl, rfl⟩, ⟨rfl, rfl⟩, ⟨rfl, rfl⟩, trivial⟩, ⟨⟨⟨_, rfl, rfl⟩, (by show 2 < 3; decide), ltrI _ _⟩, ⟨⟨_, rfl, rfl⟩, (by show 1 < 3; decide), ltrI _ _⟩, ⟨⟨_, rfl, rfl⟩, (by show 0 < 3; decide), dtR_ltr1 _⟩, trivial⟩, rfl, by decide⟩
  intro n hn
  repeat (first | refine wG_call c2 rfl rfl ?_ | (first
    | refine wC_a rfl ?_
    | refine q_s rfl ?_
    | refine q_b rfl ?_
    | refine wG_nil ?_
    | refine wG_g rfl ?_
    | refine wG_pure (o_len_vwm rfl) ?_
    | refine wG_pure (o_not_d rfl) ?_
    | refine wG_p rfl (by first | exact rfl | omega) ?_
    | refine wG_pure (o_str2 rfl rfl rfl) ?_
    | refine wG_pure (e_istr rfl rfl (by omega)) ?_
    | refine wG_pure (e_istr0 rfl rfl (by omega)) ?_
    | refine wG_pure (o_not rfl) ?_
    | refine wG_pure (e_ia_vw0 rfl rfl (by omega) rfl) ?_
    | refine wG_pure (e_ia_vwp rfl rfl (by omega) rfl) ?_
    | refine wG_pure (e_ia_vwm rfl rfl (by omega) (by omega) rfl) ?_
    | refine wG_pure (e_ia_vwi rfl rfl (by omega) rfl) ?_
    | refine wG_pure (e_ia_vwn rfl rfl (by omega) (by omega) rfl) ?_
    | refine wG_n rfl rfl ?_
    | refine wG_u rfl rfl ?_
    | refine wG_new (o_mks rfl rfl (by omega) (by decide)) ?_))
  refine wC_cond_d rfl (fun h5 => ?_) (fun h5 => ?_)
  · have hn2 : n < cp xs xs.length := by omega
    have c3 := con68 a b c r xs hG n (by omega)
    have hyl := yrs_len xs n
    have c4 := con65 a b c true r xs (yrs xs n) hG hyl
    have cO := con76 true (yrs xs n) (by omega)
    have hup : bS r xs (n + 1) = Fs stB (wtI r xs) (yrs xs n) (bS r xs n) := rfl
    have hok := bS_ok r xs n
    have hw0 := wt_nn hG hyl
    have e0 : ∀ n : Nat, 0 + ((n : Int)).toNat = n := fun n => by simp
    repeat (first | refine wG_call1 c3 rfl rfl ?_ | refine wG_call c4 (ag_any rfl (ag_sl rfl rfl hyl.symm iRow_plain ag_nil)) rfl ?_ | (first
    | refine wC_a rfl ?_
    | refine q_s rfl ?_
    | refine q_b rfl ?_
    | refine wG_nil ?_
    | refine wG_g rfl ?_
    | refine wG_pure (o_len_vwm rfl) ?_
    | refine wG_pure (o_not_d rfl) ?_
    | refine wG_p rfl (by first | exact rfl | omega) ?_
    | refine wG_pure (o_str2 rfl rfl rfl) ?_
    | refine wG_pure (e_istr rfl rfl (by omega)) ?_
    | refine wG_pure (e_istr0 rfl rfl (by omega)) ?_
    | refine wG_pure (o_not rfl) ?_
    | refine wG_pure (e_ia_vw0 rfl rfl (by omega) rfl) ?_
    | refine wG_pure (e_ia_vwp rfl rfl (by omega) rfl) ?_
    | refine wG_pure (e_ia_vwm rfl rfl (by omega) (by omega) rfl) ?_
    | refine wG_pure (e_ia_vwi rfl rfl (by omega) rfl) ?_
    | refine wG_pure (e_ia_vwn rfl rfl (by omega) (by omega) rfl) ?_
    | refine wG_n rfl rfl ?_
    | refine wG_u rfl rfl ?_
    | refine wG_new (o_mks rfl rfl (by omega) (by decide)) ?_))
    refine wC_cond_d rfl (fun h6 => ?_) (fun h6 => ?_)
    · rw [Fs, if_neg (by omega)] at hup
      repeat (first
    | refine wC_a rfl ?_
    | refine q_s rfl ?_
    | refine q_b rfl ?_
    | refine wG_nil ?_
    | refine wG_g rfl ?_
    | refine wG_pure (o_len_vwm rfl) ?_
    | refine wG_pure (o_not_d rfl) ?_
    | refine wG_p rfl (by first | exact rfl | omega) ?_
    | refine wG_pure (o_str2 rfl rfl rfl) ?_
    | refine wG_pure (e_istr rfl rfl (by omega)) ?_
    | refine wG_pure (e_istr0 rfl rfl (by omega)) ?_
    | refine wG_pure (o_not rfl) ?_
    | refine wG_pure (e_ia_vw0 rfl rfl (by omega) rfl) ?_
    | refine wG_pure (e_ia_vwp rfl rfl (by omega) rfl) ?_
    | refine wG_pure (e_ia_vwm rfl rfl (by omega) (by omega) rfl) ?_
    | refine wG_pure (e_ia_vwi rfl rfl (by omega) rfl) ?_
    | refine wG_pure (e_ia_vwn rfl rfl (by omega) (by omega) rfl) ?_
    | refine wG_n rfl rfl ?_
    | refine wG_u rfl rfl ?_
    | refine wG_new (o_mks rfl rfl (by omega) (by decide)) ?_)
      refine ⟨n + 1, hn2, by omega, [0, 1, 2], ?_⟩
      simp only [hup]
      exact ⟨⟨⟨rfl, rfl⟩, ⟨rfl, rfl⟩, ⟨rfl, rfl⟩, ⟨rfl, rfl⟩, ⟨rfl, rfl⟩, trivial⟩, ⟨⟨⟨_, rfl, rn_rows (rowsP _)⟩, (by show 2 < 3; decide), ltrI _ _⟩, ⟨⟨_, rfl, rn_rows (rowsP _)⟩, (by show 1 < 3; decide), ltrI _ _⟩, ⟨⟨_, rfl, rfl⟩, (by show 0 < 3; decide), dtR_ltr1 _⟩, trivial⟩, rfl, by decide⟩
    · rw [Fs, if_pos (by omega)] at hup
      generalize yrs xs n = ys at *
      generalize bS r xs n = s at *
      cases s with
      | none =>
        repeat (first | refine wG_call1 cO (ag_sl rfl rfl hyl.symm iRow_plain ag_nil) rfl ?_ | (first
    | refine wC_a rfl ?_
    | refine q_s rfl ?_
    | refine q_b rfl ?_
    | refine wG_nil ?_
    | refine wG_g rfl ?_
    | refine wG_pure (o_len_vwm rfl) ?_
    | refine wG_pure (o_not_d rfl) ?_
    | refine wG_p rfl (by first | exact rfl | omega) ?_
    | refine wG_pure (o_str2 rfl rfl rfl) ?_
    | refine wG_pure (e_istr rfl rfl (by omega)) ?_
    | refine wG_pure (e_istr0 rfl rfl (by omega)) ?_
    | refine wG_pure (o_not rfl) ?_
    | refine wG_pure (e_ia_vw0 rfl rfl (by omega) rfl) ?_
    | refine wG_pure (e_ia_vwp rfl rfl (by omega) rfl) ?_
    | refine wG_pure (e_ia_vwm rfl rfl (by omega) (by omega) rfl) ?_
    | refine wG_pure (e_ia_vwi rfl rfl (by omega) rfl) ?_
    | refine wG_pure (e_ia_vwn rfl rfl (by omega) (by omega) rfl) ?_
    | refine wG_n rfl rfl ?_
    | refine wG_u rfl rfl ?_
    | refine wG_new (o_mks rfl rfl (by omega) (by decide)) ?_))
        refine wC_loop Nat (fun i => ⟨[(1, .pt 0 0 0), (5, .sl 4 1 0 ys.length), (6, .sl 5 1 0 ys.length), (7, .bool true), (8, .int .i64 (n : Int)), (9, .sl 3 1 0 ys.length), (10, .int .i64 (i : Int))], [(4, some ((zw min ys ys i).map iRow)), (5, some ((zw max ys ys i).map iRow)), (3, some (ys.map iRow)), (0, some [dtR a b c r xs])], 6⟩) (fun i => i ≤ ys.length) (fun i => ys.length - i) 0 (Nat.zero_le _) ?_ (fun _ _ => Nat.zero_le _) ?_
        · rw [zw_0, zw_0]
          rw [← hyl]
          exact ⟨⟨⟨rfl, rfl⟩, ⟨rfl, rfl⟩, ⟨rfl, rfl⟩, ⟨rfl, rfl⟩, ⟨rfl, rfl⟩, ⟨rfl, rfl⟩, ⟨rfl, rfl⟩, trivial⟩, ⟨rfl, by show 4 < 6; decide, ltrI _ _⟩, ⟨rfl, by show 5 < 6; decide, ltrI _ _⟩, ⟨rfl, by show 3 < 6; decide, ltrI _ _⟩, ⟨rfl, by show 0 < 6; decide, dtR_ltr1 _⟩, trivial⟩
        intro i hi
        repeat (first
    | refine wC_a rfl ?_
    | refine q_s rfl ?_
    | refine q_b rfl ?_
    | refine wG_nil ?_
    | refine wG_g rfl ?_
    | refine wG_pure (o_len_vwm rfl) ?_
    | refine wG_pure (o_not_d rfl) ?_
    | refine wG_p rfl (by first | exact rfl | omega) ?_
    | refine wG_pure (o_str2 rfl rfl rfl) ?_
    | refine wG_pure (e_istr rfl rfl (by omega)) ?_
    | refine wG_pure (e_istr0 rfl rfl (by omega)) ?_
    | refine wG_pure (o_not rfl) ?_
    | refine wG_pure (e_ia_vw0 rfl rfl (by omega) rfl) ?_
    | refine wG_pure (e_ia_vwp rfl rfl (by omega) rfl) ?_
    | refine wG_pure (e_ia_vwm rfl rfl (by omega) (by omega) rfl) ?_
    | refine wG_pure (e_ia_vwi rfl rfl (by omega) rfl) ?_
    | refine wG_pure (e_ia_vwn rfl rfl (by omega) (by omega) rfl) ?_
    | refine wG_n rfl rfl ?_
    | refine wG_u rfl rfl ?_
    | refine wG_new (o_mks rfl rfl (by omega) (by decide)) ?_)
        refine wC_cond_d rfl (fun h7 => ?_) (fun h7 => ?_)
        · have hi2 : i < ys.length := by omega
          have cL := con77 (ys.getD i default) (ys.getD i default)
          have cM := con78 (ys.getD i default) (ys.getD i default)
          repeat (first | refine wC_dregE ?_ | (refine wE_v (e_ia_sl rfl rfl (by omega) (by omega)) rfl ?_; simp only [e0]) | refine wE_v (o_ldf_pt rfl rfl (zw_get min ys hi2) rfl) rfl ?_ | refine wE_v (o_ldf_pt rfl rfl (zw_get max ys hi2) rfl) rfl ?_ | refine wE_v (o_ldf_pt rfl rfl (iGet hi2) rfl) rfl ?_ | refine wE_call cL rfl rfl rfl ?_ | refine wE_call cM rfl rfl rfl ?_ | refine wE_upd (o_st1 rfl rfl (zw_get min ys hi2) rfl rfl (zw_set min hi2)) rfl ?_ | refine wE_upd (o_st1 rfl rfl (zw_get max ys hi2) rfl rfl (zw_set max hi2)) rfl ?_ | (first
    | refine wC_a rfl ?_
    | refine q_s rfl ?_
    | refine q_b rfl ?_
    | refine wG_nil ?_
    | refine wG_g rfl ?_
    | refine wG_pure (o_len_vwm rfl) ?_
    | refine wG_pure (o_not_d rfl) ?_
    | refine wG_p rfl (by first | exact rfl | omega) ?_
    | refine wG_pure (o_str2 rfl rfl rfl) ?_
    | refine wG_pure (e_istr rfl rfl (by omega)) ?_
    | refine wG_pure (e_istr0 rfl rfl (by omega)) ?_
    | refine wG_pure (o_not rfl) ?_
    | refine wG_pure (e_ia_vw0 rfl rfl (by omega) rfl) ?_
    | refine wG_pure (e_ia_vwp rfl rfl (by omega) rfl) ?_
    | refine wG_pure (e_ia_vwm rfl rfl (by omega) (by omega) rfl) ?_
    | refine wG_pure (e_ia_vwi rfl rfl (by omega) rfl) ?_
    | refine wG_pure (e_ia_vwn rfl rfl (by omega) (by omega) rfl) ?_
    | refine wG_n rfl rfl ?_
    | refine wG_u rfl rfl ?_
    | refine wG_new (o_mks rfl rfl (by omega) (by decide)) ?_) | (first
    | refine wE_nil (by kernel_rfl) ?_
    | refine wE_gy rfl ?_
    | refine wE_gn rfl rfl rfl ?_
    | refine wE_gu rfl rfl ?_
    | refine wE_gnn rfl rfl rfl ?_
    | refine wE_v (o_len_vwm rfl) rfl ?_
    | refine wE_v (o_not_d rfl) rfl ?_
    | refine wE_p rfl (by first | exact rfl | omega) rfl ?_
    | refine wE_v (o_str2 rfl rfl rfl) rfl ?_
    | refine wE_v (e_istr rfl rfl (by omega)) rfl ?_
    | refine wE_v (e_istr0 rfl rfl (by omega)) rfl ?_
    | refine wE_v (o_not rfl) rfl ?_
    | refine wE_v (e_ia_vw0 rfl rfl (by omega) rfl) rfl ?_
    | refine wE_v (e_ia_vwp rfl rfl (by omega) rfl) rfl ?_
    | refine wE_v (e_ia_vwm rfl rfl (by omega) (by omega) rfl) rfl ?_
    | refine wE_v (e_ia_vwi rfl rfl (by omega) rfl) rfl ?_
    | refine wE_v (e_ia_vwn rfl rfl (by omega) (by omega) rfl) rfl ?_
    | refine wE_n rfl rfl rfl ?_
    | refine wE_u rfl rfl rfl ?_
    | refine wE_new (o_mks rfl rfl (by omega) (by decide)) rfl ?_))
          exact ⟨i + 1, hi2, by omega, ⟨⟨rfl, rfl⟩, ⟨rfl, rfl⟩, ⟨rfl, rfl⟩, ⟨rfl, rfl⟩, ⟨rfl, rfl⟩, ⟨rfl, rfl⟩, ⟨rfl, rfl⟩, trivial⟩, ⟨rfl, by show 4 < 6; decide, ltrI _ _⟩, ⟨rfl, by show 5 < 6; decide, ltrI _ _⟩, ⟨rfl, by show 3 < 6; decide, ltrI _ _⟩, ⟨rfl, by show 0 < 6; decide, dtR_ltr1 _⟩, trivial⟩
        · have hi3 : i = ys.length := by omega
          subst hi3
          repeat (first
    | refine wC_a rfl ?_
    | refine q_s rfl ?_
    | refine q_b rfl ?_
    | refine wG_nil ?_
    | refine wG_g rfl ?_
    | refine wG_pure (o_len_vwm rfl) ?_
    | refine wG_pure (o_not_d rfl) ?_
    | refine wG_p rfl (by first | exact rfl | omega) ?_
    | refine wG_pure (o_str2 rfl rfl rfl) ?_
    | refine wG_pure (e_istr rfl rfl (by omega)) ?_
    | refine wG_pure (e_istr0 rfl rfl (by omega)) ?_
    | refine wG_pure (o_not rfl) ?_
    | refine wG_pure (e_ia_vw0 rfl rfl (by omega) rfl) ?_
    | refine wG_pure (e_ia_vwp rfl rfl (by omega) rfl) ?_
    | refine wG_pure (e_ia_vwm rfl rfl (by omega) (by omega) rfl) ?_
    | refine wG_pure (e_ia_vwi rfl rfl (by omega) rfl) ?_
    | refine wG_pure (e_ia_vwn rfl rfl (by omega) (by omega) rfl) ?_
    | refine wG_n rfl rfl ?_
    | refine wG_u rfl rfl ?_
    | refine wG_new (o_mks rfl rfl (by omega) (by decide)) ?_)
          refine ⟨n + 1, hn2, by omega, [0, 4, 5], ?_⟩
          simp only [hup, loB, hiB, stB, zw_len]
          exact ⟨⟨⟨rfl, rfl⟩, ⟨rfl, rfl⟩, ⟨rfl, rfl⟩, ⟨rfl, rfl⟩, ⟨rfl, rfl⟩, trivial⟩, ⟨⟨⟨_, rfl, rn_rows (rowsP _)⟩, (by show 2 < 3; decide), ltrI _ _⟩, ⟨⟨_, rfl, rn_rows (rowsP _)⟩, (by show 1 < 3; decide), ltrI _ _⟩, ⟨⟨_, rfl, rfl⟩, (by show 0 < 3; decide), dtR_ltr1 _⟩, trivial⟩, rfl, by decide⟩
      | some x =>
        obtain ⟨lo, hj⟩ := x
        obtain ⟨l1, l2⟩ := hok lo hj rfl
        repeat (first | refine wG_call1 cO (ag_sl rfl rfl hyl.symm iRow_plain ag_nil) rfl ?_ | (first
    | refine wC_a rfl ?_
    | refine q_s rfl ?_
    | refine q_b rfl ?_
    | refine wG_nil ?_
    | refine wG_g rfl ?_
    | refine wG_pure (o_len_vwm rfl) ?_
    | refine wG_pure (o_not_d rfl) ?_
    | refine wG_p rfl (by first | exact rfl | omega) ?_
    | refine wG_pure (o_str2 rfl rfl rfl) ?_
    | refine wG_pure (e_istr rfl rfl (by omega)) ?_
    | refine wG_pure (e_istr0 rfl rfl (by omega)) ?_
    | refine wG_pure (o_not rfl) ?_
    | refine wG_pure (e_ia_vw0 rfl rfl (by omega) rfl) ?_
    | refine wG_pure (e_ia_vwp rfl rfl (by omega) rfl) ?_
    | refine wG_pure (e_ia_vwm rfl rfl (by omega) (by omega) rfl) ?_
    | refine wG_pure (e_ia_vwi rfl rfl (by omega) rfl) ?_
    | refine wG_pure (e_ia_vwn rfl rfl (by omega) (by omega) rfl) ?_
    | refine wG_n rfl rfl ?_
    | refine wG_u rfl rfl ?_
    | refine wG_new (o_mks rfl rfl (by omega) (by decide)) ?_))
        refine wC_loop Nat (fun i => ⟨[(1, .pt 0 0 0), (5, .sl 1 1 0 lo.length), (6, .sl 2 1 0 hj.length), (7, .bool true), (8, .int .i64 (n : Int)), (9, .sl 3 1 0 xs.length), (10, .int .i64 (i : Int))], [(1, some ((zw min lo ys i).map iRow)), (2, some ((zw max hj ys i).map iRow)), (3, some (ys.map iRow)), (0, some [dtR a b c r xs])], 4⟩) (fun i => i ≤ lo.length) (fun i => lo.length - i) 0 (Nat.zero_le _) ?_ (fun _ _ => Nat.zero_le _) ?_
        · rw [zw_0, zw_0]
          exact ⟨⟨⟨rfl, rfl⟩, ⟨rfl, rfl⟩, ⟨rfl, rfl⟩, ⟨rfl, rfl⟩, ⟨rfl, rfl⟩, ⟨rfl, rfl⟩, ⟨rfl, rfl⟩, trivial⟩, ⟨rfl, by show 1 < 4; decide, ltrI _ _⟩, ⟨rfl, by show 2 < 4; decide, ltrI _ _⟩, ⟨rfl, by show 3 < 4; decide, ltrI _ _⟩, ⟨rfl, by show 0 < 4; decide, dtR_ltr1 _⟩, trivial⟩
        intro i hi
        repeat (first
    | refine wC_a rfl ?_
    | refine q_s rfl ?_
    | refine q_b rfl ?_
    | refine wG_nil ?_
    | refine wG_g rfl ?_
    | refine wG_pure (o_len_vwm rfl) ?_
    | refine wG_pure (o_not_d rfl) ?_
    | refine wG_p rfl (by first | exact rfl | omega) ?_
    | refine wG_pure (o_str2 rfl rfl rfl) ?_
    | refine wG_pure (e_istr rfl rfl (by omega)) ?_
    | refine wG_pure (e_istr0 rfl rfl (by omega)) ?_
    | refine wG_pure (o_not rfl) ?_
    | refine wG_pure (e_ia_vw0 rfl rfl (by omega) rfl) ?_
    | refine wG_pure (e_ia_vwp rfl rfl (by omega) rfl) ?_
    | refine wG_pure (e_ia_vwm rfl rfl (by omega) (by omega) rfl) ?_
    | refine wG_pure (e_ia_vwi rfl rfl (by omega) rfl) ?_
    | refine wG_pure (e_ia_vwn rfl rfl (by omega) (by omega) rfl) ?_
    | refine wG_n rfl rfl ?_
    | refine wG_u rfl rfl ?_
    | refine wG_new (o_mks rfl rfl (by omega) (by decide)) ?_)
        refine wC_cond_d rfl (fun h7 => ?_) (fun h7 => ?_)
        · have hi2 : i < lo.length := by omega
          have hi4 : i < hj.length := by omega
          have hi5 : i < ys.length := by omega
          have cL := con77 (lo.getD i default) (ys.getD i default)
          have cM := con78 (hj.getD i default) (ys.getD i default)
          repeat (first | refine wC_dregE ?_ | (refine wE_v (e_ia_sl rfl rfl (by omega) (by omega)) rfl ?_; simp only [e0]) | refine wE_v (o_ldf_pt rfl rfl (zw_get min ys hi2) rfl) rfl ?_ | refine wE_v (o_ldf_pt rfl rfl (zw_get max ys hi4) rfl) rfl ?_ | refine wE_v (o_ldf_pt rfl rfl (iGet hi5) rfl) rfl ?_ | refine wE_call cL rfl rfl rfl ?_ | refine wE_call cM rfl rfl rfl ?_ | refine wE_upd (o_st1 rfl rfl (zw_get min ys hi2) rfl rfl (zw_set min hi2)) rfl ?_ | refine wE_upd (o_st1 rfl rfl (zw_get max ys hi4) rfl rfl (zw_set max hi4)) rfl ?_ | (first
    | refine wC_a rfl ?_
    | refine q_s rfl ?_
    | refine q_b rfl ?_
    | refine wG_nil ?_
    | refine wG_g rfl ?_
    | refine wG_pure (o_len_vwm rfl) ?_
    | refine wG_pure (o_not_d rfl) ?_
    | refine wG_p rfl (by first | exact rfl | omega) ?_
    | refine wG_pure (o_str2 rfl rfl rfl) ?_
    | refine wG_pure (e_istr rfl rfl (by omega)) ?_
    | refine wG_pure (e_istr0 rfl rfl (by omega)) ?_
    | refine wG_pure (o_not rfl) ?_
    | refine wG_pure (e_ia_vw0 rfl rfl (by omega) rfl) ?_
    | refine wG_pure (e_ia_vwp rfl rfl (by omega) rfl) ?_
    | refine wG_pure (e_ia_vwm rfl rfl (by omega) (by omega) rfl) ?_
    | refine wG_pure (e_ia_vwi rfl rfl (by omega) rfl) ?_
    | refine wG_pure (e_ia_vwn rfl rfl (by omega) (by omega) rfl) ?_
    | refine wG_n rfl rfl ?_
    | refine wG_u rfl rfl ?_
    | refine wG_new (o_mks rfl rfl (by omega) (by decide)) ?_) | (first
    | refine wE_nil (by kernel_rfl) ?_
    | refine wE_gy rfl ?_
    | refine wE_gn rfl rfl rfl ?_
    | refine wE_gu rfl rfl ?_
    | refine wE_gnn rfl rfl rfl ?_
    | refine wE_v (o_len_vwm rfl) rfl ?_
    | refine wE_v (o_not_d rfl) rfl ?_
    | refine wE_p rfl (by first | exact rfl | omega) rfl ?_
    | refine wE_v (o_str2 rfl rfl rfl) rfl ?_
    | refine wE_v (e_istr rfl rfl (by omega)) rfl ?_
    | refine wE_v (e_istr0 rfl rfl (by omega)) rfl ?_
    | refine wE_v (o_not rfl) rfl ?_
    | refine wE_v (e_ia_vw0 rfl rfl (by omega) rfl) rfl ?_
    | refine wE_v (e_ia_vwp rfl rfl (by omega) rfl) rfl ?_
    | refine wE_v (e_ia_vwm rfl rfl (by omega) (by omega) rfl) rfl ?_
    | refine wE_v (e_ia_vwi rfl rfl (by omega) rfl) rfl ?_
    | refine wE_v (e_ia_vwn rfl rfl (by omega) (by omega) rfl) rfl ?_
    | refine wE_n rfl rfl rfl ?_
    | refine wE_u rfl rfl rfl ?_
    | refine wE_new (o_mks rfl rfl (by omega) (by decide)) rfl ?_))
          exact ⟨i + 1, hi2, by omega, ⟨⟨rfl, rfl⟩, ⟨rfl, rfl⟩, ⟨rfl, rfl⟩, ⟨rfl, rfl⟩, ⟨rfl, rfl⟩, ⟨rfl, rfl⟩, ⟨rfl, rfl⟩, trivial⟩, ⟨rfl, by show 1 < 4; decide, ltrI _ _⟩, ⟨rfl, by show 2 < 4; decide, ltrI _ _⟩, ⟨rfl, by show 3 < 4; decide, ltrI _ _⟩, ⟨rfl, by show 0 < 4; decide, dtR_ltr1 _⟩, trivial⟩
        · have hi3 : i = lo.length := by omega
          subst hi3
          repeat (first
    | refine wC_a rfl ?_
    | refine q_s rfl ?_
    | refine q_b rfl ?_
    | refine wG_nil ?_
    | refine wG_g rfl ?_
    | refine wG_pure (o_len_vwm rfl) ?_
    | refine wG_pure (o_not_d rfl) ?_
    | refine wG_p rfl (by first | exact rfl | omega) ?_
    | refine wG_pure (o_str2 rfl rfl rfl) ?_
    | refine wG_pure (e_istr rfl rfl (by omega)) ?_
    | refine wG_pure (e_istr0 rfl rfl (by omega)) ?_
    | refine wG_pure (o_not rfl) ?_
    | refine wG_pure (e_ia_vw0 rfl rfl (by omega) rfl) ?_
    | refine wG_pure (e_ia_vwp rfl rfl (by omega) rfl) ?_
    | refine wG_pure (e_ia_vwm rfl rfl (by omega) (by omega) rfl) ?_
    | refine wG_pure (e_ia_vwi rfl rfl (by omega) rfl) ?_
    | refine wG_pure (e_ia_vwn rfl rfl (by omega) (by omega) rfl) ?_
    | refine wG_n rfl rfl ?_
    | refine wG_u rfl rfl ?_
    | refine wG_new (o_mks rfl rfl (by omega) (by decide)) ?_)
          refine ⟨n + 1, hn2, by omega, [0, 1, 2], ?_⟩
          simp only [hup, loB, hiB, stB, zw_len]
          exact ⟨⟨⟨rfl, rfl⟩, ⟨rfl, rfl⟩, ⟨rfl, rfl⟩, ⟨rfl, rfl⟩, ⟨rfl, rfl⟩, trivial⟩, ⟨⟨⟨_, rfl, rn_rows (rowsP _)⟩, (by show 2 < 3; decide), ltrI _ _⟩, ⟨⟨_, rfl, rn_rows (rowsP _)⟩, (by show 1 < 3; decide), ltrI _ _⟩, ⟨⟨_, rfl, rfl⟩, (by show 0 < 3; decide), dtR_ltr1 _⟩, trivial⟩, rfl, by decide⟩
  · have hn3 : n = cp xs xs.length := by omega
    subst hn3
    repeat (first
    | refine wC_a rfl ?_
    | refine q_s rfl ?_
    | refine q_b rfl ?_
    | refine wG_nil ?_
    | refine wG_g rfl ?_
    | refine wG_pure (o_len_vwm rfl) ?_
    | refine wG_pure (o_not_d rfl) ?_
    | refine wG_p rfl (by first | exact rfl | omega) ?_
    | refine wG_pure (o_str2 rfl rfl rfl) ?_
    | refine wG_pure (e_istr rfl rfl (by omega)) ?_
    | refine wG_pure (e_istr0 rfl rfl (by omega)) ?_
    | refine wG_pure (o_not rfl) ?_
    | refine wG_pure (e_ia_vw0 rfl rfl (by omega) rfl) ?_
    | refine wG_pure (e_ia_vwp rfl rfl (by omega) rfl) ?_
    | refine wG_pure (e_ia_vwm rfl rfl (by omega) (by omega) rfl) ?_
    | refine wG_pure (e_ia_vwi rfl rfl (by omega) rfl) ?_
    | refine wG_pure (e_ia_vwn rfl rfl (by omega) (by omega) rfl) ?_
    | refine wG_n rfl rfl ?_
    | refine wG_u rfl rfl ?_
    | refine wG_new (o_mks rfl rfl (by omega) (by decide)) ?_)
    exact ret_ssb (.inr rfl) (by decide) rfl (retV_mv rfl) (retV_mv rfl) (retV_mv rfl) rfl rfl
theorem con39_no (a b c : Bool) (r : Rc) (xs : List Dn) (h1 : r.cs.length ≤ 1048576) (h2 : r.xs.length ≤ 1048576) (h3 : xs.length ≤ 1048576) (hL : LenN xs 1048576) (hG : ¬ GoodN r xs) : Con Try.prog 39 true [.agg (dtR a b c r xs)] (.tup [.sl 0 1 0 0, .sl 1 1 0 0, .bool false]) [([] : List Int).map iRow, ([] : List Int).map iRow] := by
  classical
  refine con_of_wp mixed fun39 (by simp) [1, 2] (by intro rows hr row hrow v hv; simp at hr; subst hr; simp at hrow) ?_
  unfold ac39 ro39
  simp only [zipT]
  have c1 := con47 a b c r xs h1 h2 h3 hL
  rw [decide_eq_false hG] at c1
  repeat (first | refine wG_call c1 rfl rfl ?_ | (first
    | refine wC_a rfl ?_
    | refine q_s rfl ?_
    | refine q_b rfl ?_
    | refine wG_nil ?_
    | refine wG_g rfl ?_
    | refine wG_pure (o_len_vwm rfl) ?_
    | refine wG_pure (o_not_d rfl) ?_
    | refine wG_p rfl (by first | exact rfl | omega) ?_
    | refine wG_pure (o_str2 rfl rfl rfl) ?_
    | refine wG_pure (e_istr rfl rfl (by omega)) ?_
    | refine wG_pure (e_istr0 rfl rfl (by omega)) ?_
    | refine wG_pure (o_not rfl) ?_
    | refine wG_pure (e_ia_vw0 rfl rfl (by omega) rfl) ?_
    | refine wG_pure (e_ia_vwp rfl rfl (by omega) rfl) ?_
    | refine wG_pure (e_ia_vwm rfl rfl (by omega) (by omega) rfl) ?_
    | refine wG_pure (e_ia_vwi rfl rfl (by omega) rfl) ?_
    | refine wG_pure (e_ia_vwn rfl rfl (by omega) (by omega) rfl) ?_
    | refine wG_n rfl rfl ?_
    | refine wG_u rfl rfl ?_
    | refine wG_new (o_mks rfl rfl (by omega) (by decide)) ?_))
  exact ret_ssb (.inr rfl) (by decide) rfl (retV_mv rfl) (retV_mv rfl) (retV_mv rfl) rfl rfl
def hsB (D : List AV) (n : Nat) (s : SB) : List (Nat × Option Ab.Rows) := match s with
  | none => [(3, some [[.bool false]]), (2, some [[.nilS]]), (1, some [[.nilS]]), (0, some [D])]
  | some x => [(9, some (x.1.map iRow)), (10, some (x.2.map iRow)), (3, some [[.bool true]]), (2, some [[.sl 10 1 0 n]]), (1, some [[.sl 9 1 0 n]]), (0, some [D])]
def nrB (s : SB) : Nat := match s with
  | none => 9
  | some _ => 11
theorem hsB_wf {a b c : Bool} {r : Rc} {xs : List Dn} {n : Nat} (s : SB) : wfH (hsB (dtR a b c r xs) n s) (nrB s) := by
  cases s with
  | none => exact wfH_cons (by decide) (by simp [AV.ltr]) (wfH_cons (by decide) (by simp [AV.ltr]) (wfH_cons (by decide) (by simp [AV.ltr]) (wfH_cons (by decide) (dtR_ltr1 _) wfH_nil)))
  | some x => exact wfH_cons (by show 9 < 11; decide) (ltrI _ _) (wfH_cons (by show 10 < 11; decide) (ltrI _ _) (wfH_cons (by show 3 < 11; decide) (by simp [AV.ltr]) (wfH_cons (by show 2 < 11; decide) (by simp [AV.ltr, nrB]) (wfH_cons (by show 1 < 11; decide) (by simp [AV.ltr, nrB]) (wfH_cons (by show 0 < 11; decide) (dtR_ltr1 _) wfH_nil)))))
theorem hsB_key {D : List AV} {n : Nat} {s : SB} {q : Nat} {rows : Ab.Rows} (h : hg (hsB D n s) q = some rows) : q < 4 ∨ 9 ≤ q := by
  by_cases e : q < 4 ∨ 9 ≤ q
  · exact e
  · cases s <;> simp [hsB, Ab.hg, upd, show q ≠ 9 by omega, show q ≠ 10 by omega, show q ≠ 3 by omega, show q ≠ 2 by omega, show q ≠ 1 by omega, show q ≠ 0 by omega] at h
abbrev eB (a b c : Bool) (r : Rc) (xs : List Dn) (ys : List Int) (s : SB) : List (Nat × Option Ab.Rows) := eF (dtR a b c r xs) 4 79 [.pt 3 0 0, .pt 1 0 0, .pt 2 0 0] xs.length ys (hsB (dtR a b c r xs) xs.length s)
theorem eB_wf {a b c : Bool} {r : Rc} {xs : List Dn} {ys : List Int} (s : SB) {nr : Nat} (h : nrB s ≤ nr) (h9 : 9 ≤ nr) : wfH (eB a b c r xs ys s) nr :=
  eF_wf h9 (dtR_ltr _) (by simp [AV.ltr, ltrL]; omega) (wfH_le (hsB_wf s) h)
theorem eB_big {a b c : Bool} {r : Rc} {xs : List Dn} {ys : List Int} {s : SB} {q : Nat} {rows : Ab.Rows} (h : hg (eB a b c r xs ys s) (q + 11) = some rows) : False := by
  cases s <;> simp [eB, eF, hsB, Ab.hg, upd] at h
theorem vis_B {a b c : Bool} {r : Rc} {xs : List Dn} (s : SB) (hs : okB xs.length s) (ys : List Int) (hy : ys.length = xs.length) (hn : xs.length ≤ 1048576) (w : Int) : Sh Try.prog 79 ([.sl (4 + 2) 1 0 xs.length, .int .i64 w] ++ [.pt 3 0 0, .pt 1 0 0, .pt 2 0 0]) (eB a b c r xs ys s) (nrB s) (.tup []) (eB a b c r xs ys (stB s ys w)) (nrB (stB s ys w)) := by
  refine sh_of_wp mixed fun79 (by simp) ?_
  unfold ac79 ro79
  simp only [zipT, List.cons_append, List.nil_append]
  have cC := con73 ys (by omega)
  have e0 : ∀ n : Nat, 0 + ((n : Int)).toNat = n := fun n => by simp
  cases s with
  | none =>
    obtain ⟨lo, hlo⟩ : ∃ lo, lo = ys := ⟨_, rfl⟩
    obtain ⟨hj, hhj⟩ : ∃ hj, hj = ys := ⟨_, rfl⟩
    have l1 : lo.length = xs.length := by rw [hlo]; exact hy
    have l2 : hj.length = xs.length := by rw [hhj]; exact hy
    have e2 : stB none ys w = some (zw min lo ys lo.length, zw max hj ys lo.length) := by rw [hlo, hhj]; rfl
    rw [e2]
    repeat (first | refine wG_call1 cC (ag_sl rfl rfl hy.symm iRow_plain ag_nil) rfl ?_ | refine wG_pure (o_ldf_pt rfl rfl rfl rfl) ?_ | refine wG_upd (o_st1 rfl rfl rfl rfl rfl rfl) ?_ | (first
    | refine wC_a rfl ?_
    | refine q_s rfl ?_
    | refine q_b rfl ?_
    | refine wG_nil ?_
    | refine wG_g rfl ?_
    | refine wG_pure (o_len_vwm rfl) ?_
    | refine wG_pure (o_not_d rfl) ?_
    | refine wG_p rfl (by first | exact rfl | omega) ?_
    | refine wG_pure (o_str2 rfl rfl rfl) ?_
    | refine wG_pure (e_istr rfl rfl (by omega)) ?_
    | refine wG_pure (e_istr0 rfl rfl (by omega)) ?_
    | refine wG_pure (o_not rfl) ?_
    | refine wG_pure (e_ia_vw0 rfl rfl (by omega) rfl) ?_
    | refine wG_pure (e_ia_vwp rfl rfl (by omega) rfl) ?_
    | refine wG_pure (e_ia_vwm rfl rfl (by omega) (by omega) rfl) ?_
    | refine wG_pure (e_ia_vwi rfl rfl (by omega) rfl) ?_
    | refine wG_pure (e_ia_vwn rfl rfl (by omega) (by omega) rfl) ?_
    | refine wG_n rfl rfl ?_
    | refine wG_u rfl rfl ?_
    | refine wG_new (o_mks rfl rfl (by omega) (by decide)) ?_))
    refine wC_loopS Nat (fun i => ⟨[(2, .pt 3 0 0), (3, .pt 1 0 0), (4, .pt 2 0 0), (15, .sl (4 + 2) 1 0 xs.length), (16, .int .i64 (xs.length : Int)), (17, .int .i64 (i : Int))], eB a b c r xs ys (some (zw min lo ys i, zw max hj ys i)), 11⟩) (fun i => i ≤ lo.length) (fun i => lo.length - i) 0 (Nat.zero_le _) (Le_of ⟨⟨rfl, rfl⟩, ⟨rfl, rfl⟩, ⟨rfl, rfl⟩, ⟨rfl, rfl⟩, ⟨rfl, rfl⟩, ⟨rfl, rfl⟩, trivial⟩ (fun q rows hq => ?_) (eB_wf _ (by show 11 ≤ 11; decide) (by show 9 ≤ 11; decide))) (fun _ _ => by show 9 ≤ 11; decide) ?_
    · rw [zw_0, zw_0, hlo, hhj] at hq
      match q, hq with
      | 0, hq => exact hq
      | 1, hq => exact (congrArg (fun k => some [[AV.sl 9 1 0 k]]) hy).trans hq
      | 2, hq => exact (congrArg (fun k => some [[AV.sl 10 1 0 k]]) hy).trans hq
      | 3, hq => exact hq
      | 4, hq => exact hq
      | 5, hq => exact hq
      | 6, hq => exact hq
      | 7, hq => exact hq
      | 8, hq => exact hq
      | 9, hq => exact hq
      | 10, hq => exact hq
      | q + 11, hq => exact (eB_big hq).elim
    intro i hi
    have g1 : hg (eB a b c r xs ys (some (zw min lo ys i, zw max hj ys i))) 1 = some [[.sl 9 1 0 xs.length]] := rfl
    have g2 : hg (eB a b c r xs ys (some (zw min lo ys i, zw max hj ys i))) 2 = some [[.sl 10 1 0 xs.length]] := rfl
    have g6 : hg (eB a b c r xs ys (some (zw min lo ys i, zw max hj ys i))) (4 + 2) = some (ys.map iRow) := rfl
    have g9 : hg (eB a b c r xs ys (some (zw min lo ys i, zw max hj ys i))) 9 = some ((zw min lo ys i).map iRow) := rfl
    have g10 : hg (eB a b c r xs ys (some (zw min lo ys i, zw max hj ys i))) 10 = some ((zw max hj ys i).map iRow) := rfl
    repeat (first
    | refine wC_a rfl ?_
    | refine q_s rfl ?_
    | refine q_b rfl ?_
    | refine wG_nil ?_
    | refine wG_g rfl ?_
    | refine wG_pure (o_len_vwm rfl) ?_
    | refine wG_pure (o_not_d rfl) ?_
    | refine wG_p rfl (by first | exact rfl | omega) ?_
    | refine wG_pure (o_str2 rfl rfl rfl) ?_
    | refine wG_pure (e_istr rfl rfl (by omega)) ?_
    | refine wG_pure (e_istr0 rfl rfl (by omega)) ?_
    | refine wG_pure (o_not rfl) ?_
    | refine wG_pure (e_ia_vw0 rfl rfl (by omega) rfl) ?_
    | refine wG_pure (e_ia_vwp rfl rfl (by omega) rfl) ?_
    | refine wG_pure (e_ia_vwm rfl rfl (by omega) (by omega) rfl) ?_
    | refine wG_pure (e_ia_vwi rfl rfl (by omega) rfl) ?_
    | refine wG_pure (e_ia_vwn rfl rfl (by omega) (by omega) rfl) ?_
    | refine wG_n rfl rfl ?_
    | refine wG_u rfl rfl ?_
    | refine wG_new (o_mks rfl rfl (by omega) (by decide)) ?_)
    refine wC_cond_d rfl (fun h7 => ?_) (fun h7 => ?_)
    · have hi2 : i < lo.length := by omega
      have hi4 : i < hj.length := by omega
      have hi5 : i < ys.length := by omega
      repeat (first | refine wC_dregE ?_ | (refine wE_v (e_ia_sl rfl rfl (by omega) (by omega)) rfl ?_; simp only [e0]) | (refine wG_pure (e_ia_sl rfl rfl (by omega) (by omega)) ?_; simp only [e0]) | refine wG_pure (o_ldf_pt rfl g6 (iGet hi5) rfl) ?_ | refine wE_v (o_ldf_pt rfl g1 rfl rfl) rfl ?_ | refine wE_v (o_ldf_pt rfl (hg_skip (by decide) g2) rfl rfl) rfl ?_ | refine wE_v (o_ldf_pt rfl g9 (zw_get min ys hi2) rfl) rfl ?_ | refine wE_v (o_ldf_pt rfl (hg_skip (by decide) g10) (zw_get max ys hi4) rfl) rfl ?_ | refine wE_upd (o_st1 rfl g9 (zw_get min ys hi2) rfl rfl (zw_set min hi2)) rfl ?_ | refine wE_upd (o_st1 rfl (hg_skip (by decide) g10) (zw_get max ys hi4) rfl rfl (zw_set max hi4)) rfl ?_ | (first
    | refine wC_a rfl ?_
    | refine q_s rfl ?_
    | refine q_b rfl ?_
    | refine wG_nil ?_
    | refine wG_g rfl ?_
    | refine wG_pure (o_len_vwm rfl) ?_
    | refine wG_pure (o_not_d rfl) ?_
    | refine wG_p rfl (by first | exact rfl | omega) ?_
    | refine wG_pure (o_str2 rfl rfl rfl) ?_
    | refine wG_pure (e_istr rfl rfl (by omega)) ?_
    | refine wG_pure (e_istr0 rfl rfl (by omega)) ?_
    | refine wG_pure (o_not rfl) ?_
    | refine wG_pure (e_ia_vw0 rfl rfl (by omega) rfl) ?_
    | refine wG_pure (e_ia_vwp rfl rfl (by omega) rfl) ?_
    | refine wG_pure (e_ia_vwm rfl rfl (by omega) (by omega) rfl) ?_
    | refine wG_pure (e_ia_vwi rfl rfl (by omega) rfl) ?_
    | refine wG_pure (e_ia_vwn rfl rfl (by omega) (by omega) rfl) ?_
    | refine wG_n rfl rfl ?_
    | refine wG_u rfl rfl ?_
    | refine wG_new (o_mks rfl rfl (by omega) (by decide)) ?_) | (first
    | refine wE_nil (by kernel_rfl) ?_
    | refine wE_gy rfl ?_
    | refine wE_gn rfl rfl rfl ?_
    | refine wE_gu rfl rfl ?_
    | refine wE_gnn rfl rfl rfl ?_
    | refine wE_v (o_len_vwm rfl) rfl ?_
    | refine wE_v (o_not_d rfl) rfl ?_
    | refine wE_p rfl (by first | exact rfl | omega) rfl ?_
    | refine wE_v (o_str2 rfl rfl rfl) rfl ?_
    | refine wE_v (e_istr rfl rfl (by omega)) rfl ?_
    | refine wE_v (e_istr0 rfl rfl (by omega)) rfl ?_
    | refine wE_v (o_not rfl) rfl ?_
    | refine wE_v (e_ia_vw0 rfl rfl (by omega) rfl) rfl ?_
    | refine wE_v (e_ia_vwp rfl rfl (by omega) rfl) rfl ?_
    | refine wE_v (e_ia_vwm rfl rfl (by omega) (by omega) rfl) rfl ?_
    | refine wE_v (e_ia_vwi rfl rfl (by omega) rfl) rfl ?_
    | refine wE_v (e_ia_vwn rfl rfl (by omega) (by omega) rfl) rfl ?_
    | refine wE_n rfl rfl rfl ?_
    | refine wE_u rfl rfl rfl ?_
    | refine wE_new (o_mks rfl rfl (by omega) (by decide)) rfl ?_))
      refine ⟨i + 1, hi2, by omega, Le_of ⟨⟨rfl, rfl⟩, ⟨rfl, rfl⟩, ⟨rfl, rfl⟩, ⟨rfl, rfl⟩, ⟨rfl, rfl⟩, ⟨rfl, rfl⟩, trivial⟩ (fun q rows hq => ?_) (eB_wf _ (by show 11 ≤ 11; decide) (by show 9 ≤ 11; decide))⟩
      match q, hq with
      | 0, hq => exact hq
      | 1, hq => exact hq
      | 2, hq => exact hq
      | 3, hq => exact hq
      | 4, hq => exact hq
      | 5, hq => exact hq
      | 6, hq => exact hq
      | 7, hq => exact hq
      | 8, hq => exact hq
      | 9, hq => exact hq
      | 10, hq => exact hq
      | q + 11, hq => exact (eB_big hq).elim
    · have hi3 : i = lo.length := by omega
      repeat (first
    | refine wC_a rfl ?_
    | refine q_s rfl ?_
    | refine q_b rfl ?_
    | refine wG_nil ?_
    | refine wG_g rfl ?_
    | refine wG_pure (o_len_vwm rfl) ?_
    | refine wG_pure (o_not_d rfl) ?_
    | refine wG_p rfl (by first | exact rfl | omega) ?_
    | refine wG_pure (o_str2 rfl rfl rfl) ?_
    | refine wG_pure (e_istr rfl rfl (by omega)) ?_
    | refine wG_pure (e_istr0 rfl rfl (by omega)) ?_
    | refine wG_pure (o_not rfl) ?_
    | refine wG_pure (e_ia_vw0 rfl rfl (by omega) rfl) ?_
    | refine wG_pure (e_ia_vwp rfl rfl (by omega) rfl) ?_
    | refine wG_pure (e_ia_vwm rfl rfl (by omega) (by omega) rfl) ?_
    | refine wG_pure (e_ia_vwi rfl rfl (by omega) rfl) ?_
    | refine wG_pure (e_ia_vwn rfl rfl (by omega) (by omega) rfl) ?_
    | refine wG_n rfl rfl ?_
    | refine wG_u rfl rfl ?_
    | refine wG_new (o_mks rfl rfl (by omega) (by decide)) ?_)
      refine ⟨trivial, [], rfl, Le_of ⟨⟨rfl, rfl⟩, trivial⟩ (fun q rows hq => ?_) (eB_wf _ (by show 11 ≤ 11; decide) (by show 9 ≤ 11; decide)), (by first | exact Nat.le_refl _ | (show 9 ≤ 11; decide))⟩
      rw [hi3]
      exact hq
  | some x =>
    obtain ⟨lo, hj⟩ := x
    obtain ⟨l1, l2⟩ := hs lo hj rfl
    have e2 : stB (some (lo, hj)) ys w = some (zw min lo ys lo.length, zw max hj ys lo.length) := rfl
    rw [e2]
    repeat (first | refine wG_pure (o_ldf_pt rfl rfl rfl rfl) ?_ | (first
    | refine wC_a rfl ?_
    | refine q_s rfl ?_
    | refine q_b rfl ?_
    | refine wG_nil ?_
    | refine wG_g rfl ?_
    | refine wG_pure (o_len_vwm rfl) ?_
    | refine wG_pure (o_not_d rfl) ?_
    | refine wG_p rfl (by first | exact rfl | omega) ?_
    | refine wG_pure (o_str2 rfl rfl rfl) ?_
    | refine wG_pure (e_istr rfl rfl (by omega)) ?_
    | refine wG_pure (e_istr0 rfl rfl (by omega)) ?_
    | refine wG_pure (o_not rfl) ?_
    | refine wG_pure (e_ia_vw0 rfl rfl (by omega) rfl) ?_
    | refine wG_pure (e_ia_vwp rfl rfl (by omega) rfl) ?_
    | refine wG_pure (e_ia_vwm rfl rfl (by omega) (by omega) rfl) ?_
    | refine wG_pure (e_ia_vwi rfl rfl (by omega) rfl) ?_
    | refine wG_pure (e_ia_vwn rfl rfl (by omega) (by omega) rfl) ?_
    | refine wG_n rfl rfl ?_
    | refine wG_u rfl rfl ?_
    | refine wG_new (o_mks rfl rfl (by omega) (by decide)) ?_))
    refine wC_loopS Nat (fun i => ⟨[(2, .pt 3 0 0), (3, .pt 1 0 0), (4, .pt 2 0 0), (15, .sl (4 + 2) 1 0 xs.length), (16, .int .i64 (xs.length : Int)), (17, .int .i64 (i : Int))], eB a b c r xs ys (some (zw min lo ys i, zw max hj ys i)), 11⟩) (fun i => i ≤ lo.length) (fun i => lo.length - i) 0 (Nat.zero_le _) (Le_of ⟨⟨rfl, rfl⟩, ⟨rfl, rfl⟩, ⟨rfl, rfl⟩, ⟨rfl, rfl⟩, ⟨rfl, rfl⟩, ⟨rfl, rfl⟩, trivial⟩ (fun q rows hq => ?_) (eB_wf _ (by show 11 ≤ 11; decide) (by show 9 ≤ 11; decide))) (fun _ _ => by show 11 ≤ 11; decide) ?_
    · rw [zw_0, zw_0] at hq
      exact hq
    intro i hi
    have g1 : hg (eB a b c r xs ys (some (zw min lo ys i, zw max hj ys i))) 1 = some [[.sl 9 1 0 xs.length]] := rfl
    have g2 : hg (eB a b c r xs ys (some (zw min lo ys i, zw max hj ys i))) 2 = some [[.sl 10 1 0 xs.length]] := rfl
    have g6 : hg (eB a b c r xs ys (some (zw min lo ys i, zw max hj ys i))) (4 + 2) = some (ys.map iRow) := rfl
    have g9 : hg (eB a b c r xs ys (some (zw min lo ys i, zw max hj ys i))) 9 = some ((zw min lo ys i).map iRow) := rfl
    have g10 : hg (eB a b c r xs ys (some (zw min lo ys i, zw max hj ys i))) 10 = some ((zw max hj ys i).map iRow) := rfl
    repeat (first
    | refine wC_a rfl ?_
    | refine q_s rfl ?_
    | refine q_b rfl ?_
    | refine wG_nil ?_
    | refine wG_g rfl ?_
    | refine wG_pure (o_len_vwm rfl) ?_
    | refine wG_pure (o_not_d rfl) ?_
    | refine wG_p rfl (by first | exact rfl | omega) ?_
    | refine wG_pure (o_str2 rfl rfl rfl) ?_
    | refine wG_pure (e_istr rfl rfl (by omega)) ?_
    | refine wG_pure (e_istr0 rfl rfl (by omega)) ?_
    | refine wG_pure (o_not rfl) ?_
    | refine wG_pure (e_ia_vw0 rfl rfl (by omega) rfl) ?_
    | refine wG_pure (e_ia_vwp rfl rfl (by omega) rfl) ?_
    | refine wG_pure (e_ia_vwm rfl rfl (by omega) (by omega) rfl) ?_
    | refine wG_pure (e_ia_vwi rfl rfl (by omega) rfl) ?_
    | refine wG_pure (e_ia_vwn rfl rfl (by omega) (by omega) rfl) ?_
    | refine wG_n rfl rfl ?_
    | refine wG_u rfl rfl ?_
    | refine wG_new (o_mks rfl rfl (by omega) (by decide)) ?_)
    refine wC_cond_d rfl (fun h7 => ?_) (fun h7 => ?_)
    · have hi2 : i < lo.length := by omega
      have hi4 : i < hj.length := by omega
      have hi5 : i < ys.length := by omega
      repeat (first | refine wC_dregE ?_ | (refine wE_v (e_ia_sl rfl rfl (by omega) (by omega)) rfl ?_; simp only [e0]) | (refine wG_pure (e_ia_sl rfl rfl (by omega) (by omega)) ?_; simp only [e0]) | refine wG_pure (o_ldf_pt rfl g6 (iGet hi5) rfl) ?_ | refine wE_v (o_ldf_pt rfl g1 rfl rfl) rfl ?_ | refine wE_v (o_ldf_pt rfl (hg_skip (by decide) g2) rfl rfl) rfl ?_ | refine wE_v (o_ldf_pt rfl g9 (zw_get min ys hi2) rfl) rfl ?_ | refine wE_v (o_ldf_pt rfl (hg_skip (by decide) g10) (zw_get max ys hi4) rfl) rfl ?_ | refine wE_upd (o_st1 rfl g9 (zw_get min ys hi2) rfl rfl (zw_set min hi2)) rfl ?_ | refine wE_upd (o_st1 rfl (hg_skip (by decide) g10) (zw_get max ys hi4) rfl rfl (zw_set max hi4)) rfl ?_ | (first
    | refine wC_a rfl ?_
    | refine q_s rfl ?_
    | refine q_b rfl ?_
    | refine wG_nil ?_
    | refine wG_g rfl ?_
    | refine wG_pure (o_len_vwm rfl) ?_
    | refine wG_pure (o_not_d rfl) ?_
    | refine wG_p rfl (by first | exact rfl | omega) ?_
    | refine wG_pure (o_str2 rfl rfl rfl) ?_
    | refine wG_pure (e_istr rfl rfl (by omega)) ?_
    | refine wG_pure (e_istr0 rfl rfl (by omega)) ?_
    | refine wG_pure (o_not rfl) ?_
    | refine wG_pure (e_ia_vw0 rfl rfl (by omega) rfl) ?_
    | refine wG_pure (e_ia_vwp rfl rfl (by omega) rfl) ?_
    | refine wG_pure (e_ia_vwm rfl rfl (by omega) (by omega) rfl) ?_
    | refine wG_pure (e_ia_vwi rfl rfl (by omega) rfl) ?_
    | refine wG_pure (e_ia_vwn rfl rfl (by omega) (by omega) rfl) ?_
    | refine wG_n rfl rfl ?_
    | refine wG_u rfl rfl ?_
    | refine wG_new (o_mks rfl rfl (by omega) (by decide)) ?_) | (first
    | refine wE_nil (by kernel_rfl) ?_
    | refine wE_gy rfl ?_
    | refine wE_gn rfl rfl rfl ?_
    | refine wE_gu rfl rfl ?_
    | refine wE_gnn rfl rfl rfl ?_
    | refine wE_v (o_len_vwm rfl) rfl ?_
    | refine wE_v (o_not_d rfl) rfl ?_
    | refine wE_p rfl (by first | exact rfl | omega) rfl ?_
    | refine wE_v (o_str2 rfl rfl rfl) rfl ?_
    | refine wE_v (e_istr rfl rfl (by omega)) rfl ?_
    | refine wE_v (e_istr0 rfl rfl (by omega)) rfl ?_
    | refine wE_v (o_not rfl) rfl ?_
    | refine wE_v (e_ia_vw0 rfl rfl (by omega) rfl) rfl ?_
    | refine wE_v (e_ia_vwp rfl rfl (by omega) rfl) rfl ?_
    | refine wE_v (e_ia_vwm rfl rfl (by omega) (by omega) rfl) rfl ?_
    | refine wE_v (e_ia_vwi rfl rfl (by omega) rfl) rfl ?_
    | refine wE_v (e_ia_vwn rfl rfl (by omega) (by omega) rfl) rfl ?_
    | refine wE_n rfl rfl rfl ?_
    | refine wE_u rfl rfl rfl ?_
    | refine wE_new (o_mks rfl rfl (by omega) (by decide)) rfl ?_))
      refine ⟨i + 1, hi2, by omega, Le_of ⟨⟨rfl, rfl⟩, ⟨rfl, rfl⟩, ⟨rfl, rfl⟩, ⟨rfl, rfl⟩, ⟨rfl, rfl⟩, ⟨rfl, rfl⟩, trivial⟩ (fun q rows hq => ?_) (eB_wf _ (by show 11 ≤ 11; decide) (by show 9 ≤ 11; decide))⟩
      match q, hq with
      | 0, hq => exact hq
      | 1, hq => exact hq
      | 2, hq => exact hq
      | 3, hq => exact hq
      | 4, hq => exact hq
      | 5, hq => exact hq
      | 6, hq => exact hq
      | 7, hq => exact hq
      | 8, hq => exact hq
      | 9, hq => exact hq
      | 10, hq => exact hq
      | q + 11, hq => exact (eB_big hq).elim
    · have hi3 : i = lo.length := by omega
      repeat (first
    | refine wC_a rfl ?_
    | refine q_s rfl ?_
    | refine q_b rfl ?_
    | refine wG_nil ?_
    | refine wG_g rfl ?_
    | refine wG_pure (o_len_vwm rfl) ?_
    | refine wG_pure (o_not_d rfl) ?_
    | refine wG_p rfl (by first | exact rfl | omega) ?_
    | refine wG_pure (o_str2 rfl rfl rfl) ?_
    | refine wG_pure (e_istr rfl rfl (by omega)) ?_
    | refine wG_pure (e_istr0 rfl rfl (by omega)) ?_
    | refine wG_pure (o_not rfl) ?_
    | refine wG_pure (e_ia_vw0 rfl rfl (by omega) rfl) ?_
    | refine wG_pure (e_ia_vwp rfl rfl (by omega) rfl) ?_
    | refine wG_pure (e_ia_vwm rfl rfl (by omega) (by omega) rfl) ?_
    | refine wG_pure (e_ia_vwi rfl rfl (by omega) rfl) ?_
    | refine wG_pure (e_ia_vwn rfl rfl (by omega) (by omega) rfl) ?_
    | refine wG_n rfl rfl ?_
    | refine wG_u rfl rfl ?_
    | refine wG_new (o_mks rfl rfl (by omega) (by decide)) ?_)
      refine ⟨trivial, [], rfl, Le_of ⟨⟨rfl, rfl⟩, trivial⟩ (fun q rows hq => ?_) (eB_wf _ (by show 11 ≤ 11; decide) (by show 9 ≤ 11; decide)), (by first | exact Nat.le_refl _ | (show 9 ≤ 11; decide))⟩
      rw [hi3]
      exact hq
theorem stB_mono (s : SB) (ys : List Int) (w : Int) : nrB s ≤ nrB (stB s ys w) := by
  cases s with
  | none => show 9 ≤ 11; decide
  | some x => exact Nat.le_refl _
theorem con40_all (a b c : Bool) (r : Rc) (xs : List Dn) (h1 : r.cs.length ≤ 1048576) (h2 : r.xs.length ≤ 1048576) (h3 : xs.length ≤ 1048576) (hL : LenN xs 1048576) (hG : GoodN r xs) : (bS r xs (cp xs xs.length) = none → Con Try.prog 40 true [.agg (dtR a b c r xs)] (.tup [.nilS, .nilS, .bool false]) []) ∧ (∀ x, bS r xs (cp xs xs.length) = some x → Con Try.prog 40 true [.agg (dtR a b c r xs)] (.tup [.sl 0 1 0 xs.length, .sl 1 1 0 xs.length, .bool true]) [x.1.map iRow, x.2.map iRow]) := by
  classical
  have c1 := con24 a b c r xs h1 h2 h3 hL
  rw [decide_eq_true hG] at c1
  have hE := (each_sh (σ := SB) (step := stB) (J := okB xs.length) (hs := hsB (dtR a b c r xs) xs.length) (nrS := nrB) (a := a) (b := b) (c := c) (r := r) (xs := xs) (N := 4) (fv := 79) (caps := [.pt 3 0 0, .pt 1 0 0, .pt 2 0 0]) hG (fun s => by cases s <;> simp [nrB]) (fun s hs => hsB_wf s) rfl stB_mono (fun s ys w hs hy hw _ => ⟨vis_B s hs ys hy h3 w, stB_ok hs hy⟩) (fun s q rows _ hq => hsB_key hq) none (fun lo hi e => by cases e) rfl h3).1
  rw [each_fd hG] at hE
  change Sh _ _ _ _ _ _ (hsB (dtR a b c r xs) xs.length (bS r xs (cp xs xs.length))) (nrB (bS r xs (cp xs xs.length))) at hE
  generalize bS r xs (cp xs xs.length) = z at *
  have hE2 : Sh Try.prog 69 [.agg (dtR a b c r xs), .fn 79 [.pt 3 0 0, .pt 1 0 0, .pt 2 0 0]] [(3, some [[.bool false]]), (3, some [[.bool false]]), (2, some [[.nilS]]), (1, some [[.nilS]]), (0, some [dtR a b c r xs])] 4 (.tup []) (hsB (dtR a b c r xs) xs.length z) (nrB z) := by
    refine Sh_hg ?_ hE
    exact (hg_two (r := 3) (x := some [[.bool false]]) (y := some [[.bool false]])).symm
  constructor
  · intro hz
    subst hz
    refine con_of_wp mixed fun40 (by simp) [] plain_nil ?_
    unfold ac40 ro40
    simp only [zipT]
    repeat (first | refine wC_dregE ?_ | refine wG_call c1 rfl rfl ?_ | refine wG_pure (o_mkf rfl) ?_ | refine wG_callS hE2 rfl ?_ | refine wE_v (o_ldf_pt rfl rfl rfl rfl) rfl ?_ | (first
    | refine wC_a rfl ?_
    | refine q_s rfl ?_
    | refine q_b rfl ?_
    | refine wG_nil ?_
    | refine wG_g rfl ?_
    | refine wG_pure (o_len_vwm rfl) ?_
    | refine wG_pure (o_not_d rfl) ?_
    | refine wG_p rfl (by first | exact rfl | omega) ?_
    | refine wG_pure (o_str2 rfl rfl rfl) ?_
    | refine wG_pure (e_istr rfl rfl (by omega)) ?_
    | refine wG_pure (e_istr0 rfl rfl (by omega)) ?_
    | refine wG_pure (o_not rfl) ?_
    | refine wG_pure (e_ia_vw0 rfl rfl (by omega) rfl) ?_
    | refine wG_pure (e_ia_vwp rfl rfl (by omega) rfl) ?_
    | refine wG_pure (e_ia_vwm rfl rfl (by omega) (by omega) rfl) ?_
    | refine wG_pure (e_ia_vwi rfl rfl (by omega) rfl) ?_
    | refine wG_pure (e_ia_vwn rfl rfl (by omega) (by omega) rfl) ?_
    | refine wG_n rfl rfl ?_
    | refine wG_u rfl rfl ?_
    | refine wG_new (o_mks rfl rfl (by omega) (by decide)) ?_) | (first
    | refine wE_nil (by kernel_rfl) ?_
    | refine wE_gy rfl ?_
    | refine wE_gn rfl rfl rfl ?_
    | refine wE_gu rfl rfl ?_
    | refine wE_gnn rfl rfl rfl ?_
    | refine wE_v (o_len_vwm rfl) rfl ?_
    | refine wE_v (o_not_d rfl) rfl ?_
    | refine wE_p rfl (by first | exact rfl | omega) rfl ?_
    | refine wE_v (o_str2 rfl rfl rfl) rfl ?_
    | refine wE_v (e_istr rfl rfl (by omega)) rfl ?_
    | refine wE_v (e_istr0 rfl rfl (by omega)) rfl ?_
    | refine wE_v (o_not rfl) rfl ?_
    | refine wE_v (e_ia_vw0 rfl rfl (by omega) rfl) rfl ?_
    | refine wE_v (e_ia_vwp rfl rfl (by omega) rfl) rfl ?_
    | refine wE_v (e_ia_vwm rfl rfl (by omega) (by omega) rfl) rfl ?_
    | refine wE_v (e_ia_vwi rfl rfl (by omega) rfl) rfl ?_
    | refine wE_v (e_ia_vwn rfl rfl (by omega) (by omega) rfl) rfl ?_
    | refine wE_n rfl rfl rfl ?_
    | refine wE_u rfl rfl rfl ?_
    | refine wE_new (o_mks rfl rfl (by omega) (by decide)) rfl ?_))
    exact ret_pl (.inr rfl) (retVs_3 (retV_mv rfl) (retV_mv rfl) (retV_mv rfl)) rfl rfl (by simp)
  · intro x hz
    subst hz
    refine con_of_wp mixed fun40 (by simp) [9, 10] (by intro rows hr row hrow v hv; simp at hr; rcases hr with rfl | rfl <;> exact rowsP _ row hrow v hv) ?_
    unfold ac40 ro40
    simp only [zipT]
    repeat (first | refine wC_dregE ?_ | refine wG_call c1 rfl rfl ?_ | refine wG_pure (o_mkf rfl) ?_ | refine wG_callS hE2 rfl ?_ | refine wE_v (o_ldf_pt rfl rfl rfl rfl) rfl ?_ | (first
    | refine wC_a rfl ?_
    | refine q_s rfl ?_
    | refine q_b rfl ?_
    | refine wG_nil ?_
    | refine wG_g rfl ?_
    | refine wG_pure (o_len_vwm rfl) ?_
    | refine wG_pure (o_not_d rfl) ?_
    | refine wG_p rfl (by first | exact rfl | omega) ?_
    | refine wG_pure (o_str2 rfl rfl rfl) ?_
    | refine wG_pure (e_istr rfl rfl (by omega)) ?_
    | refine wG_pure (e_istr0 rfl rfl (by omega)) ?_
    | refine wG_pure (o_not rfl) ?_
    | refine wG_pure (e_ia_vw0 rfl rfl (by omega) rfl) ?_
    | refine wG_pure (e_ia_vwp rfl rfl (by omega) rfl) ?_
    | refine wG_pure (e_ia_vwm rfl rfl (by omega) (by omega) rfl) ?_
    | refine wG_pure (e_ia_vwi rfl rfl (by omega) rfl) ?_
    | refine wG_pure (e_ia_vwn rfl rfl (by omega) (by omega) rfl) ?_
    | refine wG_n rfl rfl ?_
    | refine wG_u rfl rfl ?_
    | refine wG_new (o_mks rfl rfl (by omega) (by decide)) ?_) | (first
    | refine wE_nil (by kernel_rfl) ?_
    | refine wE_gy rfl ?_
    | refine wE_gn rfl rfl rfl ?_
    | refine wE_gu rfl rfl ?_
    | refine wE_gnn rfl rfl rfl ?_
    | refine wE_v (o_len_vwm rfl) rfl ?_
    | refine wE_v (o_not_d rfl) rfl ?_
    | refine wE_p rfl (by first | exact rfl | omega) rfl ?_
    | refine wE_v (o_str2 rfl rfl rfl) rfl ?_
    | refine wE_v (e_istr rfl rfl (by omega)) rfl ?_
    | refine wE_v (e_istr0 rfl rfl (by omega)) rfl ?_
    | refine wE_v (o_not rfl) rfl ?_
    | refine wE_v (e_ia_vw0 rfl rfl (by omega) rfl) rfl ?_
    | refine wE_v (e_ia_vwp rfl rfl (by omega) rfl) rfl ?_
    | refine wE_v (e_ia_vwm rfl rfl (by omega) (by omega) rfl) rfl ?_
    | refine wE_v (e_ia_vwi rfl rfl (by omega) rfl) rfl ?_
    | refine wE_v (e_ia_vwn rfl rfl (by omega) (by omega) rfl) rfl ?_
    | refine wE_n rfl rfl rfl ?_
    | refine wE_u rfl rfl rfl ?_
    | refine wE_new (o_mks rfl rfl (by omega) (by decide)) rfl ?_))
    exact ret_ssb (.inr rfl) (by decide) rfl (retV_mv rfl) (retV_mv rfl) (retV_mv rfl) rfl rfl
theorem con40_no (a b c : Bool) (r : Rc) (xs : List Dn) (h1 : r.cs.length ≤ 1048576) (h2 : r.xs.length ≤ 1048576) (h3 : xs.length ≤ 1048576) (hL : LenN xs 1048576) (hG : ¬ GoodN r xs) : Con Try.prog 40 true [.agg (dtR a b c r xs)] (.tup [.nilS, .nilS, .bool false]) [] := by
  classical
  refine con_of_wp mixed fun40 (by simp) [] plain_nil ?_
  unfold ac40 ro40
  simp only [zipT]
  have c1 := con24 a b c r xs h1 h2 h3 hL
  rw [decide_eq_false hG] at c1
  repeat (first | refine wG_call c1 rfl rfl ?_ | (first
    | refine wC_a rfl ?_
    | refine q_s rfl ?_
    | refine q_b rfl ?_
    | refine wG_nil ?_
    | refine wG_g rfl ?_
    | refine wG_pure (o_len_vwm rfl) ?_
    | refine wG_pure (o_not_d rfl) ?_
    | refine wG_p rfl (by first | exact rfl | omega) ?_
    | refine wG_pure (o_str2 rfl rfl rfl) ?_
    | refine wG_pure (e_istr rfl rfl (by omega)) ?_
    | refine wG_pure (e_istr0 rfl rfl (by omega)) ?_
    | refine wG_pure (o_not rfl) ?_
    | refine wG_pure (e_ia_vw0 rfl rfl (by omega) rfl) ?_
    | refine wG_pure (e_ia_vwp rfl rfl (by omega) rfl) ?_
    | refine wG_pure (e_ia_vwm rfl rfl (by omega) (by omega) rfl) ?_
    | refine wG_pure (e_ia_vwi rfl rfl (by omega) rfl) ?_
    | refine wG_pure (e_ia_vwn rfl rfl (by omega) (by omega) rfl) ?_
    | refine wG_n rfl rfl ?_
    | refine wG_u rfl rfl ?_
    | refine wG_new (o_mks rfl rfl (by omega) (by decide)) ?_))
  exact ret_pl (.inr rfl) (retVs_3 (retV_mv rfl) (retV_mv rfl) (retV_mv rfl)) rfl rfl (by simp)
end Go.Proofs.Ytkeobnaehgcloaa.Dst
