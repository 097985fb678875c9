/- What a call may look at; heaps out of which something has been taken. -/
import Derived.Test.YtkeobnaehgcloaaDnX
import Derived.Test.YtkeobnaehgcloaaDwC
import Derived.Test.YtkeobnaehgcloaaDnV
import Derived.Test.YtkeobnaehgcloaaDnD
namespace Go.Proofs.Ytkeobnaehgcloaa.Dst
open Go Go.Proofs.Ytkeobnaehgcloaa.Ab Go.Proofs.Ytkeobnaehgcloaa.Il Go.Proofs.Ytkeobnaehgcloaa.Rec
set_option maxRecDepth 10000
set_option maxHeartbeats 8000000
set_option linter.unusedSimpArgs false
set_option linter.unusedVariables false

theorem ltr_mem {m : Nat} : ∀ {cs : List AV}, ltrL m cs = true → ∀ x ∈ cs, AV.ltr m x = true
  | [], _, x, hx => absurd hx (by simp)
  | c :: cs, h, x, hx => by
    simp only [ltrL, Bool.and_eq_true] at h
    rcases List.mem_cons.1 hx with rfl | h2
    · exact h.1
    · exact ltr_mem h.2 x h2
theorem reach_lt {h : List (Nat × Option Ab.Rows)} {m : Nat} (hw : wfH h m) : ∀ (n : Nat) (v : AV), AV.ltr m v = true → ∀ x ∈ Ab.reach (hg h) n v, x < m
  | 0, v, _, x, hx => by simp [Ab.reach] at hx
  | n + 1, v, hv, x, hx => by
    have IH := reach_lt hw n
    cases v with
    | sl r sz off len =>
      have hr : r < m := by simpa [AV.ltr] using hv
      simp only [Ab.reach, List.mem_cons] at hx
      rcases hx with rfl | hx
      · exact hr
      · cases e : hg h r with
        | none => rw [e] at hx; simp at hx
        | some rows =>
          rw [e] at hx
          simp only [List.mem_flatMap] at hx
          obtain ⟨row, h1, y, h2, h3⟩ := hx
          have h4 : row ∈ rows := List.mem_of_mem_drop (List.mem_of_mem_take h1)
          exact IH y ((hw r rows e).2 row h4 y h2) x h3
    | pt r i j =>
      have hr : r < m := by simpa [AV.ltr] using hv
      simp only [Ab.reach, List.mem_cons] at hx
      rcases hx with rfl | hx
      · exact hr
      · cases e : hg h r with
        | none => rw [e] at hx; simp at hx
        | some rows =>
          rw [e] at hx
          simp only at hx
          cases e2 : rows[i]? with
          | none => rw [e2] at hx; simp at hx
          | some row =>
            rw [e2] at hx
            simp only [List.mem_flatMap] at hx
            obtain ⟨y, h2, h3⟩ := hx
            exact IH y ((hw r rows e).2 row (List.mem_of_getElem? e2) y (List.mem_of_mem_drop h2)) x h3
    | agg cs =>
      simp only [Ab.reach, List.mem_flatMap] at hx
      obtain ⟨y, h2, h3⟩ := hx
      exact IH y (ltr_mem (by simpa [AV.ltr] using hv) y h2) x h3
    | tup cs =>
      simp only [Ab.reach, List.mem_flatMap] at hx
      obtain ⟨y, h2, h3⟩ := hx
      exact IH y (ltr_mem (by simpa [AV.ltr] using hv) y h2) x h3
    | fn f cs =>
      simp only [Ab.reach, List.mem_flatMap] at hx
      obtain ⟨y, h2, h3⟩ := hx
      exact IH y (ltr_mem (by simpa [AV.ltr] using hv) y h2) x h3
    | _ => simp [Ab.reach] at hx
theorem rds_lt {h : List (Nat × Option Ab.Rows)} {m f : Nat} {args : List AX} {T : Nat → AV} (hw : wfH h m) (ha : ltrL m (args.map (gT T)) = true) : ∀ x ∈ rds (.call f args) (gT T) (hg h), x < m := by
  intro x hx
  simp only [rds, List.mem_flatMap] at hx
  obtain ⟨a, h1, h2⟩ := hx
  exact reach_lt hw 6 _ (ltr_mem ha _ (List.mem_map_of_mem h1)) x h2
theorem djBz {z : Nat} {l : List Nat} (h : ∀ x ∈ l, x < z) : djB [z] l = true := by
  unfold djB
  simp only [List.all_cons, List.all_nil, Bool.and_true, Bool.not_eq_true', List.contains_eq_mem, decide_eq_false_iff_not]
  intro hz
  exact absurd (h z hz) (Nat.lt_irrefl z)
theorem djBw {z : Nat} {l : List Nat} (h : ∀ x ∈ l, x < z) : djB l [z] = true := by
  unfold djB
  rw [List.all_eq_true]
  intro x hx
  have := h x hx
  simp; omega
theorem djBd {l m : List Nat} {z : Nat} (h : ∀ x ∈ l, z ≤ x) (h2 : ∀ x ∈ m, x < z) : djB l m = true := by
  unfold djB
  rw [List.all_eq_true]
  intro x hx
  have h3 := h x hx
  simp only [Bool.not_eq_true', List.contains_eq_mem, decide_eq_false_iff_not]
  intro hm
  have := h2 x hm
  omega
theorem djB1' {a b : Nat} (h : a ≠ b) : djB [a] [b] = true := by simp [djB, h]
theorem hok12 {z : Nat} {W1 W4 W5 r0 r1 r3 r4 r5 r6 r7 r8 r10 r11 : List Nat} (h13 : djB W1 r3 = true) (a1 : djB W1 [z] = true) (a4 : djB W4 [z] = true) (a5 : djB W5 [z] = true) (b0 : djB [z] r0 = true) (b1 : djB [z] r1 = true) (b3 : djB [z] r3 = true) (b4 : djB [z] r4 = true) (b5 : djB [z] r5 = true) (b6 : djB [z] r6 = true) (b7 : djB [z] r7 = true) (b8 : djB [z] r8 = true) :
    hokB [[], [0], [], [], [0, 1, 3], [0, 1, 2, 3, 4], [0, 1, 2, 3, 4, 5], [0, 1, 2, 3, 4, 5, 6], [0, 1, 2, 3, 4, 5, 6], [], [0, 1, 2, 3, 4, 5, 6, 7, 9], [0, 1, 2, 3, 4, 5, 6, 7, 8, 9, 10]] [([], r0), (W1, r1), ([], []), ([], r3), (W4, r4), (W5, r5), ([], r6), ([], r7), ([], r8), ([z], []), ([z], r10), ([], r11)] = true := by
  have e : ∀ l : List Nat, djB [] l = true := fun l => rfl
  have e2 : ∀ l : List Nat, djB l [] = true := fun l => by simp [djB]
  simp [hokB, List.range, List.range.loop, e, e2, h13, a1, a4, a5, b0, b1, b3, b4, b5, b6, b7, b8]
theorem djBm {m n z : Nat} {objs : List Ab.Rows} (h : m + objs.length ≤ n) (hz : n ≤ z) : djB ((mkh m objs).map (·.1)) [z] = true := djBw fun x hx => by have := (mkh_fst objs m x hx).2; omega
/-- A heap without k objects from m on. -/
def rmv (m k : Nat) (h : List (Nat × Option Ab.Rows)) : List (Nat × Option Ab.Rows) := (List.range k).map (fun i => (m + i, none)) ++ h
theorem hg_rmvA (m : Nat) (h : List (Nat × Option Ab.Rows)) (y : Nat) : ∀ l : List Nat, hg (l.map (fun i => (m + i, (none : Option Ab.Rows))) ++ h) y = if ∃ i ∈ l, y = m + i then none else hg h y
  | [] => by simp
  | a :: l => by
    have e : hg ((a :: l).map (fun i => (m + i, (none : Option Ab.Rows))) ++ h) y = if y = m + a then none else hg (l.map (fun i => (m + i, (none : Option Ab.Rows))) ++ h) y := rfl
    rw [e, hg_rmvA m h y l]
    by_cases h1 : y = m + a
    · rw [if_pos h1, if_pos ⟨a, List.mem_cons_self, h1⟩]
    · rw [if_neg h1]
      by_cases h2 : ∃ i ∈ l, y = m + i
      · obtain ⟨i, hi, e2⟩ := h2
        rw [if_pos ⟨i, hi, e2⟩, if_pos ⟨i, List.mem_cons_of_mem _ hi, e2⟩]
      · rw [if_neg h2, if_neg]
        rintro ⟨i, hi, e2⟩
        rcases List.mem_cons.1 hi with rfl | h3
        · exact h1 e2
        · exact h2 ⟨i, h3, e2⟩
theorem rmv_out {m k y : Nat} {h : List (Nat × Option Ab.Rows)} {o : Option Ab.Rows} (hy : y < m ∨ m + k ≤ y) (h1 : hg h y = o) : hg (rmv m k h) y = o := by
  rw [rmv, hg_rmvA, if_neg]
  · exact h1
  · rintro ⟨i, hi, rfl⟩
    have := List.mem_range.1 hi
    omega
theorem rmv_sub {m k y : Nat} {h : List (Nat × Option Ab.Rows)} {rows : Ab.Rows} (h1 : hg (rmv m k h) y = some rows) : hg h y = some rows ∧ (y < m ∨ m + k ≤ y) := by
  rw [rmv, hg_rmvA] at h1
  split at h1
  · cases h1
  · rename_i hn
    refine ⟨h1, ?_⟩
    by_cases g : m ≤ y ∧ y < m + k
    · exact absurd ⟨y - m, List.mem_range.2 (by omega), by omega⟩ hn
    · omega
theorem rmv_wf {m k nr : Nat} {h : List (Nat × Option Ab.Rows)} (hw : wfH h nr) : wfH (rmv m k h) nr := fun y rows hy => hw y rows (rmv_sub hy).1
end Go.Proofs.Ytkeobnaehgcloaa.Dst
namespace Go.Proofs.Ytkeobnaehgcloaa.Dst
open Go Go.Proofs.Ytkeobnaehgcloaa.Ab Go.Proofs.Ytkeobnaehgcloaa.Il Go.Proofs.Ytkeobnaehgcloaa.Rec
attribute [local irreducible] wpO wpC wpDr wpQ wpG wpE stepA seqQ blkQ Ret RetG ev
set_option maxRecDepth 10000
set_option maxHeartbeats 8000000
set_option linter.unusedSimpArgs false
set_option linter.unusedVariables false

def ac3 : AC := (.seq (.reg [⟨(some 3), none, (.box 3 true (.t 0))⟩, ⟨(some 5), none, (.box 2 true (.t 2))⟩, ⟨(some 6), none, (.mv (.c (.bool false)))⟩]) (.seq (.reg [⟨(some 7), none, (.mv (.c (.int .i64 1048576)))⟩]) (.seq (.reg [⟨(some 19), none, (.ld true 3 (.t 3))⟩, ⟨(some 20), none, (.mv (.t 7))⟩, ⟨(some 21), none, (.call 12 [(.t 19), (.t 20)])⟩, ⟨(some 7), none, (.mv (.t 21))⟩]) (.seq (.seq (.reg [⟨(some 22), none, (.mv (.t 7))⟩, ⟨(some 23), none, (.bin .lss (.t 22) (.c (.int .i64 0)))⟩]) (.cond (.t 23) (.seq (.reg [⟨(some 6), none, (.mv (.c (.bool true)))⟩]) .ret) .skip)) (.seq (.reg [⟨(some 24), none, (.ld true 2 (.t 5))⟩, ⟨(some 25), none, (.mv (.t 7))⟩, ⟨(some 26), none, (.call 13 [(.t 24), (.t 25)])⟩, ⟨(some 7), none, (.mv (.t 26))⟩]) (.seq (.seq (.reg [⟨(some 27), none, (.mv (.t 7))⟩, ⟨(some 28), none, (.bin .lss (.t 27) (.c (.int .i64 0)))⟩]) (.cond (.t 28) (.seq (.reg [⟨(some 6), none, (.mv (.c (.bool true)))⟩]) .ret) .skip)) (.seq (.dreg [⟨(some 30), none, (.ld true 3 (.t 3))⟩, ⟨(some 31), none, (.call 15 [(.t 30)])⟩, ⟨(some 32), none, (.mv (.t 1))⟩, ⟨(some 33), none, (.ld true 2 (.t 5))⟩, ⟨(some 34), none, (.call 16 [(.t 33)])⟩, ⟨(some 35), none, (.call 14 [(.t 31), (.t 32), (.t 34)])⟩, ⟨(some 29), none, (.mv (.t 35))⟩, ⟨(some 36), none, (.ext (.t 29) 0)⟩, ⟨(some 37), none, (.ext (.t 29) 1)⟩, ⟨(some 8), none, (.alloc [.nilS, .nilS, .nilS])⟩, ⟨none, none, (.st 3 (.t 8) (.t 36))⟩, ⟨(some 9), none, (.mv (.t 37))⟩] [[], [0], [], [], [0, 1, 3], [0, 1, 2, 3, 4], [0, 1, 2, 3, 4, 5], [0, 1, 2, 3, 4, 5, 6], [0, 1, 2, 3, 4, 5, 6], [], [0, 1, 2, 3, 4, 5, 6, 7, 9], [0, 1, 2, 3, 4, 5, 6, 7, 8, 9, 10]]) (.seq (.reg [⟨(some 38), none, (.ld true 3 (.t 3))⟩, ⟨(some 39), none, (.call 15 [(.t 38)])⟩, ⟨(some 10), none, (.alloc [.nilS, .nilS, .nilS])⟩, ⟨none, none, (.st 3 (.t 10) (.t 39))⟩]) (.seq (.reg [⟨(some 40), none, (.ld true 2 (.t 5))⟩, ⟨(some 41), none, (.call 16 [(.t 40)])⟩, ⟨(some 11), none, (.alloc [(.int .i64 0), .nilS])⟩, ⟨none, none, (.st 2 (.t 11) (.t 41))⟩]) (.seq (.reg [⟨(some 43), none, (.ld true 3 (.t 10))⟩, ⟨(some 44), none, (.mv (.t 1))⟩, ⟨(some 45), none, (.ld true 2 (.t 11))⟩, ⟨(some 46), none, (.call 17 [(.t 43), (.t 44), (.t 45)])⟩, ⟨(some 42), none, (.mv (.t 46))⟩, ⟨(some 47), none, (.ext (.t 42) 0)⟩, ⟨(some 48), none, (.ext (.t 42) 1)⟩, ⟨(some 12), none, (.alloc [.nilS, .nilS, .nilS])⟩, ⟨none, none, (.st 3 (.t 12) (.t 47))⟩, ⟨(some 13), none, (.mv (.t 48))⟩]) (.seq (.seq (.reg [⟨(some 49), none, (.ld true 3 (.t 12))⟩, ⟨(some 50), none, (.ld true 3 (.t 8))⟩, ⟨(some 51), none, (.call 18 [(.t 49), (.t 50)])⟩, ⟨(some 52), none, (.un .not (.t 51))⟩, ⟨(some 53), none, (.mv (.t 52))⟩, ⟨(some 54), (some (53, false)), (.mv (.t 13))⟩, ⟨(some 55), (some (53, false)), (.mv (.t 9))⟩, ⟨(some 56), (some (53, false)), (.bool2 true (.t 54) (.t 55))⟩, ⟨(some 57), none, (.pick (.t 53) (.c (.bool true)) (.t 56))⟩]) (.cond (.t 57) (.seq (.reg [⟨(some 6), none, (.mv (.c (.bool false)))⟩]) .ret) .skip)) (.seq (.seq (.dreg [⟨(some 58), none, (.ld true 3 (.t 10))⟩, ⟨(some 59), none, (.ld true 3 (.t 3))⟩, ⟨(some 60), none, (.call 15 [(.t 59)])⟩, ⟨(some 61), none, (.call 18 [(.t 58), (.t 60)])⟩, ⟨(some 62), none, (.un .not (.t 61))⟩] [[], [], [1], [0, 1, 2], [0, 1, 2, 3]]) (.cond (.t 62) (.seq (.reg [⟨(some 6), none, (.mv (.c (.bool false)))⟩]) .ret) .skip)) (.seq (.seq (.dreg [⟨(some 63), none, (.ld true 2 (.t 11))⟩, ⟨(some 64), none, (.ld true 2 (.t 5))⟩, ⟨(some 65), none, (.call 16 [(.t 64)])⟩, ⟨(some 66), none, (.call 19 [(.t 63), (.t 65)])⟩, ⟨(some 67), none, (.un .not (.t 66))⟩] [[], [], [1], [0, 1, 2], [0, 1, 2, 3]]) (.cond (.t 67) (.seq (.reg [⟨(some 6), none, (.mv (.c (.bool false)))⟩]) .ret) .skip)) (.seq (.reg [⟨(some 14), none, (.mv (.c (.int .i64 1)))⟩]) (.seq (.reg [⟨(some 68), none, (.ld true 3 (.t 10))⟩, ⟨(some 69), none, (.mv (.t 14))⟩, ⟨(some 70), none, (.call 20 [(.t 68), (.t 69)])⟩, ⟨(some 14), none, (.mv (.t 70))⟩]) (.seq (.reg [⟨(some 71), none, (.ld true 2 (.t 11))⟩, ⟨(some 72), none, (.mv (.t 14))⟩, ⟨(some 73), none, (.call 21 [(.t 71), (.t 72)])⟩, ⟨(some 14), none, (.mv (.t 73))⟩]) (.seq (.seq (.reg [⟨(some 74), none, (.mv (.t 14))⟩, ⟨(some 75), none, (.bin .lss (.t 74) (.c (.int .i64 0)))⟩, ⟨(some 76), none, (.mv (.t 75))⟩, ⟨(some 77), (some (76, false)), (.ld true 3 (.t 12))⟩, ⟨(some 78), (some (76, false)), (.ld true 3 (.t 8))⟩, ⟨(some 79), (some (76, false)), (.call 18 [(.t 77), (.t 78)])⟩, ⟨(some 80), (some (76, false)), (.un .not (.t 79))⟩, ⟨(some 81), none, (.pick (.t 76) (.c (.bool true)) (.t 80))⟩, ⟨(some 82), none, (.mv (.t 81))⟩, ⟨(some 83), (some (82, false)), (.mv (.t 13))⟩, ⟨(some 84), (some (82, false)), (.mv (.t 9))⟩, ⟨(some 85), (some (82, false)), (.bool2 true (.t 83) (.t 84))⟩, ⟨(some 86), none, (.pick (.t 82) (.c (.bool true)) (.t 85))⟩]) (.cond (.t 86) (.seq (.reg [⟨(some 6), none, (.mv (.c (.bool false)))⟩]) .ret) .skip)) (.seq (.reg [⟨(some 15), none, (.mv (.c (.int .i64 1)))⟩]) (.seq (.reg [⟨(some 87), none, (.ld true 3 (.t 12))⟩, ⟨(some 88), none, (.mv (.t 15))⟩, ⟨(some 89), none, (.call 20 [(.t 87), (.t 88)])⟩, ⟨(some 15), none, (.mv (.t 89))⟩]) (.seq (.reg [⟨(some 16), none, (.mv (.c (.int .i64 1)))⟩]) (.seq (.reg [⟨(some 90), none, (.ld true 3 (.t 12))⟩, ⟨(some 91), none, (.mv (.t 16))⟩, ⟨(some 92), none, (.call 22 [(.t 90), (.t 91)])⟩, ⟨(some 16), none, (.mv (.t 92))⟩]) (.seq (.seq (.reg [⟨(some 93), none, (.mv (.t 16))⟩, ⟨(some 94), none, (.bin .lss (.t 93) (.c (.int .i64 0)))⟩]) (.cond (.t 94) (.seq (.reg [⟨(some 6), none, (.mv (.c (.bool false)))⟩]) .ret) .skip)) (.seq (.seq (.reg [⟨(some 95), none, (.mv (.t 16))⟩, ⟨(some 96), none, (.mv (.t 15))⟩, ⟨(some 97), none, (.bin .neq (.t 95) (.t 96))⟩]) (.cond (.t 97) (.seq (.reg [⟨(some 6), none, (.mv (.c (.bool false)))⟩]) .ret) .skip)) (.seq (.dreg [⟨(some 99), none, (.ld true 3 (.t 3))⟩, ⟨(some 100), none, (.call 15 [(.t 99)])⟩, ⟨(some 101), none, (.mv (.t 1))⟩, ⟨(some 102), none, (.ld true 2 (.t 5))⟩, ⟨(some 103), none, (.call 16 [(.t 102)])⟩, ⟨(some 104), none, (.call 17 [(.t 100), (.t 101), (.t 103)])⟩, ⟨(some 98), none, (.mv (.t 104))⟩, ⟨(some 105), none, (.ext (.t 98) 0)⟩, ⟨(some 106), none, (.ext (.t 98) 1)⟩, ⟨(some 17), none, (.alloc [.nilS, .nilS, .nilS])⟩, ⟨none, none, (.st 3 (.t 17) (.t 105))⟩, ⟨(some 18), none, (.mv (.t 106))⟩] [[], [0], [], [], [0, 1, 3], [0, 1, 2, 3, 4], [0, 1, 2, 3, 4, 5], [0, 1, 2, 3, 4, 5, 6], [0, 1, 2, 3, 4, 5, 6], [], [0, 1, 2, 3, 4, 5, 6, 7, 9], [0, 1, 2, 3, 4, 5, 6, 7, 8, 9, 10]]) (.seq (.seq (.reg [⟨(some 107), none, (.ld true 3 (.t 17))⟩, ⟨(some 108), none, (.ld true 3 (.t 8))⟩, ⟨(some 109), none, (.call 18 [(.t 107), (.t 108)])⟩, ⟨(some 110), none, (.un .not (.t 109))⟩, ⟨(some 111), none, (.mv (.t 110))⟩, ⟨(some 112), (some (111, false)), (.mv (.t 18))⟩, ⟨(some 113), (some (111, false)), (.mv (.t 9))⟩, ⟨(some 114), (some (111, false)), (.bool2 true (.t 112) (.t 113))⟩, ⟨(some 115), none, (.pick (.t 111) (.c (.bool true)) (.t 114))⟩]) (.cond (.t 115) (.seq (.reg [⟨(some 6), none, (.mv (.c (.bool false)))⟩]) .ret) .skip)) (.seq (.reg [⟨(some 16), none, (.mv (.c (.int .i64 1)))⟩]) (.seq (.reg [⟨(some 116), none, (.ld true 3 (.t 12))⟩, ⟨(some 117), none, (.mv (.t 16))⟩, ⟨(some 118), none, (.call 22 [(.t 116), (.t 117)])⟩, ⟨(some 16), none, (.mv (.t 118))⟩]) (.seq (.seq (.reg [⟨(some 119), none, (.mv (.t 16))⟩, ⟨(some 120), none, (.bin .lss (.t 119) (.c (.int .i64 0)))⟩]) (.cond (.t 120) (.seq (.reg [⟨(some 6), none, (.mv (.c (.bool false)))⟩]) .ret) .skip)) (.seq (.seq (.reg [⟨(some 121), none, (.mv (.t 16))⟩, ⟨(some 122), none, (.mv (.t 15))⟩, ⟨(some 123), none, (.bin .neq (.t 121) (.t 122))⟩]) (.cond (.t 123) (.seq (.reg [⟨(some 6), none, (.mv (.c (.bool false)))⟩]) .ret) .skip)) (.seq (.reg [⟨(some 6), none, (.mv (.c (.bool true)))⟩]) .ret))))))))))))))))))))))))))))))
def ro3 : List AOp := [(.mv (.t 6))]
theorem fun3 : Fun Try.prog 3 124 ac3 ro3 := ⟨Try.f3, _, Try.func3, by kernel_rfl, rfl, rfl, by kernel_rfl, by kernel_rfl, by decide⟩

abbrev HP := List (Nat × Option Ab.Rows)
theorem hpG {P : Program} {os : List AO} {t : List (Nat × AV)} {h : HP} {nr : Nat} {K : St → Prop} (F : HP → Prop) (hf : F h) (hw : ∀ H, F H → wpG P false os ⟨t, H, nr⟩ K) : wpG P false os ⟨t, h, nr⟩ K := hw h hf
theorem wE_nilF {P : Program} {A : List (List Nat)} {acc : List (List Nat × List Nat)} {t : List (Nat × AV)} {h : HP} {nr : Nat} {K : St → Prop} (F : HP → Prop) (hh : hokB A acc.reverse = true) (hf : F h) (hw : ∀ H, F H → K ⟨t, H, nr⟩) : wpE P A [] ⟨t, h, nr⟩ acc K := wE_nil hh (hw h hf)
def bx3 (s : Nat) (r : Rc) (Y : List Dn) : List AV := [.sl s 2 0 r.cs.length, .sl (s + 1) 2 0 r.xs.length, .sl (s + 2) 2 0 Y.length]
/-- The inputs, and the record of the reference with its place. -/
structure FA (R0 E0 : List AV) (r : Rc) (Y : List Dn) (s z : Nat) (H : HP) : Prop where
  f0 : hg H 0 = some [R0]
  f1 : hg H 1 = some [E0]
  fy : ∀ i rows, (dtO r Y)[i]? = some rows → hg H (s + i) = some (shR s rows)
  fz : hg H z = some [bx3 s r Y]
structure FM (r : Rc) (xs : List Dn) (m p : Nat) (H : HP) : Prop where
  fm : ∀ i rows, (dtO r xs)[i]? = some rows → hg H (m + i) = some (shR m rows)
  fp : hg H p = some [bx3 m r xs]
structure FE (e : Ds) (p : Nat) (H : HP) : Prop where
  fl : hg H p = some (e.ws.map iRow)
  fb : hg H (p + 1) = some [[.int .i64 e.f, .sl p 1 0 e.ws.length]]
theorem FA.mv {R0 E0 : List AV} {r : Rc} {Y : List Dn} {s z : Nat} {H H' : HP} (f : FA R0 E0 r Y s z H) (D : Nat → Prop) (k : ∀ i o, D i → hg H i = o → hg H' i = o) (d0 : D 0) (d1 : D 1) (ds : ∀ i, i < Y.length + 3 → D (s + i)) (dz : D z) : FA R0 E0 r Y s z H' := ⟨k _ _ d0 f.f0, k _ _ d1 f.f1, fun i rows hi => k _ _ (ds i (dtO_lt hi)) (f.fy i rows hi), k _ _ dz f.fz⟩
theorem FM.mv {r : Rc} {xs : List Dn} {m p : Nat} {H H' : HP} (f : FM r xs m p H) (D : Nat → Prop) (k : ∀ i o, D i → hg H i = o → hg H' i = o) (ds : ∀ i, i < xs.length + 3 → D (m + i)) (dz : D p) : FM r xs m p H' := ⟨fun i rows hi => k _ _ (ds i (dtO_lt hi)) (f.fm i rows hi), k _ _ dz f.fp⟩
theorem FE.mv {e : Ds} {p : Nat} {H H' : HP} (f : FE e p H) (D : Nat → Prop) (k : ∀ i o, D i → hg H i = o → hg H' i = o) (d0 : D p) (d1 : D (p + 1)) : FE e p H' := ⟨k _ _ d0 f.fl, k _ _ d1 f.fb⟩
theorem sL_b {Y : List Dn} {B : Nat} : ∀ n, (∀ i, i < n → (Y.getD i default).d.ws.length ≤ B) → sL Y n ≤ B * n
  | 0, _ => Nat.le_refl _
  | n + 1, h => by
    have h1 := sL_b n (fun i hi => h i (by omega))
    have h2 := h n (by omega)
    rw [sL, Nat.mul_succ]; omega
theorem dtV_M (g : Nat) (r : Rc) (Y : List Dn) : dtV g (rM r) (xM r Y) = dtV g r Y := by unfold dtV; rw [rM_cs, rM_xs, xM_len]
theorem bx3_M (g : Nat) (r : Rc) (Y : List Dn) : bx3 g (rM r) (xM r Y) = bx3 g r Y := by unfold bx3; rw [rM_cs, rM_xs, xM_len]
theorem lawA_yes (a b c nn : Bool) (r : Rc) (xs : List Dn) (x : Int) (e : Ds) (Y : List Dn) (h1' : r.cs.length ≤ 1048576) (h2' : r.xs.length ≤ 1048576) (h3' : xs.length ≤ 1048576) (hL' : LenN xs 1048576) (he : e.ws.length ≤ 1048576) (hY10 : Y.length ≤ 10) (hY60 : ∀ i, i < Y.length → (Y.getD i default).d.ws.length ≤ 60) (hS : sL xs xs.length ≤ 1048576)
    (cS : ConG Try.prog 14 true [.agg (dtR true true true r (tD xs)), .int .i64 x, .agg (dRow true e)] (aY r Y.length) (dtO r Y)) (cI : ConG Try.prog 17 true [.agg (dtR true true true r (tD xs)), .int .i64 x, .agg (dRow true e)] (aY r Y.length) (dtO r Y))
    (l1 l2 : Int) (hl1 : 0 ≤ l1) (hl2 : 0 ≤ l2) (c1 : Con Try.prog 12 true [.agg (dtR a b c r xs), .int .i64 1048576] (.int .i64 l1) []) (c2 : Con Try.prog 13 true [.agg (dRow nn e), .int .i64 l1] (.int .i64 l2) []) : Con Try.prog 3 true [.agg (dtR a b c r xs), .int .i64 x, .agg (dRow nn e)] (.bool true) [] := by
  classical
  refine con_of_wp mixed fun3 (by simp) [] plain_nil ?_
  unfold ac3 ro3
  simp only [zipT]
  have h3t : (tD xs).length ≤ 1048576 := by rw [tD_len]; exact h3'
  have hLt := hL'.t
  have cT := con15 a b c r xs h1' h2' h3' hL'
  have cD := con16 nn e he
  have cE := con18 true true true true true true r (tD xs) h1' h2' h3t hLt
  have cY := con18 true true true true true true r (tD Y) h1' h2' (by rw [tD_len]; omega) (fun i hi => by rw [tD_d]; rw [tD_len] at hi; have := hY60 i hi; omega)
  have cQ := con19_same true true e he
  have hSY : sL Y Y.length ≤ 1048576 := by have := sL_b Y.length hY60; omega
  have hlen := dtO_len r xs
  have hlenY := dtO_len r Y
  have d1 : decide (l1 < 0) = false := decide_eq_false (by omega)
  have d2 : decide (l2 < 0) = false := decide_eq_false (by omega)
  repeat (first | refine wG_call c1 rfl rfl ?_ | (first
    | refine wC_a rfl ?_
    | refine q_s rfl ?_
    | refine q_b rfl ?_
    | refine wG_nil ?_
    | refine wG_g rfl ?_
    | refine wG_pure (o_len_vwm rfl) ?_
    | refine wG_pure (o_not_d rfl) ?_
    | refine wG_p rfl (by first | exact rfl | omega) ?_
    | refine wG_pure (o_str2 rfl rfl rfl) ?_
    | refine wG_pure (e_istr rfl rfl (by omega)) ?_
    | refine wG_pure (e_istr0 rfl rfl (by omega)) ?_
    | refine wG_pure (o_not rfl) ?_
    | refine wG_pure (e_ia_vw0 rfl rfl (by omega) rfl) ?_
    | refine wG_pure (e_ia_vwp rfl rfl (by omega) rfl) ?_
    | refine wG_pure (e_ia_vwm rfl rfl (by omega) (by omega) rfl) ?_
    | refine wG_pure (e_ia_vwi rfl rfl (by omega) rfl) ?_
    | refine wG_pure (e_ia_vwn rfl rfl (by omega) (by omega) rfl) ?_
    | refine wG_n rfl rfl ?_
    | refine wG_u rfl rfl ?_
    | refine wG_new (o_mks rfl rfl (by omega) (by decide)) ?_))
  simp only [d1]
  repeat (first | refine wG_call c2 rfl rfl ?_ | (first
    | refine wC_a rfl ?_
    | refine q_s rfl ?_
    | refine q_b rfl ?_
    | refine wG_nil ?_
    | refine wG_g rfl ?_
    | refine wG_pure (o_len_vwm rfl) ?_
    | refine wG_pure (o_not_d rfl) ?_
    | refine wG_p rfl (by first | exact rfl | omega) ?_
    | refine wG_pure (o_str2 rfl rfl rfl) ?_
    | refine wG_pure (e_istr rfl rfl (by omega)) ?_
    | refine wG_pure (e_istr0 rfl rfl (by omega)) ?_
    | refine wG_pure (o_not rfl) ?_
    | refine wG_pure (e_ia_vw0 rfl rfl (by omega) rfl) ?_
    | refine wG_pure (e_ia_vwp rfl rfl (by omega) rfl) ?_
    | refine wG_pure (e_ia_vwm rfl rfl (by omega) (by omega) rfl) ?_
    | refine wG_pure (e_ia_vwi rfl rfl (by omega) rfl) ?_
    | refine wG_pure (e_ia_vwn rfl rfl (by omega) (by omega) rfl) ?_
    | refine wG_n rfl rfl ?_
    | refine wG_u rfl rfl ?_
    | refine wG_new (o_mks rfl rfl (by omega) (by decide)) ?_))
  simp only [d2]
  repeat (first | refine wC_dregE ?_ | refine wE_callG (v' := dtV 2 r xs) (rd := []) cT rfl rfl rfl rfl ?_ | (first
    | refine wC_a rfl ?_
    | refine q_s rfl ?_
    | refine q_b rfl ?_
    | refine wG_nil ?_
    | refine wG_g rfl ?_
    | refine wG_pure (o_len_vwm rfl) ?_
    | refine wG_pure (o_not_d rfl) ?_
    | refine wG_p rfl (by first | exact rfl | omega) ?_
    | refine wG_pure (o_str2 rfl rfl rfl) ?_
    | refine wG_pure (e_istr rfl rfl (by omega)) ?_
    | refine wG_pure (e_istr0 rfl rfl (by omega)) ?_
    | refine wG_pure (o_not rfl) ?_
    | refine wG_pure (e_ia_vw0 rfl rfl (by omega) rfl) ?_
    | refine wG_pure (e_ia_vwp rfl rfl (by omega) rfl) ?_
    | refine wG_pure (e_ia_vwm rfl rfl (by omega) (by omega) rfl) ?_
    | refine wG_pure (e_ia_vwi rfl rfl (by omega) rfl) ?_
    | refine wG_pure (e_ia_vwn rfl rfl (by omega) (by omega) rfl) ?_
    | refine wG_n rfl rfl ?_
    | refine wG_u rfl rfl ?_
    | refine wG_new (o_mks rfl rfl (by omega) (by decide)) ?_) | (first
    | refine wE_nil (by kernel_rfl) ?_
    | refine wE_gy rfl ?_
    | refine wE_gn rfl rfl rfl ?_
    | refine wE_gu rfl rfl ?_
    | refine wE_gnn rfl rfl rfl ?_
    | refine wE_v (o_len_vwm rfl) rfl ?_
    | refine wE_v (o_not_d rfl) rfl ?_
    | refine wE_p rfl (by first | exact rfl | omega) rfl ?_
    | refine wE_v (o_str2 rfl rfl rfl) rfl ?_
    | refine wE_v (e_istr rfl rfl (by omega)) rfl ?_
    | refine wE_v (e_istr0 rfl rfl (by omega)) rfl ?_
    | refine wE_v (o_not rfl) rfl ?_
    | refine wE_v (e_ia_vw0 rfl rfl (by omega) rfl) rfl ?_
    | refine wE_v (e_ia_vwp rfl rfl (by omega) rfl) rfl ?_
    | refine wE_v (e_ia_vwm rfl rfl (by omega) (by omega) rfl) rfl ?_
    | refine wE_v (e_ia_vwi rfl rfl (by omega) rfl) rfl ?_
    | refine wE_v (e_ia_vwn rfl rfl (by omega) (by omega) rfl) rfl ?_
    | refine wE_n rfl rfl rfl ?_
    | refine wE_u rfl rfl rfl ?_
    | refine wE_new (o_mks rfl rfl (by omega) (by decide)) rfl ?_))
  change wpE _ _ _ ⟨_, dtH 2 r xs _, _⟩ _ _
  obtain ⟨y1, hy1⟩ : ∃ y1, 0 + 1 + 1 + (dtO r xs).length = y1 := ⟨_, rfl⟩
  rw [hy1]
  refine wE_v (o_ldt_pt rfl (dtH_out (by omega) rfl) rfl rfl rfl) rfl ?_
  refine wE_call1 (rd := []) cD rfl rfl rfl ?_
  refine wE_callG (v' := .tup [dtV (y1 + 1) r Y, .bool true]) cS (ag_any (dr_dt r xs (fun i rows hi => hg_skip (by have := dtO_lt hi; omega) (dtH_in hi))) (ag_int rfl (ag_is rfl hg_here rfl iRow_plain ag_nil))) rfl rfl rfl ?_
  change wpE _ _ _ ⟨_, dtH (y1 + 1) r Y _, _⟩ _ _
  obtain ⟨z1, hz1⟩ : ∃ z1, y1 + 1 + (dtO r Y).length = z1 := ⟨_, rfl⟩
  rw [hz1]
  have hwA : wfH ((y1, some (e.ws.map iRow)) :: dtH 2 r xs [(1, some [dRow nn e]), (0, some [dtR a b c r xs])]) (y1 + 1) := wfH_cons (by omega) (ltrI _ _) (dtH_wf (by omega) (wfH_cons (by omega) (by simp [dRow, AV.ltr]) (wfH_cons (by omega) (by simp [dtR, AV.ltr]) wfH_nil)))
  repeat (first | refine wE_upd (o_st_agg rfl hg_here rfl rfl rfl rfl rfl) rfl ?_ | refine wE_nilF (fun H => FA (dtR a b c r xs) (dRow nn e) r Y (y1 + 1) z1 H ∧ wfH H (z1 + 1)) ?_ ⟨⟨?_, ?_, ?_, ?_⟩, ?_⟩ ?_ | (first
    | refine wE_nil (by kernel_rfl) ?_
    | refine wE_gy rfl ?_
    | refine wE_gn rfl rfl rfl ?_
    | refine wE_gu rfl rfl ?_
    | refine wE_gnn rfl rfl rfl ?_
    | refine wE_v (o_len_vwm rfl) rfl ?_
    | refine wE_v (o_not_d rfl) rfl ?_
    | refine wE_p rfl (by first | exact rfl | omega) rfl ?_
    | refine wE_v (o_str2 rfl rfl rfl) rfl ?_
    | refine wE_v (e_istr rfl rfl (by omega)) rfl ?_
    | refine wE_v (e_istr0 rfl rfl (by omega)) rfl ?_
    | refine wE_v (o_not rfl) rfl ?_
    | refine wE_v (e_ia_vw0 rfl rfl (by omega) rfl) rfl ?_
    | refine wE_v (e_ia_vwp rfl rfl (by omega) rfl) rfl ?_
    | refine wE_v (e_ia_vwm rfl rfl (by omega) (by omega) rfl) rfl ?_
    | refine wE_v (e_ia_vwi rfl rfl (by omega) rfl) rfl ?_
    | refine wE_v (e_ia_vwn rfl rfl (by omega) (by omega) rfl) rfl ?_
    | refine wE_n rfl rfl rfl ?_
    | refine wE_u rfl rfl rfl ?_
    | refine wE_new (o_mks rfl rfl (by omega) (by decide)) rfl ?_))
  · refine hok12 ?_ ?_ ?_ ?_ ?_ ?_ ?_ ?_ ?_ ?_ ?_ ?_
    · exact djB_mkh (by omega)
    · exact djBm (by rw [List.length_map]; exact Nat.le_refl _) (by omega)
    · exact djB1' (by omega)
    · exact djBm (by rw [List.length_map]; exact Nat.le_refl _) (by omega)
    · exact djB1' (by omega)
    · rfl
    · exact djB1' (by omega)
    · rfl
    · exact djBz fun x hx => Nat.lt_of_lt_of_le (rds_lt hwA (by show ltrL _ [dtV 2 r xs, .int .i64 _, .agg [.int .i64 e.f, .sl y1 1 0 e.ws.length]] = true; simp [dtV, AV.ltr, ltrL]; omega) x hx) (by omega)
    · rfl
    · rfl
    · rfl
  · exact hg_skip (by omega) (hg_skip (by omega) (dtH_out (by omega) (hg_skip (by omega) (dtH_out (by omega) rfl))))
  · exact hg_skip (by omega) (hg_skip (by omega) (dtH_out (by omega) (hg_skip (by omega) (dtH_out (by omega) rfl))))
  · exact fun i rows hi => hg_skip (by have := dtO_lt hi; omega) (hg_skip (by have := dtO_lt hi; omega) (dtH_in hi))
  · exact hg_here
  · exact wfH_cons (by omega) (by simp [put, AV.ltr]; omega) (wfH_cons (by omega) (by simp [AV.ltr]) (dtH_wf (by omega) (wfH_le hwA (by omega))))
  rintro H1 ⟨fa, fw⟩
  repeat (first | refine wG_pure (o_ldt_pt rfl fa.f0 rfl rfl rfl) ?_ | (first
    | refine wC_a rfl ?_
    | refine q_s rfl ?_
    | refine q_b rfl ?_
    | refine wG_nil ?_
    | refine wG_g rfl ?_
    | refine wG_pure (o_len_vwm rfl) ?_
    | refine wG_pure (o_not_d rfl) ?_
    | refine wG_p rfl (by first | exact rfl | omega) ?_
    | refine wG_pure (o_str2 rfl rfl rfl) ?_
    | refine wG_pure (e_istr rfl rfl (by omega)) ?_
    | refine wG_pure (e_istr0 rfl rfl (by omega)) ?_
    | refine wG_pure (o_not rfl) ?_
    | refine wG_pure (e_ia_vw0 rfl rfl (by omega) rfl) ?_
    | refine wG_pure (e_ia_vwp rfl rfl (by omega) rfl) ?_
    | refine wG_pure (e_ia_vwm rfl rfl (by omega) (by omega) rfl) ?_
    | refine wG_pure (e_ia_vwi rfl rfl (by omega) rfl) ?_
    | refine wG_pure (e_ia_vwn rfl rfl (by omega) (by omega) rfl) ?_
    | refine wG_n rfl rfl ?_
    | refine wG_u rfl rfl ?_
    | refine wG_new (o_mks rfl rfl (by omega) (by decide)) ?_))
  refine wG_callG (v' := dtV (z1 + 1) r xs) cT rfl rfl rfl ?_
  change wpG _ _ _ ⟨_, dtH (z1 + 1) r xs _, _⟩ _
  obtain ⟨p1, hp1⟩ : ∃ p1, z1 + 1 + (dtO r xs).length = p1 := ⟨_, rfl⟩
  rw [hp1]
  repeat (first | refine wG_upd (o_st_agg rfl hg_here rfl rfl rfl rfl rfl) ?_ | (first
    | refine wC_a rfl ?_
    | refine q_s rfl ?_
    | refine q_b rfl ?_
    | refine wG_nil ?_
    | refine wG_g rfl ?_
    | refine wG_pure (o_len_vwm rfl) ?_
    | refine wG_pure (o_not_d rfl) ?_
    | refine wG_p rfl (by first | exact rfl | omega) ?_
    | refine wG_pure (o_str2 rfl rfl rfl) ?_
    | refine wG_pure (e_istr rfl rfl (by omega)) ?_
    | refine wG_pure (e_istr0 rfl rfl (by omega)) ?_
    | refine wG_pure (o_not rfl) ?_
    | refine wG_pure (e_ia_vw0 rfl rfl (by omega) rfl) ?_
    | refine wG_pure (e_ia_vwp rfl rfl (by omega) rfl) ?_
    | refine wG_pure (e_ia_vwm rfl rfl (by omega) (by omega) rfl) ?_
    | refine wG_pure (e_ia_vwi rfl rfl (by omega) rfl) ?_
    | refine wG_pure (e_ia_vwn rfl rfl (by omega) (by omega) rfl) ?_
    | refine wG_n rfl rfl ?_
    | refine wG_u rfl rfl ?_
    | refine wG_new (o_mks rfl rfl (by omega) (by decide)) ?_))
  refine wG_pure (o_ldt_pt rfl (hg_skip (by omega) (hg_skip (by omega) (dtH_out (by omega) fa.f1))) rfl rfl rfl) ?_
  repeat (first | refine wG_call1 cD rfl rfl ?_ | refine wG_upd (o_st_agg rfl hg_here rfl rfl rfl rfl rfl) ?_ | (first
    | refine wC_a rfl ?_
    | refine q_s rfl ?_
    | refine q_b rfl ?_
    | refine wG_nil ?_
    | refine wG_g rfl ?_
    | refine wG_pure (o_len_vwm rfl) ?_
    | refine wG_pure (o_not_d rfl) ?_
    | refine wG_p rfl (by first | exact rfl | omega) ?_
    | refine wG_pure (o_str2 rfl rfl rfl) ?_
    | refine wG_pure (e_istr rfl rfl (by omega)) ?_
    | refine wG_pure (e_istr0 rfl rfl (by omega)) ?_
    | refine wG_pure (o_not rfl) ?_
    | refine wG_pure (e_ia_vw0 rfl rfl (by omega) rfl) ?_
    | refine wG_pure (e_ia_vwp rfl rfl (by omega) rfl) ?_
    | refine wG_pure (e_ia_vwm rfl rfl (by omega) (by omega) rfl) ?_
    | refine wG_pure (e_ia_vwi rfl rfl (by omega) rfl) ?_
    | refine wG_pure (e_ia_vwn rfl rfl (by omega) (by omega) rfl) ?_
    | refine wG_n rfl rfl ?_
    | refine wG_u rfl rfl ?_
    | refine wG_new (o_mks rfl rfl (by omega) (by decide)) ?_))
  refine hpG (fun H => FA (dtR a b c r xs) (dRow nn e) r Y (y1 + 1) z1 H ∧ FM r xs (z1 + 1) p1 H ∧ FE e (p1 + 1) H ∧ wfH H (p1 + 1 + 1 + 1)) ⟨fa.mv (· < z1 + 1) (fun i o hi ho => hg_skip (by omega) (hg_skip (by omega) (hg_skip (by omega) (hg_skip (by omega) (hg_skip (by omega) (dtH_out (by omega) ho)))))) (by omega) (by omega) (fun i hi => by omega) (by omega), ⟨fun i rows hi => ?_, ?_⟩, ⟨?_, ?_⟩, ?_⟩ ?_
  · have := dtO_lt hi
    exact hg_skip (by omega) (hg_skip (by omega) (hg_skip (by omega) (hg_skip (by omega) (hg_skip (by omega) (dtH_in hi)))))
  · exact hg_skip (by omega) (hg_skip (by omega) (hg_skip (by omega) hg_here))
  · exact hg_skip (by omega) (hg_skip (by omega) hg_here)
  · exact hg_here
  · exact wfH_cons (rows := [[.int .i64 e.f, .sl (p1 + 1) 1 0 e.ws.length]]) (by omega) (by simp [AV.ltr]) (wfH_cons (by omega) (by simp [AV.ltr]) (wfH_cons (by omega) (ltrI _ _) (wfH_cons (by omega) (by simp [put, AV.ltr]; omega) (wfH_cons (by omega) (by simp [AV.ltr]) (dtH_wf (by omega) (wfH_le fw (by omega)))))))
  clear fa fw
  rintro H2 ⟨fa, fm, fe, fw⟩
  repeat (first | refine wG_pure (o_ldt_pt rfl fm.fp rfl rfl rfl) ?_ | refine wG_pure (o_ldt_pt rfl fe.fb rfl rfl rfl) ?_ | (first
    | refine wC_a rfl ?_
    | refine q_s rfl ?_
    | refine q_b rfl ?_
    | refine wG_nil ?_
    | refine wG_g rfl ?_
    | refine wG_pure (o_len_vwm rfl) ?_
    | refine wG_pure (o_not_d rfl) ?_
    | refine wG_p rfl (by first | exact rfl | omega) ?_
    | refine wG_pure (o_str2 rfl rfl rfl) ?_
    | refine wG_pure (e_istr rfl rfl (by omega)) ?_
    | refine wG_pure (e_istr0 rfl rfl (by omega)) ?_
    | refine wG_pure (o_not rfl) ?_
    | refine wG_pure (e_ia_vw0 rfl rfl (by omega) rfl) ?_
    | refine wG_pure (e_ia_vwp rfl rfl (by omega) rfl) ?_
    | refine wG_pure (e_ia_vwm rfl rfl (by omega) (by omega) rfl) ?_
    | refine wG_pure (e_ia_vwi rfl rfl (by omega) rfl) ?_
    | refine wG_pure (e_ia_vwn rfl rfl (by omega) (by omega) rfl) ?_
    | refine wG_n rfl rfl ?_
    | refine wG_u rfl rfl ?_
    | refine wG_new (o_mks rfl rfl (by omega) (by decide)) ?_))
  obtain ⟨g, hg1⟩ : ∃ g, p1 + 1 + 1 + 1 = g := ⟨_, rfl⟩
  rw [hg1] at fw ⊢
  refine wG_callG (v' := .tup [dtV g r Y, .bool true]) cI (ag_any (dr_dt r xs fm.fm) (ag_int rfl (ag_is rfl fe.fl rfl iRow_plain ag_nil))) rfl rfl ?_
  change wpG _ _ _ ⟨_, dtH g r Y _, _⟩ _
  obtain ⟨q, hq1⟩ : ∃ q, g + (dtO r Y).length = q := ⟨_, rfl⟩
  rw [hq1]
  repeat (first | refine wG_upd (o_st_agg rfl hg_here rfl rfl rfl rfl rfl) ?_ | (first
    | refine wC_a rfl ?_
    | refine q_s rfl ?_
    | refine q_b rfl ?_
    | refine wG_nil ?_
    | refine wG_g rfl ?_
    | refine wG_pure (o_len_vwm rfl) ?_
    | refine wG_pure (o_not_d rfl) ?_
    | refine wG_p rfl (by first | exact rfl | omega) ?_
    | refine wG_pure (o_str2 rfl rfl rfl) ?_
    | refine wG_pure (e_istr rfl rfl (by omega)) ?_
    | refine wG_pure (e_istr0 rfl rfl (by omega)) ?_
    | refine wG_pure (o_not rfl) ?_
    | refine wG_pure (e_ia_vw0 rfl rfl (by omega) rfl) ?_
    | refine wG_pure (e_ia_vwp rfl rfl (by omega) rfl) ?_
    | refine wG_pure (e_ia_vwm rfl rfl (by omega) (by omega) rfl) ?_
    | refine wG_pure (e_ia_vwi rfl rfl (by omega) rfl) ?_
    | refine wG_pure (e_ia_vwn rfl rfl (by omega) (by omega) rfl) ?_
    | refine wG_n rfl rfl ?_
    | refine wG_u rfl rfl ?_
    | refine wG_new (o_mks rfl rfl (by omega) (by decide)) ?_))
  refine hpG (fun H => FA (dtR a b c r xs) (dRow nn e) r Y (y1 + 1) z1 H ∧ FM r xs (z1 + 1) p1 H ∧ FE e (p1 + 1) H ∧ FM r Y g q H ∧ wfH H (q + 1)) ⟨fa.mv (· < g) (fun i o hi ho => hg_skip (by omega) (hg_skip (by omega) (dtH_out (by omega) ho))) (by omega) (by omega) (fun i hi => by omega) (by omega), fm.mv (· < g) (fun i o hi ho => hg_skip (by omega) (hg_skip (by omega) (dtH_out (by omega) ho))) (fun i hi => by omega) (by omega), fe.mv (· < g) (fun i o hi ho => hg_skip (by omega) (hg_skip (by omega) (dtH_out (by omega) ho))) (by omega) (by omega), ⟨fun i rows hi => ?_, hg_here⟩, wfH_cons (by omega) (by simp [put, AV.ltr]; omega) (wfH_cons (by omega) (by simp [AV.ltr]) (dtH_wf (by omega) (wfH_le fw (by omega))))⟩ ?_
  · have := dtO_lt hi
    exact hg_skip (by omega) (hg_skip (by omega) (dtH_in hi))
  clear fa fm fe fw
  rintro H3 ⟨fa, fm, fe, fg, fw⟩
  repeat (first | refine wC_dregE ?_ | refine wG_pure (o_ldt_pt rfl fg.fp rfl rfl rfl) ?_ | refine wG_pure (o_ldt_pt rfl fa.fz rfl rfl rfl) ?_ | refine wG_call cY (ag_any (dr_dt r Y fg.fm) (ag_any (dr_dt r Y fa.fy) ag_nil)) rfl ?_ | (first
    | refine wC_a rfl ?_
    | refine q_s rfl ?_
    | refine q_b rfl ?_
    | refine wG_nil ?_
    | refine wG_g rfl ?_
    | refine wG_pure (o_len_vwm rfl) ?_
    | refine wG_pure (o_not_d rfl) ?_
    | refine wG_p rfl (by first | exact rfl | omega) ?_
    | refine wG_pure (o_str2 rfl rfl rfl) ?_
    | refine wG_pure (e_istr rfl rfl (by omega)) ?_
    | refine wG_pure (e_istr0 rfl rfl (by omega)) ?_
    | refine wG_pure (o_not rfl) ?_
    | refine wG_pure (e_ia_vw0 rfl rfl (by omega) rfl) ?_
    | refine wG_pure (e_ia_vwp rfl rfl (by omega) rfl) ?_
    | refine wG_pure (e_ia_vwm rfl rfl (by omega) (by omega) rfl) ?_
    | refine wG_pure (e_ia_vwi rfl rfl (by omega) rfl) ?_
    | refine wG_pure (e_ia_vwn rfl rfl (by omega) (by omega) rfl) ?_
    | refine wG_n rfl rfl ?_
    | refine wG_u rfl rfl ?_
    | refine wG_new (o_mks rfl rfl (by omega) (by decide)) ?_))
  refine wE_v (o_ldt_pt rfl fm.fp rfl rfl rfl) rfl ?_
  refine wE_v (o_ldt_pt rfl fa.f0 rfl rfl rfl) rfl ?_
  refine wE_callG (v' := dtV (q + 1) r xs) cT rfl rfl rfl rfl ?_
  change wpE _ _ _ ⟨_, dtH (q + 1) r xs _, _⟩ _ _
  obtain ⟨k1, hk1⟩ : ∃ k1, q + 1 + (dtO r xs).length = k1 := ⟨_, rfl⟩
  rw [hk1]
  refine wE_call cE (ag_any (dr_dt r xs (fun i rows hi => dtH_out (by have := dtO_lt hi; omega) (fm.fm i rows hi))) (ag_any (dr_dt r xs (fun i rows hi => dtH_in hi)) ag_nil)) rfl rfl ?_
  repeat (first | refine wE_nilF (fun H => FA (dtR a b c r xs) (dRow nn e) r Y (y1 + 1) z1 H ∧ FM r xs (z1 + 1) p1 H ∧ FE e (p1 + 1) H ∧ FM r Y g q H ∧ wfH H k1) (hok5 (djB_mkh (by omega))) ⟨fa.mv (· < q + 1) (fun i o hi ho => dtH_out (by omega) ho) (by omega) (by omega) (fun i hi => by omega) (by omega), fm.mv (· < q + 1) (fun i o hi ho => dtH_out (by omega) ho) (fun i hi => by omega) (by omega), fe.mv (· < q + 1) (fun i o hi ho => dtH_out (by omega) ho) (by omega) (by omega), fg.mv (· < q + 1) (fun i o hi ho => dtH_out (by omega) ho) (fun i hi => by omega) (by omega), dtH_wf (by omega) (wfH_le fw (by omega))⟩ ?_ | (first
    | refine wE_nil (by kernel_rfl) ?_
    | refine wE_gy rfl ?_
    | refine wE_gn rfl rfl rfl ?_
    | refine wE_gu rfl rfl ?_
    | refine wE_gnn rfl rfl rfl ?_
    | refine wE_v (o_len_vwm rfl) rfl ?_
    | refine wE_v (o_not_d rfl) rfl ?_
    | refine wE_p rfl (by first | exact rfl | omega) rfl ?_
    | refine wE_v (o_str2 rfl rfl rfl) rfl ?_
    | refine wE_v (e_istr rfl rfl (by omega)) rfl ?_
    | refine wE_v (e_istr0 rfl rfl (by omega)) rfl ?_
    | refine wE_v (o_not rfl) rfl ?_
    | refine wE_v (e_ia_vw0 rfl rfl (by omega) rfl) rfl ?_
    | refine wE_v (e_ia_vwp rfl rfl (by omega) rfl) rfl ?_
    | refine wE_v (e_ia_vwm rfl rfl (by omega) (by omega) rfl) rfl ?_
    | refine wE_v (e_ia_vwi rfl rfl (by omega) rfl) rfl ?_
    | refine wE_v (e_ia_vwn rfl rfl (by omega) (by omega) rfl) rfl ?_
    | refine wE_n rfl rfl rfl ?_
    | refine wE_u rfl rfl rfl ?_
    | refine wE_new (o_mks rfl rfl (by omega) (by decide)) rfl ?_))
  clear fa fm fe fg fw
  rintro H4 ⟨fa, fm, fe, fg, fw⟩
  repeat (first | refine wC_dregE ?_ | (first
    | refine wC_a rfl ?_
    | refine q_s rfl ?_
    | refine q_b rfl ?_
    | refine wG_nil ?_
    | refine wG_g rfl ?_
    | refine wG_pure (o_len_vwm rfl) ?_
    | refine wG_pure (o_not_d rfl) ?_
    | refine wG_p rfl (by first | exact rfl | omega) ?_
    | refine wG_pure (o_str2 rfl rfl rfl) ?_
    | refine wG_pure (e_istr rfl rfl (by omega)) ?_
    | refine wG_pure (e_istr0 rfl rfl (by omega)) ?_
    | refine wG_pure (o_not rfl) ?_
    | refine wG_pure (e_ia_vw0 rfl rfl (by omega) rfl) ?_
    | refine wG_pure (e_ia_vwp rfl rfl (by omega) rfl) ?_
    | refine wG_pure (e_ia_vwm rfl rfl (by omega) (by omega) rfl) ?_
    | refine wG_pure (e_ia_vwi rfl rfl (by omega) rfl) ?_
    | refine wG_pure (e_ia_vwn rfl rfl (by omega) (by omega) rfl) ?_
    | refine wG_n rfl rfl ?_
    | refine wG_u rfl rfl ?_
    | refine wG_new (o_mks rfl rfl (by omega) (by decide)) ?_))
  refine wE_v (o_ldt_pt rfl fe.fb rfl rfl rfl) rfl ?_
  refine wE_v (o_ldt_pt rfl fa.f1 rfl rfl rfl) rfl ?_
  refine wE_call1 cD rfl rfl rfl ?_
  refine wE_call cQ (ag_is rfl (hg_skip (by omega) fe.fl) rfl iRow_plain (ag_is rfl hg_here rfl iRow_plain ag_nil)) rfl rfl ?_
  repeat (first | refine wE_nilF (fun H => FA (dtR a b c r xs) (dRow nn e) r Y (y1 + 1) z1 H ∧ FM r xs (z1 + 1) p1 H ∧ FE e (p1 + 1) H ∧ FM r Y g q H ∧ wfH H (k1 + 1)) (hok5 (djB1' (by omega))) ⟨fa.mv (· < k1) (fun i o hi ho => hg_skip (by omega) ho) (by omega) (by omega) (fun i hi => by omega) (by omega), fm.mv (· < k1) (fun i o hi ho => hg_skip (by omega) ho) (fun i hi => by omega) (by omega), fe.mv (· < k1) (fun i o hi ho => hg_skip (by omega) ho) (by omega) (by omega), fg.mv (· < k1) (fun i o hi ho => hg_skip (by omega) ho) (fun i hi => by omega) (by omega), wfH_cons (by omega) (ltrI _ _) (wfH_le fw (by omega))⟩ ?_ | (first
    | refine wE_nil (by kernel_rfl) ?_
    | refine wE_gy rfl ?_
    | refine wE_gn rfl rfl rfl ?_
    | refine wE_gu rfl rfl ?_
    | refine wE_gnn rfl rfl rfl ?_
    | refine wE_v (o_len_vwm rfl) rfl ?_
    | refine wE_v (o_not_d rfl) rfl ?_
    | refine wE_p rfl (by first | exact rfl | omega) rfl ?_
    | refine wE_v (o_str2 rfl rfl rfl) rfl ?_
    | refine wE_v (e_istr rfl rfl (by omega)) rfl ?_
    | refine wE_v (e_istr0 rfl rfl (by omega)) rfl ?_
    | refine wE_v (o_not rfl) rfl ?_
    | refine wE_v (e_ia_vw0 rfl rfl (by omega) rfl) rfl ?_
    | refine wE_v (e_ia_vwp rfl rfl (by omega) rfl) rfl ?_
    | refine wE_v (e_ia_vwm rfl rfl (by omega) (by omega) rfl) rfl ?_
    | refine wE_v (e_ia_vwi rfl rfl (by omega) rfl) rfl ?_
    | refine wE_v (e_ia_vwn rfl rfl (by omega) (by omega) rfl) rfl ?_
    | refine wE_n rfl rfl rfl ?_
    | refine wE_u rfl rfl rfl ?_
    | refine wE_new (o_mks rfl rfl (by omega) (by decide)) rfl ?_))
  clear fa fm fe fg fw
  rintro H5 ⟨fa, fm, fe, fg, fw⟩
  have sM := @sh_mdr r xs h1' h2' h3' hS H5 (rmv (z1 + 1) (xs.length + 3) H5) (k1 + 1) (z1 + 1) fm.fm (by omega) (rmv_wf fw) (fun i rows hi => rmv_sub hi)
  obtain ⟨K, hK0, hK1, hK⟩ : ∃ K : Int, 0 ≤ K ∧ K ≤ 4294967296 ∧ 1 + 2 * (r.cs.length : Int) + 2 * (r.xs.length : Int) + (xs.length : Int) + (sL xs xs.length : Int) = K := ⟨_, by omega, by omega, rfl⟩
  rw [hK] at sM
  have fe2 : FE e (p1 + 1) (rmv (z1 + 1) (xs.length + 3) H5) := fe.mv (fun i => i < z1 + 1 ∨ z1 + 1 + (xs.length + 3) ≤ i) (fun i o hi ho => rmv_out hi ho) (by omega) (by omega)
  have fw2 : wfH (rmv (z1 + 1) (xs.length + 3) H5) (k1 + 1 + 2) := wfH_le (rmv_wf fw) (by omega)
  have sN := sh21 e K he hK0 hK1 fe2.fl fw2
  repeat (first | refine wG_pure (o_ldt_pt rfl fm.fp rfl rfl rfl) ?_ | refine wG_callS sM rfl ?_ | refine wG_pure (o_ldt_pt rfl fe2.fb rfl rfl rfl) ?_ | refine wG_callS sN rfl ?_ | (first
    | refine wC_a rfl ?_
    | refine q_s rfl ?_
    | refine q_b rfl ?_
    | refine wG_nil ?_
    | refine wG_g rfl ?_
    | refine wG_pure (o_len_vwm rfl) ?_
    | refine wG_pure (o_not_d rfl) ?_
    | refine wG_p rfl (by first | exact rfl | omega) ?_
    | refine wG_pure (o_str2 rfl rfl rfl) ?_
    | refine wG_pure (e_istr rfl rfl (by omega)) ?_
    | refine wG_pure (e_istr0 rfl rfl (by omega)) ?_
    | refine wG_pure (o_not rfl) ?_
    | refine wG_pure (e_ia_vw0 rfl rfl (by omega) rfl) ?_
    | refine wG_pure (e_ia_vwp rfl rfl (by omega) rfl) ?_
    | refine wG_pure (e_ia_vwm rfl rfl (by omega) (by omega) rfl) ?_
    | refine wG_pure (e_ia_vwi rfl rfl (by omega) rfl) ?_
    | refine wG_pure (e_ia_vwn rfl rfl (by omega) (by omega) rfl) ?_
    | refine wG_n rfl rfl ?_
    | refine wG_u rfl rfl ?_
    | refine wG_new (o_mks rfl rfl (by omega) (by decide)) ?_))
  have dK : decide (K + (e.ws.length : Int) < 0) = false := decide_eq_false (by omega)
  simp only [dK]
  refine hpG (fun H => FA (dtR a b c r xs) (dRow nn e) r Y (y1 + 1) z1 H ∧ FM r Y g q H ∧ wfH H (k1 + 1 + 2)) ⟨fa.mv (· < z1 + 1) (fun i o hi ho => hg_skip (by omega) (rmv_out (.inl hi) ho)) (by omega) (by omega) (fun i hi => by omega) (by omega), fg.mv (fun i => p1 + 1 < i) (fun i o hi ho => hg_skip (by omega) (rmv_out (.inr (by omega)) ho)) (fun i hi => by omega) (by omega), wfH_cons (by omega) (ltrI _ _) fw2⟩ ?_
  clear fa fm fe fg fw sM sN fe2 fw2
  rintro H6 ⟨fa, fg, fw⟩
  obtain ⟨k2, hk2⟩ : ∃ k2, k1 + 1 + 2 = k2 := ⟨_, rfl⟩
  rw [hk2] at fw ⊢
  have sM := @sh_mdk r Y h1' h2' (by omega) hSY H6 (rmv g (Y.length + 3) H6) k2 g fg.fm (by omega) fw (rmv_wf fw) (fun i rows hi => rmv_sub hi)
  repeat (first | refine wG_pure (o_ldt_pt rfl fg.fp rfl rfl rfl) ?_ | refine wG_pure (o_ldt_pt rfl fa.fz rfl rfl rfl) ?_ | refine wG_call cY (ag_any (dr_dt r Y fg.fm) (ag_any (dr_dt r Y fa.fy) ag_nil)) rfl ?_ | refine wG_callS sM rfl ?_ | (first
    | refine wC_a rfl ?_
    | refine q_s rfl ?_
    | refine q_b rfl ?_
    | refine wG_nil ?_
    | refine wG_g rfl ?_
    | refine wG_pure (o_len_vwm rfl) ?_
    | refine wG_pure (o_not_d rfl) ?_
    | refine wG_p rfl (by first | exact rfl | omega) ?_
    | refine wG_pure (o_str2 rfl rfl rfl) ?_
    | refine wG_pure (e_istr rfl rfl (by omega)) ?_
    | refine wG_pure (e_istr0 rfl rfl (by omega)) ?_
    | refine wG_pure (o_not rfl) ?_
    | refine wG_pure (e_ia_vw0 rfl rfl (by omega) rfl) ?_
    | refine wG_pure (e_ia_vwp rfl rfl (by omega) rfl) ?_
    | refine wG_pure (e_ia_vwm rfl rfl (by omega) (by omega) rfl) ?_
    | refine wG_pure (e_ia_vwi rfl rfl (by omega) rfl) ?_
    | refine wG_pure (e_ia_vwn rfl rfl (by omega) (by omega) rfl) ?_
    | refine wG_n rfl rfl ?_
    | refine wG_u rfl rfl ?_
    | refine wG_new (o_mks rfl rfl (by omega) (by decide)) ?_))
  refine hpG (fun H => FA (dtR a b c r xs) (dRow nn e) r Y (y1 + 1) z1 H ∧ FM (rM r) (xM r Y) g q H ∧ wfH H (k2 + 2)) ⟨fa.mv (· < g) (fun i o hi ho => ?_) (by omega) (by omega) (fun i hi => by omega) (by omega), ⟨fun i rows hi => hM_dt i rows hi, ?_⟩, ?_⟩ ?_
  · refine hg_skip (by omega) (hg_out (fun hc => by have := hc.1; omega) (hg_skip (by omega) (hg_skip (by omega) (rmv_out (.inl hi) ho))))
  · rw [bx3_M]
    exact hM_out (by omega) (by rw [mD_len]; omega) (hg_skip (by omega) (hg_skip (by omega) (rmv_out (.inr (by omega)) fg.fp)))
  · exact hM_wf (by omega) (by rw [mD_len]; omega) (wfH_cons (by omega) (ltrX _ _) (wfH_cons (by omega) (ltrK _ _) (wfH_le (rmv_wf fw) (by omega))))
  clear fa fg fw sM
  rintro H7 ⟨fa, fg, fw⟩
  have cH := con22 true true true r.cs.length r.xs.length (tD (xM r Y)) Y h1' h2' (by rw [tD_len, xM_len]) (fun j hj => by
    rw [tD_d]
    unfold xM
    rw [mD_get hj, if_pos hj]) (by omega) hSY
  obtain ⟨M, hM0, hM⟩ : ∃ M : Int, 0 ≤ M ∧ 1 + 2 * (r.cs.length : Int) + 2 * (r.xs.length : Int) + (Y.length : Int) + (sL Y Y.length : Int) = M := ⟨_, by omega, rfl⟩
  rw [hM] at cH
  simp only [hM]
  have dM : decide (M < 0) = false := decide_eq_false (by omega)
  have dN : decide (M ≠ M) = false := decide_eq_false (fun h => h rfl)
  repeat (first | refine wG_pure (o_ldt_pt rfl fg.fp rfl rfl rfl) ?_ | refine wG_call cH (ag_any (dr_dt (rM r) (xM r Y) fg.fm) (ag_int rfl ag_nil)) rfl ?_ | (first
    | refine wC_a rfl ?_
    | refine q_s rfl ?_
    | refine q_b rfl ?_
    | refine wG_nil ?_
    | refine wG_g rfl ?_
    | refine wG_pure (o_len_vwm rfl) ?_
    | refine wG_pure (o_not_d rfl) ?_
    | refine wG_p rfl (by first | exact rfl | omega) ?_
    | refine wG_pure (o_str2 rfl rfl rfl) ?_
    | refine wG_pure (e_istr rfl rfl (by omega)) ?_
    | refine wG_pure (e_istr0 rfl rfl (by omega)) ?_
    | refine wG_pure (o_not rfl) ?_
    | refine wG_pure (e_ia_vw0 rfl rfl (by omega) rfl) ?_
    | refine wG_pure (e_ia_vwp rfl rfl (by omega) rfl) ?_
    | refine wG_pure (e_ia_vwm rfl rfl (by omega) (by omega) rfl) ?_
    | refine wG_pure (e_ia_vwi rfl rfl (by omega) rfl) ?_
    | refine wG_pure (e_ia_vwn rfl rfl (by omega) (by omega) rfl) ?_
    | refine wG_n rfl rfl ?_
    | refine wG_u rfl rfl ?_
    | refine wG_new (o_mks rfl rfl (by omega) (by decide)) ?_))
  simp only [dM]
  repeat (first
    | refine wC_a rfl ?_
    | refine q_s rfl ?_
    | refine q_b rfl ?_
    | refine wG_nil ?_
    | refine wG_g rfl ?_
    | refine wG_pure (o_len_vwm rfl) ?_
    | refine wG_pure (o_not_d rfl) ?_
    | refine wG_p rfl (by first | exact rfl | omega) ?_
    | refine wG_pure (o_str2 rfl rfl rfl) ?_
    | refine wG_pure (e_istr rfl rfl (by omega)) ?_
    | refine wG_pure (e_istr0 rfl rfl (by omega)) ?_
    | refine wG_pure (o_not rfl) ?_
    | refine wG_pure (e_ia_vw0 rfl rfl (by omega) rfl) ?_
    | refine wG_pure (e_ia_vwp rfl rfl (by omega) rfl) ?_
    | refine wG_pure (e_ia_vwm rfl rfl (by omega) (by omega) rfl) ?_
    | refine wG_pure (e_ia_vwi rfl rfl (by omega) rfl) ?_
    | refine wG_pure (e_ia_vwn rfl rfl (by omega) (by omega) rfl) ?_
    | refine wG_n rfl rfl ?_
    | refine wG_u rfl rfl ?_
    | refine wG_new (o_mks rfl rfl (by omega) (by decide)) ?_)
  simp only [dN]
  obtain ⟨n2, hn2⟩ : ∃ n2, k2 + 2 = n2 := ⟨_, rfl⟩
  rw [hn2] at fw ⊢
  repeat (first | refine wC_dregE ?_ | (first
    | refine wC_a rfl ?_
    | refine q_s rfl ?_
    | refine q_b rfl ?_
    | refine wG_nil ?_
    | refine wG_g rfl ?_
    | refine wG_pure (o_len_vwm rfl) ?_
    | refine wG_pure (o_not_d rfl) ?_
    | refine wG_p rfl (by first | exact rfl | omega) ?_
    | refine wG_pure (o_str2 rfl rfl rfl) ?_
    | refine wG_pure (e_istr rfl rfl (by omega)) ?_
    | refine wG_pure (e_istr0 rfl rfl (by omega)) ?_
    | refine wG_pure (o_not rfl) ?_
    | refine wG_pure (e_ia_vw0 rfl rfl (by omega) rfl) ?_
    | refine wG_pure (e_ia_vwp rfl rfl (by omega) rfl) ?_
    | refine wG_pure (e_ia_vwm rfl rfl (by omega) (by omega) rfl) ?_
    | refine wG_pure (e_ia_vwi rfl rfl (by omega) rfl) ?_
    | refine wG_pure (e_ia_vwn rfl rfl (by omega) (by omega) rfl) ?_
    | refine wG_n rfl rfl ?_
    | refine wG_u rfl rfl ?_
    | refine wG_new (o_mks rfl rfl (by omega) (by decide)) ?_))
  refine wE_v (o_ldt_pt rfl fa.f0 rfl rfl rfl) rfl ?_
  refine wE_callG (v' := dtV n2 r xs) (rd := []) cT rfl rfl rfl rfl ?_
  change wpE _ _ _ ⟨_, dtH n2 r xs _, _⟩ _ _
  obtain ⟨y2, hy2⟩ : ∃ y2, n2 + (dtO r xs).length = y2 := ⟨_, rfl⟩
  rw [hy2]
  repeat (first
    | refine wE_nil (by kernel_rfl) ?_
    | refine wE_gy rfl ?_
    | refine wE_gn rfl rfl rfl ?_
    | refine wE_gu rfl rfl ?_
    | refine wE_gnn rfl rfl rfl ?_
    | refine wE_v (o_len_vwm rfl) rfl ?_
    | refine wE_v (o_not_d rfl) rfl ?_
    | refine wE_p rfl (by first | exact rfl | omega) rfl ?_
    | refine wE_v (o_str2 rfl rfl rfl) rfl ?_
    | refine wE_v (e_istr rfl rfl (by omega)) rfl ?_
    | refine wE_v (e_istr0 rfl rfl (by omega)) rfl ?_
    | refine wE_v (o_not rfl) rfl ?_
    | refine wE_v (e_ia_vw0 rfl rfl (by omega) rfl) rfl ?_
    | refine wE_v (e_ia_vwp rfl rfl (by omega) rfl) rfl ?_
    | refine wE_v (e_ia_vwm rfl rfl (by omega) (by omega) rfl) rfl ?_
    | refine wE_v (e_ia_vwi rfl rfl (by omega) rfl) rfl ?_
    | refine wE_v (e_ia_vwn rfl rfl (by omega) (by omega) rfl) rfl ?_
    | refine wE_n rfl rfl rfl ?_
    | refine wE_u rfl rfl rfl ?_
    | refine wE_new (o_mks rfl rfl (by omega) (by decide)) rfl ?_)
  refine wE_v (o_ldt_pt rfl (dtH_out (by omega) fa.f1) rfl rfl rfl) rfl ?_
  refine wE_call1 (rd := []) cD rfl rfl rfl ?_
  refine wE_callG (v' := .tup [dtV (y2 + 1) r Y, .bool true]) cI (ag_any (dr_dt r xs (fun i rows hi => hg_skip (by have := dtO_lt hi; omega) (dtH_in hi))) (ag_int rfl (ag_is rfl hg_here rfl iRow_plain ag_nil))) rfl rfl rfl ?_
  change wpE _ _ _ ⟨_, dtH (y2 + 1) r Y _, _⟩ _ _
  obtain ⟨z2, hz2⟩ : ∃ z2, y2 + 1 + (dtO r Y).length = z2 := ⟨_, rfl⟩
  rw [hz2]
  have hwA : wfH ((y2, some (e.ws.map iRow)) :: dtH n2 r xs H7) (y2 + 1) := wfH_cons (by omega) (ltrI _ _) (dtH_wf (by omega) (wfH_le fw (by omega)))
  repeat (first | refine wE_upd (o_st_agg rfl hg_here rfl rfl rfl rfl rfl) rfl ?_ | refine wE_nilF (fun H => FA (dtR a b c r xs) (dRow nn e) r Y (y1 + 1) z1 H ∧ FM (rM r) (xM r Y) g q H ∧ FM r Y (y2 + 1) z2 H) ?_ ⟨fa.mv (· < n2) (fun i o hi ho => hg_skip (by omega) (hg_skip (by omega) (dtH_out (by omega) (hg_skip (by omega) (dtH_out (by omega) ho))))) (by omega) (by omega) (fun i hi => by omega) (by omega), fg.mv (· < n2) (fun i o hi ho => hg_skip (by omega) (hg_skip (by omega) (dtH_out (by omega) (hg_skip (by omega) (dtH_out (by omega) ho))))) (fun i hi => by rw [xM_len] at hi; omega) (by omega), ⟨fun i rows hi => ?_, hg_here⟩⟩ ?_ | (first
    | refine wE_nil (by kernel_rfl) ?_
    | refine wE_gy rfl ?_
    | refine wE_gn rfl rfl rfl ?_
    | refine wE_gu rfl rfl ?_
    | refine wE_gnn rfl rfl rfl ?_
    | refine wE_v (o_len_vwm rfl) rfl ?_
    | refine wE_v (o_not_d rfl) rfl ?_
    | refine wE_p rfl (by first | exact rfl | omega) rfl ?_
    | refine wE_v (o_str2 rfl rfl rfl) rfl ?_
    | refine wE_v (e_istr rfl rfl (by omega)) rfl ?_
    | refine wE_v (e_istr0 rfl rfl (by omega)) rfl ?_
    | refine wE_v (o_not rfl) rfl ?_
    | refine wE_v (e_ia_vw0 rfl rfl (by omega) rfl) rfl ?_
    | refine wE_v (e_ia_vwp rfl rfl (by omega) rfl) rfl ?_
    | refine wE_v (e_ia_vwm rfl rfl (by omega) (by omega) rfl) rfl ?_
    | refine wE_v (e_ia_vwi rfl rfl (by omega) rfl) rfl ?_
    | refine wE_v (e_ia_vwn rfl rfl (by omega) (by omega) rfl) rfl ?_
    | refine wE_n rfl rfl rfl ?_
    | refine wE_u rfl rfl rfl ?_
    | refine wE_new (o_mks rfl rfl (by omega) (by decide)) rfl ?_))
  · refine hok12 ?_ ?_ ?_ ?_ ?_ ?_ ?_ ?_ ?_ ?_ ?_ ?_
    · exact djB_mkh (by omega)
    · exact djBm (by rw [List.length_map]; exact Nat.le_refl _) (by omega)
    · exact djB1' (by omega)
    · exact djBm (by rw [List.length_map]; exact Nat.le_refl _) (by omega)
    · exact djB1' (by omega)
    · rfl
    · exact djB1' (by omega)
    · rfl
    · exact djBz fun x hx => Nat.lt_of_lt_of_le (rds_lt hwA (by show ltrL _ [dtV n2 r xs, .int .i64 _, .agg [.int .i64 e.f, .sl y2 1 0 e.ws.length]] = true; simp [dtV, AV.ltr, ltrL]; omega) x hx) (by omega)
    · rfl
    · rfl
    · rfl
  · have := dtO_lt hi
    exact hg_skip (by omega) (hg_skip (by omega) (dtH_in hi))
  clear fa fg fw
  rintro H8 ⟨fa, fg, fz⟩
  repeat (first | refine wG_pure (o_ldt_pt rfl fz.fp rfl rfl rfl) ?_ | refine wG_pure (o_ldt_pt rfl fa.fz rfl rfl rfl) ?_ | refine wG_call cY (ag_any (dr_dt r Y fz.fm) (ag_any (dr_dt r Y fa.fy) ag_nil)) rfl ?_ | refine wG_pure (o_ldt_pt rfl fg.fp rfl rfl rfl) ?_ | refine wG_call cH (ag_any (dr_dt (rM r) (xM r Y) fg.fm) (ag_int rfl ag_nil)) rfl ?_ | (first
    | refine wC_a rfl ?_
    | refine q_s rfl ?_
    | refine q_b rfl ?_
    | refine wG_nil ?_
    | refine wG_g rfl ?_
    | refine wG_pure (o_len_vwm rfl) ?_
    | refine wG_pure (o_not_d rfl) ?_
    | refine wG_p rfl (by first | exact rfl | omega) ?_
    | refine wG_pure (o_str2 rfl rfl rfl) ?_
    | refine wG_pure (e_istr rfl rfl (by omega)) ?_
    | refine wG_pure (e_istr0 rfl rfl (by omega)) ?_
    | refine wG_pure (o_not rfl) ?_
    | refine wG_pure (e_ia_vw0 rfl rfl (by omega) rfl) ?_
    | refine wG_pure (e_ia_vwp rfl rfl (by omega) rfl) ?_
    | refine wG_pure (e_ia_vwm rfl rfl (by omega) (by omega) rfl) ?_
    | refine wG_pure (e_ia_vwi rfl rfl (by omega) rfl) ?_
    | refine wG_pure (e_ia_vwn rfl rfl (by omega) (by omega) rfl) ?_
    | refine wG_n rfl rfl ?_
    | refine wG_u rfl rfl ?_
    | refine wG_new (o_mks rfl rfl (by omega) (by decide)) ?_))
  simp only [dM]
  repeat (first
    | refine wC_a rfl ?_
    | refine q_s rfl ?_
    | refine q_b rfl ?_
    | refine wG_nil ?_
    | refine wG_g rfl ?_
    | refine wG_pure (o_len_vwm rfl) ?_
    | refine wG_pure (o_not_d rfl) ?_
    | refine wG_p rfl (by first | exact rfl | omega) ?_
    | refine wG_pure (o_str2 rfl rfl rfl) ?_
    | refine wG_pure (e_istr rfl rfl (by omega)) ?_
    | refine wG_pure (e_istr0 rfl rfl (by omega)) ?_
    | refine wG_pure (o_not rfl) ?_
    | refine wG_pure (e_ia_vw0 rfl rfl (by omega) rfl) ?_
    | refine wG_pure (e_ia_vwp rfl rfl (by omega) rfl) ?_
    | refine wG_pure (e_ia_vwm rfl rfl (by omega) (by omega) rfl) ?_
    | refine wG_pure (e_ia_vwi rfl rfl (by omega) rfl) ?_
    | refine wG_pure (e_ia_vwn rfl rfl (by omega) (by omega) rfl) ?_
    | refine wG_n rfl rfl ?_
    | refine wG_u rfl rfl ?_
    | refine wG_new (o_mks rfl rfl (by omega) (by decide)) ?_)
  simp only [dN]
  repeat (first
    | refine wC_a rfl ?_
    | refine q_s rfl ?_
    | refine q_b rfl ?_
    | refine wG_nil ?_
    | refine wG_g rfl ?_
    | refine wG_pure (o_len_vwm rfl) ?_
    | refine wG_pure (o_not_d rfl) ?_
    | refine wG_p rfl (by first | exact rfl | omega) ?_
    | refine wG_pure (o_str2 rfl rfl rfl) ?_
    | refine wG_pure (e_istr rfl rfl (by omega)) ?_
    | refine wG_pure (e_istr0 rfl rfl (by omega)) ?_
    | refine wG_pure (o_not rfl) ?_
    | refine wG_pure (e_ia_vw0 rfl rfl (by omega) rfl) ?_
    | refine wG_pure (e_ia_vwp rfl rfl (by omega) rfl) ?_
    | refine wG_pure (e_ia_vwm rfl rfl (by omega) (by omega) rfl) ?_
    | refine wG_pure (e_ia_vwi rfl rfl (by omega) rfl) ?_
    | refine wG_pure (e_ia_vwn rfl rfl (by omega) (by omega) rfl) ?_
    | refine wG_n rfl rfl ?_
    | refine wG_u rfl rfl ?_
    | refine wG_new (o_mks rfl rfl (by omega) (by decide)) ?_)
  exact ret_boolE (.inr rfl) ⟨_, retV_mv rfl, rfl⟩
end Go.Proofs.Ytkeobnaehgcloaa.Dst
namespace Go.Proofs.Ytkeobnaehgcloaa.Dst
open Go Go.Proofs.Ytkeobnaehgcloaa.Ab Go.Proofs.Ytkeobnaehgcloaa.Il Go.Proofs.Ytkeobnaehgcloaa.Rec
attribute [local irreducible] wpO wpC wpDr wpQ wpG wpE stepA seqQ blkQ Ret RetG ev
set_option maxRecDepth 10000
set_option maxHeartbeats 8000000
set_option linter.unusedSimpArgs false
set_option linter.unusedVariables false



theorem con_n3 {P : Program} {f : Nat} {nv : Bool} {vs : List AV} {v : AV} {objs : List Ab.Rows} (h : Con P f nv (.agg [.vw false [], .vw false [], .vw false []]  :: vs) v objs) : Con P f nv (.agg [.nilS, .nilS, .nilS]  :: vs) v objs := by
  refine ⟨h.1, h.2.1, fun F w cargs hF ha => h.2.2 F w cargs hF ?_⟩
  obtain ⟨u, us, e1, ⟨cs, q1, ⟨u1, us1, q2, q3, ⟨u2, us2, q4, q5, ⟨u3, us3, q8, q9, q10⟩⟩⟩, q7⟩, e3⟩ := ha
  exact ⟨u, us, e1, ⟨cs, q1, ⟨u1, us1, q2, V_nil q3, ⟨u2, us2, q4, V_nil q5, ⟨u3, us3, q8, V_nil q9, q10⟩⟩⟩, q7⟩, e3⟩
theorem con_n32 {P : Program} {f : Nat} {nv : Bool} {b : AV} {vs : List AV} {v : AV} {objs : List Ab.Rows} (h : Con P f nv (b :: .agg [.vw false [], .vw false [], .vw false []]  :: vs) v objs) : Con P f nv (b :: .agg [.nilS, .nilS, .nilS]  :: vs) v objs := by
  refine ⟨h.1, h.2.1, fun F w cargs hF ha => h.2.2 F w cargs hF ?_⟩
  obtain ⟨u0, us0, e0, e00, ⟨u, us, e1, ⟨cs, q1, ⟨u1, us1, q2, q3, ⟨u2, us2, q4, q5, ⟨u3, us3, q8, q9, q10⟩⟩⟩, q7⟩, e3⟩⟩ := ha
  exact ⟨u0, us0, e0, e00, ⟨u, us, e1, ⟨cs, q1, ⟨u1, us1, q2, V_nil q3, ⟨u2, us2, q4, V_nil q5, ⟨u3, us3, q8, V_nil q9, q10⟩⟩⟩, q7⟩, e3⟩⟩
theorem eqR_no : Con Try.prog 18 true [.agg [.nilS, .nilS, .nilS], .agg [.nilS, .nilS, .nilS]] (.bool true) [] :=
  con_n3 (con_n32 (con18 false false false false false false ⟨[], []⟩ [] (by decide) (by decide) (by decide) (fun i hi => absurd hi (Nat.not_lt_zero _))))
theorem heldR_no : Con Try.prog 22 true [.agg [.nilS, .nilS, .nilS], .int .i64 1] (.int .i64 1) [] :=
  con_n3 (con22 false false false 0 0 [] [] (by decide) (by decide) rfl (fun j hj => absurd hj (Nat.not_lt_zero _)) (by decide) (by decide))
theorem con102_nil (k : Int) : Con Try.prog 102 true [.nilS, .int .i64 k] (.int .i64 k) [] := by
  refine con_of_wp mixed fun102 (by simp) [] plain_nil ?_
  unfold ac102 ro102
  simp only [zipT]
  repeat (first
    | refine wC_a rfl ?_
    | refine q_s rfl ?_
    | refine q_b rfl ?_
    | refine wG_nil ?_
    | refine wG_g rfl ?_
    | refine wG_pure (o_len_vwm rfl) ?_
    | refine wG_pure (o_not_d rfl) ?_
    | refine wG_p rfl (by first | exact rfl | omega) ?_
    | refine wG_pure (o_str2 rfl rfl rfl) ?_
    | refine wG_pure (e_istr rfl rfl (by omega)) ?_
    | refine wG_pure (e_istr0 rfl rfl (by omega)) ?_
    | refine wG_pure (o_not rfl) ?_
    | refine wG_pure (e_ia_vw0 rfl rfl (by omega) rfl) ?_
    | refine wG_pure (e_ia_vwp rfl rfl (by omega) rfl) ?_
    | refine wG_pure (e_ia_vwm rfl rfl (by omega) (by omega) rfl) ?_
    | refine wG_pure (e_ia_vwi rfl rfl (by omega) rfl) ?_
    | refine wG_pure (e_ia_vwn rfl rfl (by omega) (by omega) rfl) ?_
    | refine wG_n rfl rfl ?_
    | refine wG_u rfl rfl ?_
    | refine wG_new (o_mks rfl rfl (by omega) (by decide)) ?_)
  refine wC_loop Nat (fun i => ⟨[(0, .nilS), (1, .int .i64 k), (5, .int .i64 0)], [], 0⟩) (fun _ => True) (fun i => 0) 0 trivial ?_ (fun _ _ => Nat.le_refl _) ?_
  · simp [LeP, leT, leH, lk, AV.ltr]
  intro i hi
  repeat (first
    | refine wC_a rfl ?_
    | refine q_s rfl ?_
    | refine q_b rfl ?_
    | refine wG_nil ?_
    | refine wG_g rfl ?_
    | refine wG_pure (o_len_vwm rfl) ?_
    | refine wG_pure (o_not_d rfl) ?_
    | refine wG_p rfl (by first | exact rfl | omega) ?_
    | refine wG_pure (o_str2 rfl rfl rfl) ?_
    | refine wG_pure (e_istr rfl rfl (by omega)) ?_
    | refine wG_pure (e_istr0 rfl rfl (by omega)) ?_
    | refine wG_pure (o_not rfl) ?_
    | refine wG_pure (e_ia_vw0 rfl rfl (by omega) rfl) ?_
    | refine wG_pure (e_ia_vwp rfl rfl (by omega) rfl) ?_
    | refine wG_pure (e_ia_vwm rfl rfl (by omega) (by omega) rfl) ?_
    | refine wG_pure (e_ia_vwi rfl rfl (by omega) rfl) ?_
    | refine wG_pure (e_ia_vwn rfl rfl (by omega) (by omega) rfl) ?_
    | refine wG_n rfl rfl ?_
    | refine wG_u rfl rfl ?_
    | refine wG_new (o_mks rfl rfl (by omega) (by decide)) ?_)
  exact ret_intE (.inr rfl) ⟨_, retV_mv rfl, rfl⟩
theorem con103_nil (k : Int) : Con Try.prog 103 true [.nilS, .int .i64 k] (.int .i64 k) [] := by
  refine con_of_wp mixed fun103 (by simp) [] plain_nil ?_
  unfold ac103 ro103
  simp only [zipT]
  repeat (first
    | refine wC_a rfl ?_
    | refine q_s rfl ?_
    | refine q_b rfl ?_
    | refine wG_nil ?_
    | refine wG_g rfl ?_
    | refine wG_pure (o_len_vwm rfl) ?_
    | refine wG_pure (o_not_d rfl) ?_
    | refine wG_p rfl (by first | exact rfl | omega) ?_
    | refine wG_pure (o_str2 rfl rfl rfl) ?_
    | refine wG_pure (e_istr rfl rfl (by omega)) ?_
    | refine wG_pure (e_istr0 rfl rfl (by omega)) ?_
    | refine wG_pure (o_not rfl) ?_
    | refine wG_pure (e_ia_vw0 rfl rfl (by omega) rfl) ?_
    | refine wG_pure (e_ia_vwp rfl rfl (by omega) rfl) ?_
    | refine wG_pure (e_ia_vwm rfl rfl (by omega) (by omega) rfl) ?_
    | refine wG_pure (e_ia_vwi rfl rfl (by omega) rfl) ?_
    | refine wG_pure (e_ia_vwn rfl rfl (by omega) (by omega) rfl) ?_
    | refine wG_n rfl rfl ?_
    | refine wG_u rfl rfl ?_
    | refine wG_new (o_mks rfl rfl (by omega) (by decide)) ?_)
  refine wC_loop Nat (fun i => ⟨[(0, .nilS), (1, .int .i64 k), (5, .int .i64 0)], [], 0⟩) (fun _ => True) (fun i => 0) 0 trivial ?_ (fun _ _ => Nat.le_refl _) ?_
  · simp [LeP, leT, leH, lk, AV.ltr]
  intro i hi
  repeat (first
    | refine wC_a rfl ?_
    | refine q_s rfl ?_
    | refine q_b rfl ?_
    | refine wG_nil ?_
    | refine wG_g rfl ?_
    | refine wG_pure (o_len_vwm rfl) ?_
    | refine wG_pure (o_not_d rfl) ?_
    | refine wG_p rfl (by first | exact rfl | omega) ?_
    | refine wG_pure (o_str2 rfl rfl rfl) ?_
    | refine wG_pure (e_istr rfl rfl (by omega)) ?_
    | refine wG_pure (e_istr0 rfl rfl (by omega)) ?_
    | refine wG_pure (o_not rfl) ?_
    | refine wG_pure (e_ia_vw0 rfl rfl (by omega) rfl) ?_
    | refine wG_pure (e_ia_vwp rfl rfl (by omega) rfl) ?_
    | refine wG_pure (e_ia_vwm rfl rfl (by omega) (by omega) rfl) ?_
    | refine wG_pure (e_ia_vwi rfl rfl (by omega) rfl) ?_
    | refine wG_pure (e_ia_vwn rfl rfl (by omega) (by omega) rfl) ?_
    | refine wG_n rfl rfl ?_
    | refine wG_u rfl rfl ?_
    | refine wG_new (o_mks rfl rfl (by omega) (by decide)) ?_)
  exact ret_intE (.inr rfl) ⟨_, retV_mv rfl, rfl⟩
theorem con59_nil (k : Int) : Con Try.prog 59 true [.nilS, .int .i64 k] (.int .i64 k) [] := by
  refine con_of_wp mixed fun59 (by simp) [] plain_nil ?_
  unfold ac59 ro59
  simp only [zipT]
  repeat (first
    | refine wC_a rfl ?_
    | refine q_s rfl ?_
    | refine q_b rfl ?_
    | refine wG_nil ?_
    | refine wG_g rfl ?_
    | refine wG_pure (o_len_vwm rfl) ?_
    | refine wG_pure (o_not_d rfl) ?_
    | refine wG_p rfl (by first | exact rfl | omega) ?_
    | refine wG_pure (o_str2 rfl rfl rfl) ?_
    | refine wG_pure (e_istr rfl rfl (by omega)) ?_
    | refine wG_pure (e_istr0 rfl rfl (by omega)) ?_
    | refine wG_pure (o_not rfl) ?_
    | refine wG_pure (e_ia_vw0 rfl rfl (by omega) rfl) ?_
    | refine wG_pure (e_ia_vwp rfl rfl (by omega) rfl) ?_
    | refine wG_pure (e_ia_vwm rfl rfl (by omega) (by omega) rfl) ?_
    | refine wG_pure (e_ia_vwi rfl rfl (by omega) rfl) ?_
    | refine wG_pure (e_ia_vwn rfl rfl (by omega) (by omega) rfl) ?_
    | refine wG_n rfl rfl ?_
    | refine wG_u rfl rfl ?_
    | refine wG_new (o_mks rfl rfl (by omega) (by decide)) ?_)
  refine wC_loop Nat (fun i => ⟨[(0, .nilS), (1, .int .i64 k), (5, .int .i64 0)], [], 0⟩) (fun _ => True) (fun i => 0) 0 trivial ?_ (fun _ _ => Nat.le_refl _) ?_
  · simp [LeP, leT, leH, lk, AV.ltr]
  intro i hi
  repeat (first
    | refine wC_a rfl ?_
    | refine q_s rfl ?_
    | refine q_b rfl ?_
    | refine wG_nil ?_
    | refine wG_g rfl ?_
    | refine wG_pure (o_len_vwm rfl) ?_
    | refine wG_pure (o_not_d rfl) ?_
    | refine wG_p rfl (by first | exact rfl | omega) ?_
    | refine wG_pure (o_str2 rfl rfl rfl) ?_
    | refine wG_pure (e_istr rfl rfl (by omega)) ?_
    | refine wG_pure (e_istr0 rfl rfl (by omega)) ?_
    | refine wG_pure (o_not rfl) ?_
    | refine wG_pure (e_ia_vw0 rfl rfl (by omega) rfl) ?_
    | refine wG_pure (e_ia_vwp rfl rfl (by omega) rfl) ?_
    | refine wG_pure (e_ia_vwm rfl rfl (by omega) (by omega) rfl) ?_
    | refine wG_pure (e_ia_vwi rfl rfl (by omega) rfl) ?_
    | refine wG_pure (e_ia_vwn rfl rfl (by omega) (by omega) rfl) ?_
    | refine wG_n rfl rfl ?_
    | refine wG_u rfl rfl ?_
    | refine wG_new (o_mks rfl rfl (by omega) (by decide)) ?_)
  exact ret_intE (.inr rfl) ⟨_, retV_mv rfl, rfl⟩
theorem con58_nil (k : Int) : Con Try.prog 58 true [.agg [.nilS, .nilS], .int .i64 k] (.int .i64 k) [] := by
  refine con_of_wp mixed fun58 (by simp) [] plain_nil ?_
  unfold ac58 ro58
  simp only [zipT]
  have c1 := con102_nil k
  have c2 := con103_nil k
  repeat (first | refine wG_call c1 rfl rfl ?_ | refine wG_call c2 rfl rfl ?_ | (first
    | refine wC_a rfl ?_
    | refine q_s rfl ?_
    | refine q_b rfl ?_
    | refine wG_nil ?_
    | refine wG_g rfl ?_
    | refine wG_pure (o_len_vwm rfl) ?_
    | refine wG_pure (o_not_d rfl) ?_
    | refine wG_p rfl (by first | exact rfl | omega) ?_
    | refine wG_pure (o_str2 rfl rfl rfl) ?_
    | refine wG_pure (e_istr rfl rfl (by omega)) ?_
    | refine wG_pure (e_istr0 rfl rfl (by omega)) ?_
    | refine wG_pure (o_not rfl) ?_
    | refine wG_pure (e_ia_vw0 rfl rfl (by omega) rfl) ?_
    | refine wG_pure (e_ia_vwp rfl rfl (by omega) rfl) ?_
    | refine wG_pure (e_ia_vwm rfl rfl (by omega) (by omega) rfl) ?_
    | refine wG_pure (e_ia_vwi rfl rfl (by omega) rfl) ?_
    | refine wG_pure (e_ia_vwn rfl rfl (by omega) (by omega) rfl) ?_
    | refine wG_n rfl rfl ?_
    | refine wG_u rfl rfl ?_
    | refine wG_new (o_mks rfl rfl (by omega) (by decide)) ?_))
  exact ret_intE (.inr rfl) ⟨_, retV_mv rfl, rfl⟩
theorem markR_no (k : Int) : Con Try.prog 20 true [.agg [.nilS, .nilS, .nilS], .int .i64 k] (.int .i64 k) [] := by
  refine con_of_wp mixed fun20 (by simp) [] plain_nil ?_
  unfold ac20 ro20
  simp only [zipT]
  have c1 := con58_nil k
  have c2 := con59_nil k
  repeat (first | refine wG_call c1 rfl rfl ?_ | refine wG_call c2 rfl rfl ?_ | (first
    | refine wC_a rfl ?_
    | refine q_s rfl ?_
    | refine q_b rfl ?_
    | refine wG_nil ?_
    | refine wG_g rfl ?_
    | refine wG_pure (o_len_vwm rfl) ?_
    | refine wG_pure (o_not_d rfl) ?_
    | refine wG_p rfl (by first | exact rfl | omega) ?_
    | refine wG_pure (o_str2 rfl rfl rfl) ?_
    | refine wG_pure (e_istr rfl rfl (by omega)) ?_
    | refine wG_pure (e_istr0 rfl rfl (by omega)) ?_
    | refine wG_pure (o_not rfl) ?_
    | refine wG_pure (e_ia_vw0 rfl rfl (by omega) rfl) ?_
    | refine wG_pure (e_ia_vwp rfl rfl (by omega) rfl) ?_
    | refine wG_pure (e_ia_vwm rfl rfl (by omega) (by omega) rfl) ?_
    | refine wG_pure (e_ia_vwi rfl rfl (by omega) rfl) ?_
    | refine wG_pure (e_ia_vwn rfl rfl (by omega) (by omega) rfl) ?_
    | refine wG_n rfl rfl ?_
    | refine wG_u rfl rfl ?_
    | refine wG_new (o_mks rfl rfl (by omega) (by decide)) ?_))
  exact ret_intE (.inr rfl) ⟨_, retV_mv rfl, rfl⟩
end Go.Proofs.Ytkeobnaehgcloaa.Dst
namespace Go.Proofs.Ytkeobnaehgcloaa.Dst
open Go Go.Proofs.Ytkeobnaehgcloaa.Ab Go.Proofs.Ytkeobnaehgcloaa.Il Go.Proofs.Ytkeobnaehgcloaa.Rec
attribute [local irreducible] wpO wpC wpDr wpQ wpG wpE stepA seqQ blkQ Ret RetG ev
set_option maxRecDepth 10000
set_option maxHeartbeats 8000000
set_option linter.unusedSimpArgs false
set_option linter.unusedVariables false

structure F0 (R0 E0 : List AV) (z : Nat) (H : HP) : Prop where
  f0 : hg H 0 = some [R0]
  f1 : hg H 1 = some [E0]
  fz : hg H z = some [[.nilS, .nilS, .nilS]]
theorem F0.mv {R0 E0 : List AV} {z : Nat} {H H' : HP} (f : F0 R0 E0 z H) (D : Nat → Prop) (k : ∀ i o, D i → hg H i = o → hg H' i = o) (d0 : D 0) (d1 : D 1) (dz : D z) : F0 R0 E0 z H' := ⟨k _ _ d0 f.f0, k _ _ d1 f.f1, k _ _ dz f.fz⟩
theorem lawA_no (a b c nn : Bool) (r : Rc) (xs : List Dn) (x : Int) (e : Ds) (h1' : r.cs.length ≤ 1048576) (h2' : r.xs.length ≤ 1048576) (h3' : xs.length ≤ 1048576) (hL' : LenN xs 1048576) (he : e.ws.length ≤ 1048576) (hS : sL xs xs.length ≤ 1048576)
    (cS : Con Try.prog 14 true [.agg (dtR true true true r (tD xs)), .int .i64 x, .agg (dRow true e)] aNo []) (cI : Con Try.prog 17 true [.agg (dtR true true true r (tD xs)), .int .i64 x, .agg (dRow true e)] aNo [])
    (l1 l2 : Int) (hl1 : 0 ≤ l1) (hl2 : 0 ≤ l2) (c1 : Con Try.prog 12 true [.agg (dtR a b c r xs), .int .i64 1048576] (.int .i64 l1) []) (c2 : Con Try.prog 13 true [.agg (dRow nn e), .int .i64 l1] (.int .i64 l2) []) : Con Try.prog 3 true [.agg (dtR a b c r xs), .int .i64 x, .agg (dRow nn e)] (.bool true) [] := by
  classical
  refine con_of_wp mixed fun3 (by simp) [] plain_nil ?_
  unfold ac3 ro3
  simp only [zipT]
  have h3t : (tD xs).length ≤ 1048576 := by rw [tD_len]; exact h3'
  have hLt := hL'.t
  have cT := con15 a b c r xs h1' h2' h3' hL'
  have cD := con16 nn e he
  have cE := con18 true true true true true true r (tD xs) h1' h2' h3t hLt
  have cQ := con19_same true true e he
  have c5 := eqR_no
  have c6 := heldR_no
  have c7 := markR_no 1
  have hlen := dtO_len r xs
  have d1 : decide (l1 < 0) = false := decide_eq_false (by omega)
  have d2 : decide (l2 < 0) = false := decide_eq_false (by omega)
  repeat (first | refine wG_call c1 rfl rfl ?_ | (first
    | refine wC_a rfl ?_
    | refine q_s rfl ?_
    | refine q_b rfl ?_
    | refine wG_nil ?_
    | refine wG_g rfl ?_
    | refine wG_pure (o_len_vwm rfl) ?_
    | refine wG_pure (o_not_d rfl) ?_
    | refine wG_p rfl (by first | exact rfl | omega) ?_
    | refine wG_pure (o_str2 rfl rfl rfl) ?_
    | refine wG_pure (e_istr rfl rfl (by omega)) ?_
    | refine wG_pure (e_istr0 rfl rfl (by omega)) ?_
    | refine wG_pure (o_not rfl) ?_
    | refine wG_pure (e_ia_vw0 rfl rfl (by omega) rfl) ?_
    | refine wG_pure (e_ia_vwp rfl rfl (by omega) rfl) ?_
    | refine wG_pure (e_ia_vwm rfl rfl (by omega) (by omega) rfl) ?_
    | refine wG_pure (e_ia_vwi rfl rfl (by omega) rfl) ?_
    | refine wG_pure (e_ia_vwn rfl rfl (by omega) (by omega) rfl) ?_
    | refine wG_n rfl rfl ?_
    | refine wG_u rfl rfl ?_
    | refine wG_new (o_mks rfl rfl (by omega) (by decide)) ?_))
  simp only [d1]
  repeat (first | refine wG_call c2 rfl rfl ?_ | (first
    | refine wC_a rfl ?_
    | refine q_s rfl ?_
    | refine q_b rfl ?_
    | refine wG_nil ?_
    | refine wG_g rfl ?_
    | refine wG_pure (o_len_vwm rfl) ?_
    | refine wG_pure (o_not_d rfl) ?_
    | refine wG_p rfl (by first | exact rfl | omega) ?_
    | refine wG_pure (o_str2 rfl rfl rfl) ?_
    | refine wG_pure (e_istr rfl rfl (by omega)) ?_
    | refine wG_pure (e_istr0 rfl rfl (by omega)) ?_
    | refine wG_pure (o_not rfl) ?_
    | refine wG_pure (e_ia_vw0 rfl rfl (by omega) rfl) ?_
    | refine wG_pure (e_ia_vwp rfl rfl (by omega) rfl) ?_
    | refine wG_pure (e_ia_vwm rfl rfl (by omega) (by omega) rfl) ?_
    | refine wG_pure (e_ia_vwi rfl rfl (by omega) rfl) ?_
    | refine wG_pure (e_ia_vwn rfl rfl (by omega) (by omega) rfl) ?_
    | refine wG_n rfl rfl ?_
    | refine wG_u rfl rfl ?_
    | refine wG_new (o_mks rfl rfl (by omega) (by decide)) ?_))
  simp only [d2]
  repeat (first | refine wC_dregE ?_ | refine wE_callG (v' := dtV 2 r xs) (rd := []) cT rfl rfl rfl rfl ?_ | (first
    | refine wC_a rfl ?_
    | refine q_s rfl ?_
    | refine q_b rfl ?_
    | refine wG_nil ?_
    | refine wG_g rfl ?_
    | refine wG_pure (o_len_vwm rfl) ?_
    | refine wG_pure (o_not_d rfl) ?_
    | refine wG_p rfl (by first | exact rfl | omega) ?_
    | refine wG_pure (o_str2 rfl rfl rfl) ?_
    | refine wG_pure (e_istr rfl rfl (by omega)) ?_
    | refine wG_pure (e_istr0 rfl rfl (by omega)) ?_
    | refine wG_pure (o_not rfl) ?_
    | refine wG_pure (e_ia_vw0 rfl rfl (by omega) rfl) ?_
    | refine wG_pure (e_ia_vwp rfl rfl (by omega) rfl) ?_
    | refine wG_pure (e_ia_vwm rfl rfl (by omega) (by omega) rfl) ?_
    | refine wG_pure (e_ia_vwi rfl rfl (by omega) rfl) ?_
    | refine wG_pure (e_ia_vwn rfl rfl (by omega) (by omega) rfl) ?_
    | refine wG_n rfl rfl ?_
    | refine wG_u rfl rfl ?_
    | refine wG_new (o_mks rfl rfl (by omega) (by decide)) ?_) | (first
    | refine wE_nil (by kernel_rfl) ?_
    | refine wE_gy rfl ?_
    | refine wE_gn rfl rfl rfl ?_
    | refine wE_gu rfl rfl ?_
    | refine wE_gnn rfl rfl rfl ?_
    | refine wE_v (o_len_vwm rfl) rfl ?_
    | refine wE_v (o_not_d rfl) rfl ?_
    | refine wE_p rfl (by first | exact rfl | omega) rfl ?_
    | refine wE_v (o_str2 rfl rfl rfl) rfl ?_
    | refine wE_v (e_istr rfl rfl (by omega)) rfl ?_
    | refine wE_v (e_istr0 rfl rfl (by omega)) rfl ?_
    | refine wE_v (o_not rfl) rfl ?_
    | refine wE_v (e_ia_vw0 rfl rfl (by omega) rfl) rfl ?_
    | refine wE_v (e_ia_vwp rfl rfl (by omega) rfl) rfl ?_
    | refine wE_v (e_ia_vwm rfl rfl (by omega) (by omega) rfl) rfl ?_
    | refine wE_v (e_ia_vwi rfl rfl (by omega) rfl) rfl ?_
    | refine wE_v (e_ia_vwn rfl rfl (by omega) (by omega) rfl) rfl ?_
    | refine wE_n rfl rfl rfl ?_
    | refine wE_u rfl rfl rfl ?_
    | refine wE_new (o_mks rfl rfl (by omega) (by decide)) rfl ?_))
  change wpE _ _ _ ⟨_, dtH 2 r xs _, _⟩ _ _
  obtain ⟨y1, hy1⟩ : ∃ y1, 0 + 1 + 1 + (dtO r xs).length = y1 := ⟨_, rfl⟩
  rw [hy1]
  refine wE_v (o_ldt_pt rfl (dtH_out (by omega) rfl) rfl rfl rfl) rfl ?_
  refine wE_call1 (rd := []) cD rfl rfl rfl ?_
  refine wE_call cS (ag_any (dr_dt r xs (fun i rows hi => hg_skip (by have := dtO_lt hi; omega) (dtH_in hi))) (ag_int rfl (ag_is rfl hg_here rfl iRow_plain ag_nil))) rfl rfl ?_
  obtain ⟨z1, hz1⟩ : ∃ z1, y1 + 1 = z1 := ⟨_, rfl⟩
  rw [hz1]
  have hwA : wfH ((y1, some (e.ws.map iRow)) :: dtH 2 r xs [(1, some [dRow nn e]), (0, some [dtR a b c r xs])]) z1 := wfH_cons (by omega) (ltrI _ _) (dtH_wf (by omega) (wfH_cons (by omega) (by simp [dRow, AV.ltr]) (wfH_cons (by omega) (by simp [dtR, AV.ltr]) wfH_nil)))
  repeat (first | refine wE_upd (o_st_agg rfl hg_here rfl rfl rfl rfl rfl) rfl ?_ | refine wE_nilF (fun H => F0 (dtR a b c r xs) (dRow nn e) z1 H ∧ wfH H (z1 + 1)) ?_ ⟨⟨?_, ?_, ?_⟩, ?_⟩ ?_ | (first
    | refine wE_nil (by kernel_rfl) ?_
    | refine wE_gy rfl ?_
    | refine wE_gn rfl rfl rfl ?_
    | refine wE_gu rfl rfl ?_
    | refine wE_gnn rfl rfl rfl ?_
    | refine wE_v (o_len_vwm rfl) rfl ?_
    | refine wE_v (o_not_d rfl) rfl ?_
    | refine wE_p rfl (by first | exact rfl | omega) rfl ?_
    | refine wE_v (o_str2 rfl rfl rfl) rfl ?_
    | refine wE_v (e_istr rfl rfl (by omega)) rfl ?_
    | refine wE_v (e_istr0 rfl rfl (by omega)) rfl ?_
    | refine wE_v (o_not rfl) rfl ?_
    | refine wE_v (e_ia_vw0 rfl rfl (by omega) rfl) rfl ?_
    | refine wE_v (e_ia_vwp rfl rfl (by omega) rfl) rfl ?_
    | refine wE_v (e_ia_vwm rfl rfl (by omega) (by omega) rfl) rfl ?_
    | refine wE_v (e_ia_vwi rfl rfl (by omega) rfl) rfl ?_
    | refine wE_v (e_ia_vwn rfl rfl (by omega) (by omega) rfl) rfl ?_
    | refine wE_n rfl rfl rfl ?_
    | refine wE_u rfl rfl rfl ?_
    | refine wE_new (o_mks rfl rfl (by omega) (by decide)) rfl ?_))
  · refine hok12 ?_ ?_ ?_ ?_ ?_ ?_ ?_ ?_ ?_ ?_ ?_ ?_
    · exact djB_mkh (by omega)
    · exact djBm (by rw [List.length_map]; exact Nat.le_refl _) (by omega)
    · exact djB1' (by omega)
    · rfl
    · exact djB1' (by omega)
    · rfl
    · exact djB1' (by omega)
    · rfl
    · exact djBz fun x hx => rds_lt hwA (by show ltrL _ [dtV 2 r xs, .int .i64 _, .agg [.int .i64 e.f, .sl y1 1 0 e.ws.length]] = true; simp [dtV, AV.ltr, ltrL]; omega) x hx
    · rfl
    · rfl
    · rfl
  · exact hg_skip (by omega) (hg_skip (by omega) (hg_skip (by omega) (dtH_out (by omega) rfl)))
  · exact hg_skip (by omega) (hg_skip (by omega) (hg_skip (by omega) (dtH_out (by omega) rfl)))
  · exact hg_here
  · exact wfH_cons (by omega) (by simp [put, AV.ltr]) (wfH_cons (by omega) (by simp [AV.ltr]) (wfH_le hwA (by omega)))
  rintro H1 ⟨fa, fw⟩
  repeat (first | refine wG_pure (o_ldt_pt rfl fa.f0 rfl rfl rfl) ?_ | (first
    | refine wC_a rfl ?_
    | refine q_s rfl ?_
    | refine q_b rfl ?_
    | refine wG_nil ?_
    | refine wG_g rfl ?_
    | refine wG_pure (o_len_vwm rfl) ?_
    | refine wG_pure (o_not_d rfl) ?_
    | refine wG_p rfl (by first | exact rfl | omega) ?_
    | refine wG_pure (o_str2 rfl rfl rfl) ?_
    | refine wG_pure (e_istr rfl rfl (by omega)) ?_
    | refine wG_pure (e_istr0 rfl rfl (by omega)) ?_
    | refine wG_pure (o_not rfl) ?_
    | refine wG_pure (e_ia_vw0 rfl rfl (by omega) rfl) ?_
    | refine wG_pure (e_ia_vwp rfl rfl (by omega) rfl) ?_
    | refine wG_pure (e_ia_vwm rfl rfl (by omega) (by omega) rfl) ?_
    | refine wG_pure (e_ia_vwi rfl rfl (by omega) rfl) ?_
    | refine wG_pure (e_ia_vwn rfl rfl (by omega) (by omega) rfl) ?_
    | refine wG_n rfl rfl ?_
    | refine wG_u rfl rfl ?_
    | refine wG_new (o_mks rfl rfl (by omega) (by decide)) ?_))
  refine wG_callG (v' := dtV (z1 + 1) r xs) cT rfl rfl rfl ?_
  change wpG _ _ _ ⟨_, dtH (z1 + 1) r xs _, _⟩ _
  obtain ⟨p1, hp1⟩ : ∃ p1, z1 + 1 + (dtO r xs).length = p1 := ⟨_, rfl⟩
  rw [hp1]
  repeat (first | refine wG_upd (o_st_agg rfl hg_here rfl rfl rfl rfl rfl) ?_ | (first
    | refine wC_a rfl ?_
    | refine q_s rfl ?_
    | refine q_b rfl ?_
    | refine wG_nil ?_
    | refine wG_g rfl ?_
    | refine wG_pure (o_len_vwm rfl) ?_
    | refine wG_pure (o_not_d rfl) ?_
    | refine wG_p rfl (by first | exact rfl | omega) ?_
    | refine wG_pure (o_str2 rfl rfl rfl) ?_
    | refine wG_pure (e_istr rfl rfl (by omega)) ?_
    | refine wG_pure (e_istr0 rfl rfl (by omega)) ?_
    | refine wG_pure (o_not rfl) ?_
    | refine wG_pure (e_ia_vw0 rfl rfl (by omega) rfl) ?_
    | refine wG_pure (e_ia_vwp rfl rfl (by omega) rfl) ?_
    | refine wG_pure (e_ia_vwm rfl rfl (by omega) (by omega) rfl) ?_
    | refine wG_pure (e_ia_vwi rfl rfl (by omega) rfl) ?_
    | refine wG_pure (e_ia_vwn rfl rfl (by omega) (by omega) rfl) ?_
    | refine wG_n rfl rfl ?_
    | refine wG_u rfl rfl ?_
    | refine wG_new (o_mks rfl rfl (by omega) (by decide)) ?_))
  refine wG_pure (o_ldt_pt rfl (hg_skip (by omega) (hg_skip (by omega) (dtH_out (by omega) fa.f1))) rfl rfl rfl) ?_
  repeat (first | refine wG_call1 cD rfl rfl ?_ | refine wG_upd (o_st_agg rfl hg_here rfl rfl rfl rfl rfl) ?_ | (first
    | refine wC_a rfl ?_
    | refine q_s rfl ?_
    | refine q_b rfl ?_
    | refine wG_nil ?_
    | refine wG_g rfl ?_
    | refine wG_pure (o_len_vwm rfl) ?_
    | refine wG_pure (o_not_d rfl) ?_
    | refine wG_p rfl (by first | exact rfl | omega) ?_
    | refine wG_pure (o_str2 rfl rfl rfl) ?_
    | refine wG_pure (e_istr rfl rfl (by omega)) ?_
    | refine wG_pure (e_istr0 rfl rfl (by omega)) ?_
    | refine wG_pure (o_not rfl) ?_
    | refine wG_pure (e_ia_vw0 rfl rfl (by omega) rfl) ?_
    | refine wG_pure (e_ia_vwp rfl rfl (by omega) rfl) ?_
    | refine wG_pure (e_ia_vwm rfl rfl (by omega) (by omega) rfl) ?_
    | refine wG_pure (e_ia_vwi rfl rfl (by omega) rfl) ?_
    | refine wG_pure (e_ia_vwn rfl rfl (by omega) (by omega) rfl) ?_
    | refine wG_n rfl rfl ?_
    | refine wG_u rfl rfl ?_
    | refine wG_new (o_mks rfl rfl (by omega) (by decide)) ?_))
  refine hpG (fun H => F0 (dtR a b c r xs) (dRow nn e) z1 H ∧ FM r xs (z1 + 1) p1 H ∧ FE e (p1 + 1) H ∧ wfH H (p1 + 1 + 1 + 1)) ⟨fa.mv (· < z1 + 1) (fun i o hi ho => hg_skip (by omega) (hg_skip (by omega) (hg_skip (by omega) (hg_skip (by omega) (hg_skip (by omega) (dtH_out (by omega) ho)))))) (by omega) (by omega) (by omega), ⟨fun i rows hi => ?_, ?_⟩, ⟨?_, ?_⟩, ?_⟩ ?_
  · have := dtO_lt hi
    exact hg_skip (by omega) (hg_skip (by omega) (hg_skip (by omega) (hg_skip (by omega) (hg_skip (by omega) (dtH_in hi)))))
  · exact hg_skip (by omega) (hg_skip (by omega) (hg_skip (by omega) hg_here))
  · exact hg_skip (by omega) (hg_skip (by omega) hg_here)
  · exact hg_here
  · exact wfH_cons (rows := [[.int .i64 e.f, .sl (p1 + 1) 1 0 e.ws.length]]) (by omega) (by simp [AV.ltr]) (wfH_cons (by omega) (by simp [AV.ltr]) (wfH_cons (by omega) (ltrI _ _) (wfH_cons (by omega) (by simp [put, AV.ltr]; omega) (wfH_cons (by omega) (by simp [AV.ltr]) (dtH_wf (by omega) (wfH_le fw (by omega)))))))
  clear fa fw
  rintro H2 ⟨fa, fm, fe, fw⟩
  obtain ⟨g, hg1⟩ : ∃ g, p1 + 1 + 1 + 1 = g := ⟨_, rfl⟩
  rw [hg1] at fw ⊢
  repeat (first | refine wG_pure (o_ldt_pt rfl fm.fp rfl rfl rfl) ?_ | refine wG_pure (o_ldt_pt rfl fe.fb rfl rfl rfl) ?_ | refine wG_call cI (ag_any (dr_dt r xs fm.fm) (ag_int rfl (ag_is rfl fe.fl rfl iRow_plain ag_nil))) rfl ?_ | refine wG_upd (o_st_agg rfl hg_here rfl rfl rfl rfl rfl) ?_ | (first
    | refine wC_a rfl ?_
    | refine q_s rfl ?_
    | refine q_b rfl ?_
    | refine wG_nil ?_
    | refine wG_g rfl ?_
    | refine wG_pure (o_len_vwm rfl) ?_
    | refine wG_pure (o_not_d rfl) ?_
    | refine wG_p rfl (by first | exact rfl | omega) ?_
    | refine wG_pure (o_str2 rfl rfl rfl) ?_
    | refine wG_pure (e_istr rfl rfl (by omega)) ?_
    | refine wG_pure (e_istr0 rfl rfl (by omega)) ?_
    | refine wG_pure (o_not rfl) ?_
    | refine wG_pure (e_ia_vw0 rfl rfl (by omega) rfl) ?_
    | refine wG_pure (e_ia_vwp rfl rfl (by omega) rfl) ?_
    | refine wG_pure (e_ia_vwm rfl rfl (by omega) (by omega) rfl) ?_
    | refine wG_pure (e_ia_vwi rfl rfl (by omega) rfl) ?_
    | refine wG_pure (e_ia_vwn rfl rfl (by omega) (by omega) rfl) ?_
    | refine wG_n rfl rfl ?_
    | refine wG_u rfl rfl ?_
    | refine wG_new (o_mks rfl rfl (by omega) (by decide)) ?_))
  refine hpG (fun H => F0 (dtR a b c r xs) (dRow nn e) z1 H ∧ FM r xs (z1 + 1) p1 H ∧ FE e (p1 + 1) H ∧ hg H g = some [[.nilS, .nilS, .nilS]] ∧ wfH H (g + 1)) ⟨fa.mv (· < g) (fun i o hi ho => hg_skip (by omega) (hg_skip (by omega) ho)) (by omega) (by omega) (by omega), fm.mv (· < g) (fun i o hi ho => hg_skip (by omega) (hg_skip (by omega) ho)) (fun i hi => by omega) (by omega), fe.mv (· < g) (fun i o hi ho => hg_skip (by omega) (hg_skip (by omega) ho)) (by omega) (by omega), hg_here, wfH_cons (by omega) (by simp [put, AV.ltr]) (wfH_cons (by omega) (by simp [AV.ltr]) (wfH_le fw (by omega)))⟩ ?_
  clear fa fm fe fw
  rintro H3 ⟨fa, fm, fe, fg, fw⟩
  repeat (first | refine wC_dregE ?_ | refine wG_pure (o_ldt_pt rfl fg rfl rfl rfl) ?_ | refine wG_pure (o_ldt_pt rfl fa.fz rfl rfl rfl) ?_ | refine wG_call c5 rfl rfl ?_ | (first
    | refine wC_a rfl ?_
    | refine q_s rfl ?_
    | refine q_b rfl ?_
    | refine wG_nil ?_
    | refine wG_g rfl ?_
    | refine wG_pure (o_len_vwm rfl) ?_
    | refine wG_pure (o_not_d rfl) ?_
    | refine wG_p rfl (by first | exact rfl | omega) ?_
    | refine wG_pure (o_str2 rfl rfl rfl) ?_
    | refine wG_pure (e_istr rfl rfl (by omega)) ?_
    | refine wG_pure (e_istr0 rfl rfl (by omega)) ?_
    | refine wG_pure (o_not rfl) ?_
    | refine wG_pure (e_ia_vw0 rfl rfl (by omega) rfl) ?_
    | refine wG_pure (e_ia_vwp rfl rfl (by omega) rfl) ?_
    | refine wG_pure (e_ia_vwm rfl rfl (by omega) (by omega) rfl) ?_
    | refine wG_pure (e_ia_vwi rfl rfl (by omega) rfl) ?_
    | refine wG_pure (e_ia_vwn rfl rfl (by omega) (by omega) rfl) ?_
    | refine wG_n rfl rfl ?_
    | refine wG_u rfl rfl ?_
    | refine wG_new (o_mks rfl rfl (by omega) (by decide)) ?_))
  refine wE_v (o_ldt_pt rfl fm.fp rfl rfl rfl) rfl ?_
  refine wE_v (o_ldt_pt rfl fa.f0 rfl rfl rfl) rfl ?_
  refine wE_callG (v' := dtV (g + 1) r xs) cT rfl rfl rfl rfl ?_
  change wpE _ _ _ ⟨_, dtH (g + 1) r xs _, _⟩ _ _
  obtain ⟨k1, hk1⟩ : ∃ k1, g + 1 + (dtO r xs).length = k1 := ⟨_, rfl⟩
  rw [hk1]
  refine wE_call cE (ag_any (dr_dt r xs (fun i rows hi => dtH_out (by have := dtO_lt hi; omega) (fm.fm i rows hi))) (ag_any (dr_dt r xs (fun i rows hi => dtH_in hi)) ag_nil)) rfl rfl ?_
  repeat (first | refine wE_nilF (fun H => F0 (dtR a b c r xs) (dRow nn e) z1 H ∧ FM r xs (z1 + 1) p1 H ∧ FE e (p1 + 1) H ∧ hg H g = some [[.nilS, .nilS, .nilS]] ∧ wfH H k1) (hok5 (djB_mkh (by omega))) ⟨fa.mv (· < g + 1) (fun i o hi ho => dtH_out (by omega) ho) (by omega) (by omega) (by omega), fm.mv (· < g + 1) (fun i o hi ho => dtH_out (by omega) ho) (fun i hi => by omega) (by omega), fe.mv (· < g + 1) (fun i o hi ho => dtH_out (by omega) ho) (by omega) (by omega), dtH_out (by omega) fg, dtH_wf (by omega) (wfH_le fw (by omega))⟩ ?_ | (first
    | refine wE_nil (by kernel_rfl) ?_
    | refine wE_gy rfl ?_
    | refine wE_gn rfl rfl rfl ?_
    | refine wE_gu rfl rfl ?_
    | refine wE_gnn rfl rfl rfl ?_
    | refine wE_v (o_len_vwm rfl) rfl ?_
    | refine wE_v (o_not_d rfl) rfl ?_
    | refine wE_p rfl (by first | exact rfl | omega) rfl ?_
    | refine wE_v (o_str2 rfl rfl rfl) rfl ?_
    | refine wE_v (e_istr rfl rfl (by omega)) rfl ?_
    | refine wE_v (e_istr0 rfl rfl (by omega)) rfl ?_
    | refine wE_v (o_not rfl) rfl ?_
    | refine wE_v (e_ia_vw0 rfl rfl (by omega) rfl) rfl ?_
    | refine wE_v (e_ia_vwp rfl rfl (by omega) rfl) rfl ?_
    | refine wE_v (e_ia_vwm rfl rfl (by omega) (by omega) rfl) rfl ?_
    | refine wE_v (e_ia_vwi rfl rfl (by omega) rfl) rfl ?_
    | refine wE_v (e_ia_vwn rfl rfl (by omega) (by omega) rfl) rfl ?_
    | refine wE_n rfl rfl rfl ?_
    | refine wE_u rfl rfl rfl ?_
    | refine wE_new (o_mks rfl rfl (by omega) (by decide)) rfl ?_))
  clear fa fm fe fg fw
  rintro H4 ⟨fa, fm, fe, fg, fw⟩
  repeat (first | refine wC_dregE ?_ | (first
    | refine wC_a rfl ?_
    | refine q_s rfl ?_
    | refine q_b rfl ?_
    | refine wG_nil ?_
    | refine wG_g rfl ?_
    | refine wG_pure (o_len_vwm rfl) ?_
    | refine wG_pure (o_not_d rfl) ?_
    | refine wG_p rfl (by first | exact rfl | omega) ?_
    | refine wG_pure (o_str2 rfl rfl rfl) ?_
    | refine wG_pure (e_istr rfl rfl (by omega)) ?_
    | refine wG_pure (e_istr0 rfl rfl (by omega)) ?_
    | refine wG_pure (o_not rfl) ?_
    | refine wG_pure (e_ia_vw0 rfl rfl (by omega) rfl) ?_
    | refine wG_pure (e_ia_vwp rfl rfl (by omega) rfl) ?_
    | refine wG_pure (e_ia_vwm rfl rfl (by omega) (by omega) rfl) ?_
    | refine wG_pure (e_ia_vwi rfl rfl (by omega) rfl) ?_
    | refine wG_pure (e_ia_vwn rfl rfl (by omega) (by omega) rfl) ?_
    | refine wG_n rfl rfl ?_
    | refine wG_u rfl rfl ?_
    | refine wG_new (o_mks rfl rfl (by omega) (by decide)) ?_))
  refine wE_v (o_ldt_pt rfl fe.fb rfl rfl rfl) rfl ?_
  refine wE_v (o_ldt_pt rfl fa.f1 rfl rfl rfl) rfl ?_
  refine wE_call1 cD rfl rfl rfl ?_
  refine wE_call cQ (ag_is rfl (hg_skip (by omega) fe.fl) rfl iRow_plain (ag_is rfl hg_here rfl iRow_plain ag_nil)) rfl rfl ?_
  repeat (first | refine wE_nilF (fun H => F0 (dtR a b c r xs) (dRow nn e) z1 H ∧ FM r xs (z1 + 1) p1 H ∧ FE e (p1 + 1) H ∧ hg H g = some [[.nilS, .nilS, .nilS]] ∧ wfH H (k1 + 1)) (hok5 (djB1' (by omega))) ⟨fa.mv (· < k1) (fun i o hi ho => hg_skip (by omega) ho) (by omega) (by omega) (by omega), fm.mv (· < k1) (fun i o hi ho => hg_skip (by omega) ho) (fun i hi => by omega) (by omega), fe.mv (· < k1) (fun i o hi ho => hg_skip (by omega) ho) (by omega) (by omega), hg_skip (by omega) fg, wfH_cons (by omega) (ltrI _ _) (wfH_le fw (by omega))⟩ ?_ | (first
    | refine wE_nil (by kernel_rfl) ?_
    | refine wE_gy rfl ?_
    | refine wE_gn rfl rfl rfl ?_
    | refine wE_gu rfl rfl ?_
    | refine wE_gnn rfl rfl rfl ?_
    | refine wE_v (o_len_vwm rfl) rfl ?_
    | refine wE_v (o_not_d rfl) rfl ?_
    | refine wE_p rfl (by first | exact rfl | omega) rfl ?_
    | refine wE_v (o_str2 rfl rfl rfl) rfl ?_
    | refine wE_v (e_istr rfl rfl (by omega)) rfl ?_
    | refine wE_v (e_istr0 rfl rfl (by omega)) rfl ?_
    | refine wE_v (o_not rfl) rfl ?_
    | refine wE_v (e_ia_vw0 rfl rfl (by omega) rfl) rfl ?_
    | refine wE_v (e_ia_vwp rfl rfl (by omega) rfl) rfl ?_
    | refine wE_v (e_ia_vwm rfl rfl (by omega) (by omega) rfl) rfl ?_
    | refine wE_v (e_ia_vwi rfl rfl (by omega) rfl) rfl ?_
    | refine wE_v (e_ia_vwn rfl rfl (by omega) (by omega) rfl) rfl ?_
    | refine wE_n rfl rfl rfl ?_
    | refine wE_u rfl rfl rfl ?_
    | refine wE_new (o_mks rfl rfl (by omega) (by decide)) rfl ?_))
  clear fa fm fe fg fw
  rintro H5 ⟨fa, fm, fe, fg, fw⟩
  have sM := @sh_mdr r xs h1' h2' h3' hS H5 (rmv (z1 + 1) (xs.length + 3) H5) (k1 + 1) (z1 + 1) fm.fm (by omega) (rmv_wf fw) (fun i rows hi => rmv_sub hi)
  obtain ⟨K, hK0, hK1, hK⟩ : ∃ K : Int, 0 ≤ K ∧ K ≤ 4294967296 ∧ 1 + 2 * (r.cs.length : Int) + 2 * (r.xs.length : Int) + (xs.length : Int) + (sL xs xs.length : Int) = K := ⟨_, by omega, by omega, rfl⟩
  rw [hK] at sM
  have fe2 : FE e (p1 + 1) (rmv (z1 + 1) (xs.length + 3) H5) := fe.mv (fun i => i < z1 + 1 ∨ z1 + 1 + (xs.length + 3) ≤ i) (fun i o hi ho => rmv_out hi ho) (by omega) (by omega)
  have fw2 : wfH (rmv (z1 + 1) (xs.length + 3) H5) (k1 + 1 + 2) := wfH_le (rmv_wf fw) (by omega)
  have sN := sh21 e K he hK0 hK1 fe2.fl fw2
  repeat (first | refine wG_pure (o_ldt_pt rfl fm.fp rfl rfl rfl) ?_ | refine wG_callS sM rfl ?_ | refine wG_pure (o_ldt_pt rfl fe2.fb rfl rfl rfl) ?_ | refine wG_callS sN rfl ?_ | (first
    | refine wC_a rfl ?_
    | refine q_s rfl ?_
    | refine q_b rfl ?_
    | refine wG_nil ?_
    | refine wG_g rfl ?_
    | refine wG_pure (o_len_vwm rfl) ?_
    | refine wG_pure (o_not_d rfl) ?_
    | refine wG_p rfl (by first | exact rfl | omega) ?_
    | refine wG_pure (o_str2 rfl rfl rfl) ?_
    | refine wG_pure (e_istr rfl rfl (by omega)) ?_
    | refine wG_pure (e_istr0 rfl rfl (by omega)) ?_
    | refine wG_pure (o_not rfl) ?_
    | refine wG_pure (e_ia_vw0 rfl rfl (by omega) rfl) ?_
    | refine wG_pure (e_ia_vwp rfl rfl (by omega) rfl) ?_
    | refine wG_pure (e_ia_vwm rfl rfl (by omega) (by omega) rfl) ?_
    | refine wG_pure (e_ia_vwi rfl rfl (by omega) rfl) ?_
    | refine wG_pure (e_ia_vwn rfl rfl (by omega) (by omega) rfl) ?_
    | refine wG_n rfl rfl ?_
    | refine wG_u rfl rfl ?_
    | refine wG_new (o_mks rfl rfl (by omega) (by decide)) ?_))
  have dK : decide (K + (e.ws.length : Int) < 0) = false := decide_eq_false (by omega)
  simp only [dK]
  refine hpG (fun H => F0 (dtR a b c r xs) (dRow nn e) z1 H ∧ hg H g = some [[.nilS, .nilS, .nilS]] ∧ wfH H (k1 + 1 + 2)) ⟨fa.mv (· < z1 + 1) (fun i o hi ho => hg_skip (by omega) (rmv_out (.inl hi) ho)) (by omega) (by omega) (by omega), hg_skip (by omega) (rmv_out (.inr (by omega)) fg), wfH_cons (by omega) (ltrI _ _) fw2⟩ ?_
  clear fa fm fe fg fw sM sN fe2 fw2
  rintro H6 ⟨fa, fg, fw⟩
  obtain ⟨n2, hn2⟩ : ∃ n2, k1 + 1 + 2 = n2 := ⟨_, rfl⟩
  rw [hn2] at fw ⊢
  repeat (first | refine wC_dregE ?_ | refine wG_pure (o_ldt_pt rfl fg rfl rfl rfl) ?_ | refine wG_pure (o_ldt_pt rfl fa.fz rfl rfl rfl) ?_ | refine wG_call c5 rfl rfl ?_ | refine wG_call c7 rfl rfl ?_ | refine wG_call c6 rfl rfl ?_ | (first
    | refine wC_a rfl ?_
    | refine q_s rfl ?_
    | refine q_b rfl ?_
    | refine wG_nil ?_
    | refine wG_g rfl ?_
    | refine wG_pure (o_len_vwm rfl) ?_
    | refine wG_pure (o_not_d rfl) ?_
    | refine wG_p rfl (by first | exact rfl | omega) ?_
    | refine wG_pure (o_str2 rfl rfl rfl) ?_
    | refine wG_pure (e_istr rfl rfl (by omega)) ?_
    | refine wG_pure (e_istr0 rfl rfl (by omega)) ?_
    | refine wG_pure (o_not rfl) ?_
    | refine wG_pure (e_ia_vw0 rfl rfl (by omega) rfl) ?_
    | refine wG_pure (e_ia_vwp rfl rfl (by omega) rfl) ?_
    | refine wG_pure (e_ia_vwm rfl rfl (by omega) (by omega) rfl) ?_
    | refine wG_pure (e_ia_vwi rfl rfl (by omega) rfl) ?_
    | refine wG_pure (e_ia_vwn rfl rfl (by omega) (by omega) rfl) ?_
    | refine wG_n rfl rfl ?_
    | refine wG_u rfl rfl ?_
    | refine wG_new (o_mks rfl rfl (by omega) (by decide)) ?_))
  refine wE_v (o_ldt_pt rfl fa.f0 rfl rfl rfl) rfl ?_
  refine wE_callG (v' := dtV n2 r xs) (rd := []) cT rfl rfl rfl rfl ?_
  change wpE _ _ _ ⟨_, dtH n2 r xs _, _⟩ _ _
  obtain ⟨y2, hy2⟩ : ∃ y2, n2 + (dtO r xs).length = y2 := ⟨_, rfl⟩
  rw [hy2]
  repeat (first
    | refine wE_nil (by kernel_rfl) ?_
    | refine wE_gy rfl ?_
    | refine wE_gn rfl rfl rfl ?_
    | refine wE_gu rfl rfl ?_
    | refine wE_gnn rfl rfl rfl ?_
    | refine wE_v (o_len_vwm rfl) rfl ?_
    | refine wE_v (o_not_d rfl) rfl ?_
    | refine wE_p rfl (by first | exact rfl | omega) rfl ?_
    | refine wE_v (o_str2 rfl rfl rfl) rfl ?_
    | refine wE_v (e_istr rfl rfl (by omega)) rfl ?_
    | refine wE_v (e_istr0 rfl rfl (by omega)) rfl ?_
    | refine wE_v (o_not rfl) rfl ?_
    | refine wE_v (e_ia_vw0 rfl rfl (by omega) rfl) rfl ?_
    | refine wE_v (e_ia_vwp rfl rfl (by omega) rfl) rfl ?_
    | refine wE_v (e_ia_vwm rfl rfl (by omega) (by omega) rfl) rfl ?_
    | refine wE_v (e_ia_vwi rfl rfl (by omega) rfl) rfl ?_
    | refine wE_v (e_ia_vwn rfl rfl (by omega) (by omega) rfl) rfl ?_
    | refine wE_n rfl rfl rfl ?_
    | refine wE_u rfl rfl rfl ?_
    | refine wE_new (o_mks rfl rfl (by omega) (by decide)) rfl ?_)
  refine wE_v (o_ldt_pt rfl (dtH_out (by omega) fa.f1) rfl rfl rfl) rfl ?_
  refine wE_call1 (rd := []) cD rfl rfl rfl ?_
  refine wE_call cI (ag_any (dr_dt r xs (fun i rows hi => hg_skip (by have := dtO_lt hi; omega) (dtH_in hi))) (ag_int rfl (ag_is rfl hg_here rfl iRow_plain ag_nil))) rfl rfl ?_
  obtain ⟨z2, hz2⟩ : ∃ z2, y2 + 1 = z2 := ⟨_, rfl⟩
  rw [hz2]
  have hwA : wfH ((y2, some (e.ws.map iRow)) :: dtH n2 r xs H6) z2 := wfH_cons (by omega) (ltrI _ _) (dtH_wf (by omega) (wfH_le fw (by omega)))
  repeat (first | refine wE_upd (o_st_agg rfl hg_here rfl rfl rfl rfl rfl) rfl ?_ | refine wE_nilF (fun H => F0 (dtR a b c r xs) (dRow nn e) z1 H ∧ hg H g = some [[.nilS, .nilS, .nilS]] ∧ hg H z2 = some [[.nilS, .nilS, .nilS]]) ?_ ⟨fa.mv (· < n2) (fun i o hi ho => hg_skip (by omega) (hg_skip (by omega) (hg_skip (by omega) (dtH_out (by omega) ho)))) (by omega) (by omega) (by omega), hg_skip (by omega) (hg_skip (by omega) (hg_skip (by omega) (dtH_out (by omega) fg))), hg_here⟩ ?_ | (first
    | refine wE_nil (by kernel_rfl) ?_
    | refine wE_gy rfl ?_
    | refine wE_gn rfl rfl rfl ?_
    | refine wE_gu rfl rfl ?_
    | refine wE_gnn rfl rfl rfl ?_
    | refine wE_v (o_len_vwm rfl) rfl ?_
    | refine wE_v (o_not_d rfl) rfl ?_
    | refine wE_p rfl (by first | exact rfl | omega) rfl ?_
    | refine wE_v (o_str2 rfl rfl rfl) rfl ?_
    | refine wE_v (e_istr rfl rfl (by omega)) rfl ?_
    | refine wE_v (e_istr0 rfl rfl (by omega)) rfl ?_
    | refine wE_v (o_not rfl) rfl ?_
    | refine wE_v (e_ia_vw0 rfl rfl (by omega) rfl) rfl ?_
    | refine wE_v (e_ia_vwp rfl rfl (by omega) rfl) rfl ?_
    | refine wE_v (e_ia_vwm rfl rfl (by omega) (by omega) rfl) rfl ?_
    | refine wE_v (e_ia_vwi rfl rfl (by omega) rfl) rfl ?_
    | refine wE_v (e_ia_vwn rfl rfl (by omega) (by omega) rfl) rfl ?_
    | refine wE_n rfl rfl rfl ?_
    | refine wE_u rfl rfl rfl ?_
    | refine wE_new (o_mks rfl rfl (by omega) (by decide)) rfl ?_))
  · refine hok12 ?_ ?_ ?_ ?_ ?_ ?_ ?_ ?_ ?_ ?_ ?_ ?_
    · exact djB_mkh (by omega)
    · exact djBm (by rw [List.length_map]; exact Nat.le_refl _) (by omega)
    · exact djB1' (by omega)
    · rfl
    · exact djB1' (by omega)
    · rfl
    · exact djB1' (by omega)
    · rfl
    · exact djBz fun x hx => rds_lt hwA (by show ltrL _ [dtV n2 r xs, .int .i64 _, .agg [.int .i64 e.f, .sl y2 1 0 e.ws.length]] = true; simp [dtV, AV.ltr, ltrL]; omega) x hx
    · rfl
    · rfl
    · rfl
  clear fa fg fw
  rintro H8 ⟨fa, fg, fz⟩
  repeat (first | refine wG_pure (o_ldt_pt rfl fz rfl rfl rfl) ?_ | refine wG_pure (o_ldt_pt rfl fa.fz rfl rfl rfl) ?_ | refine wG_call c5 rfl rfl ?_ | refine wG_pure (o_ldt_pt rfl fg rfl rfl rfl) ?_ | refine wG_call c6 rfl rfl ?_ | (first
    | refine wC_a rfl ?_
    | refine q_s rfl ?_
    | refine q_b rfl ?_
    | refine wG_nil ?_
    | refine wG_g rfl ?_
    | refine wG_pure (o_len_vwm rfl) ?_
    | refine wG_pure (o_not_d rfl) ?_
    | refine wG_p rfl (by first | exact rfl | omega) ?_
    | refine wG_pure (o_str2 rfl rfl rfl) ?_
    | refine wG_pure (e_istr rfl rfl (by omega)) ?_
    | refine wG_pure (e_istr0 rfl rfl (by omega)) ?_
    | refine wG_pure (o_not rfl) ?_
    | refine wG_pure (e_ia_vw0 rfl rfl (by omega) rfl) ?_
    | refine wG_pure (e_ia_vwp rfl rfl (by omega) rfl) ?_
    | refine wG_pure (e_ia_vwm rfl rfl (by omega) (by omega) rfl) ?_
    | refine wG_pure (e_ia_vwi rfl rfl (by omega) rfl) ?_
    | refine wG_pure (e_ia_vwn rfl rfl (by omega) (by omega) rfl) ?_
    | refine wG_n rfl rfl ?_
    | refine wG_u rfl rfl ?_
    | refine wG_new (o_mks rfl rfl (by omega) (by decide)) ?_))
  exact ret_boolE (.inr rfl) ⟨_, retV_mv rfl, rfl⟩
theorem con3 (a b c nn : Bool) (r : Rc) (xs : List Dn) (x : Int) (e : Ds) (h1 : r.cs.length ≤ 9223372036854775807) (h2 : r.xs.length ≤ 9223372036854775807) (h3 : xs.length ≤ 9223372036854775807) (hL : LenN xs 9223372036854775807) (he : e.ws.length ≤ 9223372036854775807) : Con Try.prog 3 true [.agg (dtR a b c r xs), .int .i64 x, .agg (dRow nn e)] (.bool true) [] := by
  classical
  have c1 := con12 a b c r xs h1 h2 h3 hL 1048576 (by decide) (by decide)
  have small : ∀ l : Int, l < 0 → Con Try.prog 12 true [.agg (dtR a b c r xs), .int .i64 1048576] (.int .i64 l) [] → Con Try.prog 3 true [.agg (dtR a b c r xs), .int .i64 x, .agg (dRow nn e)] (.bool true) [] := by
    intro l hl c1
    refine con_of_wp mixed fun3 (by simp) [] plain_nil ?_
    unfold ac3 ro3
    simp only [zipT]
    have d1 : decide (l < 0) = true := decide_eq_true hl
    repeat (first | refine wG_call c1 rfl rfl ?_ | (first
    | refine wC_a rfl ?_
    | refine q_s rfl ?_
    | refine q_b rfl ?_
    | refine wG_nil ?_
    | refine wG_g rfl ?_
    | refine wG_pure (o_len_vwm rfl) ?_
    | refine wG_pure (o_not_d rfl) ?_
    | refine wG_p rfl (by first | exact rfl | omega) ?_
    | refine wG_pure (o_str2 rfl rfl rfl) ?_
    | refine wG_pure (e_istr rfl rfl (by omega)) ?_
    | refine wG_pure (e_istr0 rfl rfl (by omega)) ?_
    | refine wG_pure (o_not rfl) ?_
    | refine wG_pure (e_ia_vw0 rfl rfl (by omega) rfl) ?_
    | refine wG_pure (e_ia_vwp rfl rfl (by omega) rfl) ?_
    | refine wG_pure (e_ia_vwm rfl rfl (by omega) (by omega) rfl) ?_
    | refine wG_pure (e_ia_vwi rfl rfl (by omega) rfl) ?_
    | refine wG_pure (e_ia_vwn rfl rfl (by omega) (by omega) rfl) ?_
    | refine wG_n rfl rfl ?_
    | refine wG_u rfl rfl ?_
    | refine wG_new (o_mks rfl rfl (by omega) (by decide)) ?_))
    simp only [d1]
    repeat (first
    | refine wC_a rfl ?_
    | refine q_s rfl ?_
    | refine q_b rfl ?_
    | refine wG_nil ?_
    | refine wG_g rfl ?_
    | refine wG_pure (o_len_vwm rfl) ?_
    | refine wG_pure (o_not_d rfl) ?_
    | refine wG_p rfl (by first | exact rfl | omega) ?_
    | refine wG_pure (o_str2 rfl rfl rfl) ?_
    | refine wG_pure (e_istr rfl rfl (by omega)) ?_
    | refine wG_pure (e_istr0 rfl rfl (by omega)) ?_
    | refine wG_pure (o_not rfl) ?_
    | refine wG_pure (e_ia_vw0 rfl rfl (by omega) rfl) ?_
    | refine wG_pure (e_ia_vwp rfl rfl (by omega) rfl) ?_
    | refine wG_pure (e_ia_vwm rfl rfl (by omega) (by omega) rfl) ?_
    | refine wG_pure (e_ia_vwi rfl rfl (by omega) rfl) ?_
    | refine wG_pure (e_ia_vwn rfl rfl (by omega) (by omega) rfl) ?_
    | refine wG_n rfl rfl ?_
    | refine wG_u rfl rfl ?_
    | refine wG_new (o_mks rfl rfl (by omega) (by decide)) ?_)
    exact ret_boolE (.inr rfl) ⟨_, retV_mv rfl, rfl⟩
  by_cases hR : szR 1048576 r < 0
  · rw [if_pos hR] at c1
    exact small _ (by decide) c1
  rw [if_neg hR] at c1
  obtain ⟨s1, s2, s3⟩ := szR_ok (Int.not_lt.1 hR)
  by_cases hD2 : szD (szR 1048576 r) xs < 0
  · rw [if_pos hD2] at c1
    exact small _ (by decide) c1
  rw [if_neg hD2] at c1
  obtain ⟨s4, s5, s6⟩ := szD_ok (Int.not_lt.1 hD2)
  have hss := szD_sum (Int.not_lt.1 hD2)
  have c2 := con13 nn e he (szD (szR 1048576 r) xs) (Int.not_lt.1 hD2) (by omega)
  by_cases hE : (e.ws.length : Int) ≤ szD (szR 1048576 r) xs
  case neg =>
    rw [if_neg hE] at c2
    refine con_of_wp mixed fun3 (by simp) [] plain_nil ?_
    unfold ac3 ro3
    simp only [zipT]
    have d1 : decide (szD (szR 1048576 r) xs < 0) = false := decide_eq_false hD2
    repeat (first | refine wG_call c1 rfl rfl ?_ | (first
    | refine wC_a rfl ?_
    | refine q_s rfl ?_
    | refine q_b rfl ?_
    | refine wG_nil ?_
    | refine wG_g rfl ?_
    | refine wG_pure (o_len_vwm rfl) ?_
    | refine wG_pure (o_not_d rfl) ?_
    | refine wG_p rfl (by first | exact rfl | omega) ?_
    | refine wG_pure (o_str2 rfl rfl rfl) ?_
    | refine wG_pure (e_istr rfl rfl (by omega)) ?_
    | refine wG_pure (e_istr0 rfl rfl (by omega)) ?_
    | refine wG_pure (o_not rfl) ?_
    | refine wG_pure (e_ia_vw0 rfl rfl (by omega) rfl) ?_
    | refine wG_pure (e_ia_vwp rfl rfl (by omega) rfl) ?_
    | refine wG_pure (e_ia_vwm rfl rfl (by omega) (by omega) rfl) ?_
    | refine wG_pure (e_ia_vwi rfl rfl (by omega) rfl) ?_
    | refine wG_pure (e_ia_vwn rfl rfl (by omega) (by omega) rfl) ?_
    | refine wG_n rfl rfl ?_
    | refine wG_u rfl rfl ?_
    | refine wG_new (o_mks rfl rfl (by omega) (by decide)) ?_))
    simp only [d1]
    repeat (first | refine wG_call c2 rfl rfl ?_ | (first
    | refine wC_a rfl ?_
    | refine q_s rfl ?_
    | refine q_b rfl ?_
    | refine wG_nil ?_
    | refine wG_g rfl ?_
    | refine wG_pure (o_len_vwm rfl) ?_
    | refine wG_pure (o_not_d rfl) ?_
    | refine wG_p rfl (by first | exact rfl | omega) ?_
    | refine wG_pure (o_str2 rfl rfl rfl) ?_
    | refine wG_pure (e_istr rfl rfl (by omega)) ?_
    | refine wG_pure (e_istr0 rfl rfl (by omega)) ?_
    | refine wG_pure (o_not rfl) ?_
    | refine wG_pure (e_ia_vw0 rfl rfl (by omega) rfl) ?_
    | refine wG_pure (e_ia_vwp rfl rfl (by omega) rfl) ?_
    | refine wG_pure (e_ia_vwm rfl rfl (by omega) (by omega) rfl) ?_
    | refine wG_pure (e_ia_vwi rfl rfl (by omega) rfl) ?_
    | refine wG_pure (e_ia_vwn rfl rfl (by omega) (by omega) rfl) ?_
    | refine wG_n rfl rfl ?_
    | refine wG_u rfl rfl ?_
    | refine wG_new (o_mks rfl rfl (by omega) (by decide)) ?_))
    exact ret_boolE (.inr rfl) ⟨_, retV_mv rfl, rfl⟩
  rw [if_pos hE] at c2
  have hL' : LenN xs 1048576 := fun i hi => by have := s5 i hi; omega
  rcases diA r (tD xs) x e (by omega) (by omega) (by rw [tD_len]; omega) hL'.t (by omega) (fun i hi => by
    rw [tD_len] at hi
    simp [tD, List.getD_eq_getElem?_getD, List.getElem?_map, List.getElem?_eq_getElem hi]) with ⟨Y, y1, y2, y3, y4, cS, cI⟩ | ⟨cS, cI⟩
  · exact lawA_yes a b c nn r xs x e Y (by omega) (by omega) (by omega) hL' (by omega) y1 y4 (by omega) cS cI _ _ (Int.not_lt.1 hD2) (by omega) c1 c2
  · exact lawA_no a b c nn r xs x e (by omega) (by omega) (by omega) hL' (by omega) (by omega) cS cI _ _ (Int.not_lt.1 hD2) (by omega) c1 c2
end Go.Proofs.Ytkeobnaehgcloaa.Dst
