/- Strings: their bytes, their order, and the steps that read and compare them. -/
import Derived.Test.YteoonedddgiacaaAb1
namespace Go.Proofs.Yteoonedddgiacaa.Ab
open Go Go.RowKit
set_option linter.unusedSimpArgs false
set_option linter.unusedVariables false

/-- The byte at a place. -/
def bt (s : ByteArray) (i : Nat) : Int := ((s[i]?).getD 0).toNat
theorem bt_nn (s : ByteArray) (i : Nat) : 0 ≤ bt s i := Int.natCast_nonneg _
/-- One string stands ahead of another. -/
def sL (a b : ByteArray) : Prop := Op.bytesLess a.toList b.toList = true
instance (a b : ByteArray) : Decidable (sL a b) := inferInstanceAs (Decidable (_ = true))
theorem bl_tri : ∀ (x y : List UInt8), (Op.bytesLess x y = true ∧ ¬ Op.bytesLess y x = true ∧ x ≠ y) ∨ (¬ Op.bytesLess x y = true ∧ Op.bytesLess y x = true ∧ x ≠ y) ∨ (¬ Op.bytesLess x y = true ∧ ¬ Op.bytesLess y x = true ∧ x = y)
  | [], [] => by simp [Op.bytesLess]
  | [], _ :: _ => by simp [Op.bytesLess]
  | _ :: _, [] => by simp [Op.bytesLess]
  | a :: x, b :: y => by
    have ih := bl_tri x y
    simp only [Op.bytesLess, Bool.or_eq_true, Bool.and_eq_true, decide_eq_true_eq, beq_iff_eq, UInt8.lt_iff_toNat_lt, ← UInt8.toNat_inj, ne_eq, List.cons.injEq, not_or, not_and] at ih ⊢
    rcases Nat.lt_trichotomy a.toNat b.toNat with h | h | h
    · left; exact ⟨.inl h, ⟨by omega, fun q => by omega⟩, fun q => by omega⟩
    · have e1 : ¬ a.toNat < b.toNat := by omega
      have e2 : ¬ b.toNat < a.toNat := by omega
      rcases ih with ⟨i1, i2, i3⟩ | ⟨i1, i2, i3⟩ | ⟨i1, i2, i3⟩
      · left; exact ⟨.inr ⟨h, i1⟩, ⟨e2, fun _ => i2⟩, fun _ => i3⟩
      · right; left; exact ⟨⟨e1, fun _ => i1⟩, .inr ⟨h.symm, i2⟩, fun _ => i3⟩
      · right; right; exact ⟨⟨e1, fun _ => i1⟩, ⟨e2, fun _ => i2⟩, h, i3⟩
    · right; left; exact ⟨⟨by omega, fun q => by omega⟩, .inl h, fun q => by omega⟩
theorem ba_eq {a b : ByteArray} : a.toList = b.toList ↔ a = b := by
  rw [ByteArray.toList_eq, ByteArray.toList_eq]
  refine ⟨fun h => ?_, fun h => by rw [h]⟩
  cases a; cases b
  simp only at h
  congr 1
  exact Array.toList_inj.1 h
theorem sL_tri (a b : ByteArray) : (sL a b ∧ ¬ sL b a ∧ a ≠ b) ∨ (¬ sL a b ∧ sL b a ∧ a ≠ b) ∨ (¬ sL a b ∧ ¬ sL b a ∧ a = b) := by
  have := bl_tri a.toList b.toList
  simp only [ne_eq, ba_eq] at this
  exact this
/-- What a comparison of strings gives. -/
def sv (op : BinOp) (a b : ByteArray) : Option AV := match op with
  | .eql => some (.bool (decide (a = b)))
  | .neq => some (.bool (decide (a ≠ b)))
  | .lss => some (.bool (decide (sL a b)))
  | .leq => some (.bool (decide (¬ sL b a)))
  | .gtr => some (.bool (decide (sL b a)))
  | .geq => some (.bool (decide (¬ sL a b)))
  | _ => none
section
variable {T : Nat → AV} {H : Nat → Option Rows} {nr : Nat} {x y : AX}
theorem o_str2 {op : BinOp} {a b : ByteArray} {v : AV} (h1 : gT T x = .str a) (h2 : gT T y = .str b) (h3 : sv op a b = some v) : ev (gT T) H nr (.str2 op x y) = some (v, [], 0) := by
  simp only [ev, h1, h2]
  have tri := sL_tri a b
  have hb : (a.toList == b.toList) = decide (a = b) := by
    by_cases q : a = b
    · subst q; simp
    · rw [decide_eq_false q]; exact beq_false_of_ne (fun e => q (ba_eq.1 e))
  have hl : Op.bytesLess a.toList b.toList = decide (sL a b) := by
    by_cases q : sL a b
    · rw [decide_eq_true q]; exact q
    · rw [decide_eq_false q]; exact Bool.eq_false_iff.2 q
  cases op <;> simp only [sv, Option.some.injEq] at h3 <;> first | (subst h3) | (cases h3)
  all_goals simp only [strO, hb, hl, Option.bind_some, pureR, Option.some.injEq, Prod.mk.injEq, AV.bool.injEq, and_true]
  · by_cases q : a = b <;> simp [q]
  · rcases tri with ⟨t1, t2, t3⟩ | ⟨t1, t2, t3⟩ | ⟨t1, t2, t3⟩ <;> simp [t1, t2, t3] <;> simpa [t3] using t2
  · rcases tri with ⟨t1, t2, t3⟩ | ⟨t1, t2, t3⟩ | ⟨t1, t2, t3⟩ <;> simp [t1, t2, t3] <;> simpa [t3] using t2
  · simp
theorem e_istr {s : ByteArray} {k : IntKind} {n : Nat} (h1 : gT T x = .str s) (h2 : gT T y = .int k (n : Int)) (h3 : n < s.size) : ev (gT T) H nr (.istr x y) = some (.int .u8 (bt s n), [], 0) := by
  have e : s[n]? = some s[n] := ByteArray.getElem?_lt' s n h3
  simp only [ev, h1, h2, Int.natCast_nonneg, if_true, Int.toNat_natCast, e, pureR, bt, Option.getD_some]
theorem e_istr0 {s : ByteArray} {k : IntKind} (h1 : gT T x = .str s) (h2 : gT T y = .int k 0) (h3 : 0 < s.size) : ev (gT T) H nr (.istr x y) = some (.int .u8 (bt s 0), [], 0) := e_istr (n := 0) h1 h2 h3
end
/-- A call in a drawn region whose result holds no own objects. -/
theorem wE_c {P : Program} {t : List (Nat × AV)} {h : List (Nat × Option Rows)} {nr : Nat} {os : List AO} {K : St → Prop} {A : List (List Nat)} {acc : List (List Nat × List Nat)} {d f : Nat} {args : List AX} {as : List AV} {v : AV} {rd : List Nat} (hc : Con P f true as v []) (ha : (args.map (gT (lk t))).map (dr (hg h) 6) = as) (hv : sh nr v = v)
    (hr : spL (rds (.call f args) (gT (lk t)) (hg h)) = some rd) (hw : wpE P A os ⟨(d, v) :: t, h, nr⟩ (([], rd) :: acc) K) : wpE P A (⟨some d, none, .call f args⟩ :: os) ⟨t, h, nr⟩ acc K := wE_call hc ha hv (spL_eq hr) hw
theorem retVs_4 {s : St} {r1 r2 r3 r4 : AOp} {v1 v2 v3 v4 : AV} (h1 : retV s r1 = some v1) (h2 : retV s r2 = some v2) (h3 : retV s r3 = some v3) (h4 : retV s r4 = some v4) : retVs s [r1, r2, r3, r4] = some [v1, v2, v3, v4] := by simp only [retVs, h1, h2, h3, h4]
theorem ltrL_pl {n : Nat} : ∀ (l : List AV), (∀ v ∈ l, AV.plain v = true) → ltrL n l = true
  | [], _ => rfl
  | x :: xs, h => by
    have hx : AV.ltr n x = true := by have := h x List.mem_cons_self; cases x <;> first | rfl | simp [AV.plain] at this
    simp only [ltrL, hx, ltrL_pl xs (fun v hv => h v (List.mem_cons_of_mem _ hv)), Bool.and_self]
/-- Plain results, any number of them. -/
theorem ret_pl {ros : List AOp} {vs ws : List AV} {s : St} {e : EX} (he : e = .n ∨ e = .r) (hv : retVs s ros = some ws) (hw : ws = vs) (hp : (vs.all AV.plain) = true) (h1 : vs.length ≠ 1) : Ret ros [] (.tup vs) [] e s := by
  subst hw
  have hp' : ∀ v ∈ ws, AV.plain v = true := List.all_eq_true.1 hp
  refine ret_gen he hv ?_ ?_ ?_ rfl List.nodup_nil (fun i rows h => by simp at h)
  · show ws = rnL _ ws
    rw [rn_plain _ _ hp']
  · cases ws with
    | nil => trivial
    | cons a l => cases l with
      | nil => simp at h1
      | cons b l => trivial
  · show ltrL _ ws = true
    exact ltrL_pl ws hp'
end Go.Proofs.Yteoonedddgiacaa.Ab
