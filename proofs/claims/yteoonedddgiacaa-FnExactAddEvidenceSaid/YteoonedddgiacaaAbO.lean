/- Regions whose order is drawn: one walk in the order of the text serves every order. -/
import Derived.Test.YteoonedddgiacaaAbN
namespace Go.Proofs.Yteoonedddgiacaa.Ab
open Go Go.RowKit
set_option linter.unusedSimpArgs false
set_option linter.unusedVariables false

structure Eff where
  d : Option Nat
  v : AV
  u : List (Nat × Option Rows)
  nr : Nat
  k : Nat
  rd : List Nat

def EffOK (P : Program) (o : AO) (T : Nat → AV) (H : Nat → Option Rows) (e : Eff) : Prop :=
  match o.g with
  | none => Res P o.op T H e.nr e.v e.u e.k
  | some (t, b) => ∃ c, wnt b (T t) = some c ∧ (c = true → Res P o.op T H e.nr e.v e.u e.k) ∧ (c ≠ true → e.v = .tup [] ∧ e.u = [] ∧ e.k = 0)

theorem eff_congr {P : Program} {o : AO} {T T' : Nat → AV} {H H' : Nat → Option Rows} {e : Eff} (hT : ∀ t ∈ looks o, T' t = T t) (hH : ∀ r ∈ rds o.op (gT T) H, H' r = H r) (h : EffOK P o T H e) : EffOK P o T' H' e := by
  have h1 : ∀ t ∈ (opAX o.op).flatMap axT, T' t = T t := fun t ht => hT t (List.mem_append.2 (.inl ht))
  unfold EffOK at h ⊢
  split at h
  · exact res_congr h1 hH h
  · rename_i t b hg
    obtain ⟨c, e1, e2, e3⟩ := h
    exact ⟨c, by rw [← e1, hT t (by simp [looks, hg])], fun hc => res_congr h1 hH (e2 hc), e3⟩

/-! ### What stands behind the walk of a drawn region -/
def tks (es : List Eff) : List (List (Nat × AV)) := es.map fun e => tk e.d e.v
def uss (es : List Eff) : List (List (Nat × Option Rows)) := es.map (·.u)

structure Plan (P : Program) (os : List AO) (T0 : Nat → AV) (H0 : Nat → Option Rows) (nr0 : Nat) (es : List Eff) : Prop where
  len : es.length = os.length
  ok : ∀ (i : Nat) (o : AO) (e : Eff), os[i]? = some o → es[i]? = some e → e.d = o.d ∧ EffOK P o (FF ((tks es).take i) T0) (FF ((uss es).take i) H0) e ∧ e.rd = rds o.op (gT (FF ((tks es).take i) T0)) (FF ((uss es).take i) H0)
  nrs : ∀ (i j : Nat) (ei ej : Eff), i < j → es[i]? = some ei → es[j]? = some ej → ei.nr + ei.k ≤ ej.nr
  lo : ∀ (i : Nat) (e : Eff), es[i]? = some e → nr0 ≤ e.nr

/-- Two operations, the first ahead of the second in the text, that do not wait one for the other. -/
structure Ind (o o' : AO) (e e' : Eff) : Prop where
  dd : Dj o.d.toList o'.d.toList
  dl : Dj o.d.toList (looks o')
  ld : Dj o'.d.toList (looks o)
  uu : Dj (e.u.map (·.1)) (e'.u.map (·.1))
  ur : Dj (e.u.map (·.1)) e'.rd
  ru : Dj (e'.u.map (·.1)) e.rd

def NN (es : List Eff) (nr0 : Nat) (b : Nat → Bool) : Nat → Prop := fun r => nr0 ≤ r ∧ ∀ (j : Nat) (e : Eff), es[j]? = some e → b j = true → ¬ (e.nr ≤ r ∧ r < e.nr + e.k)

theorem keys_tk (d : Option Nat) (v : AV) : (tk d v).map (·.1) = d.toList := by cases d <;> rfl

section
variable {P : Program} {B : Nat} {c0 : Cx} {n : Nat}

theorem any_sound {ops : Array Oper} {os : List AO} (hos : compOpers P n ops ops.toList = some os) {T0 : Nat → AV} {H0 : Nat → Option Rows} {nr0 : Nat} {es : List Eff} (hp : Plan P os T0 H0 nr0 es) {A : Nat → List Nat}
    (hw : ∀ (j : Nat) (o : Oper), ops[j]? = some o → ∀ i ∈ waits o, i < j) (hA : ∀ (j : Nat) (o : Oper), ops[j]? = some o → ∀ i ∈ A j, i ∈ waits o ∨ ∃ k ∈ waits o, i ∈ A k)
    (hind : ∀ (i j : Nat) o o' e e', i < j → i ∉ A j → os[i]? = some o → os[j]? = some o' → es[i]? = some e → es[j]? = some e' → Ind o o' e e')
    {Q : Exit → Act → World → Prop} (hQ : ∀ a w, RT B c0 n (FF (tks es) T0) (FF (uss es) H0) (NN es nr0 fun _ => true) a w → Q .normal a w) :
    ∀ (fuel : Nat) (listed : Array Bool) (a : Act) (w : World), listed.size = ops.size → (∀ (j : Nat) (o : Oper), ops[j]? = some o → listed.getD j false = true → ∀ i ∈ waits o, listed.getD i false = true) →
      RT B c0 n (GF (fun i => listed.getD i false) 0 (tks es) T0) (GF (fun i => listed.getD i false) 0 (uss es) H0) (NN es nr0 fun i => listed.getD i false) a w →
      (List.range ops.size).countP (fun i => !listed.getD i false) ≤ fuel → wpAny P .any ops Q fuel listed a w := by
  obtain ⟨hlen, hget⟩ := compOpers_get ops.toList os hos
  have hol : os.length = ops.size := by rw [hlen]; simp
  have hel : es.length = ops.size := by rw [hp.len, hol]
  -- all listed
  have fin : ∀ (listed : Array Bool) (a : Act) (w : World), (∀ i, i < ops.size → listed.getD i false = true) → RT B c0 n (GF (fun i => listed.getD i false) 0 (tks es) T0) (GF (fun i => listed.getD i false) 0 (uss es) H0) (NN es nr0 fun i => listed.getD i false) a w → Q .normal a w := by
    intro listed a w hall h
    refine hQ a w ?_
    have key : ∀ {α : Type} (ls : List (List (Nat × α))) (F : Nat → α), ls.length = ops.size → GF (fun i => listed.getD i false) 0 ls F = FF ls F := by
      intro α ls F hl
      have := GF_take ls 0 ls.length F
      rw [List.take_length] at this
      rw [← this]
      funext t
      refine GF_congr_at ls 0 F F rfl (fun j l hj => .inl ?_)
      have hjl := (List.getElem?_eq_some_iff.1 hj).1
      rw [hall _ (by omega)]
      simp; omega
    rw [key (tks es) T0 (by simp [tks, hel]), key (uss es) H0 (by simp [uss, hel])] at h
    refine h.weak (fun r hr => ⟨hr.1, fun j e hj _ => hr.2 j e hj rfl⟩)
  have notReady : ∀ (listed : Array Bool), listed.size = ops.size → Region.ready .any ops listed = [] → ∀ i, i < ops.size → listed.getD i false = true := by
    intro listed hls hr
    intro i
    induction i using Nat.strongRecOn with
    | _ i ih =>
      intro hi
      cases hb : listed.getD i false with
      | true => rfl
      | false =>
        exfalso
        have : i ∈ Region.ready .any ops listed := by
          rw [mem_ready]
          refine ⟨?_, ops[i], by simp [hi], fun e he hbd => ?_⟩
          · have : i < listed.size := by omega
            rw [Array.getD_eq_getD_getElem?] at hb ⊢
            simp only [Array.getElem?_eq_getElem this, Option.getD_some] at hb ⊢
            exact hb
          · have hmem : e.on ∈ waits ops[i] := by
              unfold waits
              exact List.mem_map.2 ⟨e, List.mem_filter.2 ⟨by simpa using he, hbd⟩, rfl⟩
            have hlt := hw i ops[i] (by simp [hi]) e.on hmem
            exact ih e.on hlt (by omega)
        rw [hr] at this
        cases this
  intro fuel
  induction fuel with
  | zero =>
    intro listed a w hls hcl h hcnt
    have hall : ∀ i, i < ops.size → listed.getD i false = true := by
      intro i hi
      have h0 := List.countP_eq_zero.1 (Nat.le_zero.1 hcnt) i (List.mem_range.2 hi)
      simpa using h0
    refine ⟨?_, fin listed a w hall h⟩
    rw [List.eq_nil_iff_forall_not_mem]
    intro i hi
    obtain ⟨h1, o, ho, _⟩ := mem_ready.1 hi
    have hio := (Array.getElem?_eq_some_iff.1 ho).1
    have h2 := hall i hio
    have : i < listed.size := by omega
    rw [Array.getD_eq_getD_getElem?, Array.getElem?_eq_getElem this] at h1 h2
    simp at h1 h2
    rw [h1] at h2; cases h2
  | succ fuel ih =>
    intro listed a w hls hcl h hcnt
    refine ⟨fun hr => fin listed a w (notReady listed hls hr) h, fun i hi => ?_⟩
    obtain ⟨h1, o, ho, hready⟩ := mem_ready.1 hi
    have hio := (Array.getElem?_eq_some_iff.1 ho).1
    have hil : i < listed.size := by omega
    have hb : listed.getD i false = false := by
      rw [Array.getD_eq_getD_getElem?, Array.getElem?_eq_getElem hil] at h1 ⊢
      simpa using h1
    obtain ⟨ao, hao, hcomp⟩ := hget i o (by simpa using ho)
    obtain ⟨e, he⟩ : ∃ e, es[i]? = some e := ⟨es[i]'(by omega), by simp [show i < es.length by omega]⟩
    obtain ⟨p1, p2, p3⟩ := hp.ok i ao e hao he
    obtain ⟨e1, e2, e3, e4⟩ := compOper_inv hcomp
    -- ancestors of what is listed are listed
    have anc : ∀ (j : Nat), j < ops.size → listed.getD j false = true → ∀ q ∈ A j, listed.getD q false = true := by
      intro j
      induction j using Nat.strongRecOn with
      | _ j ihj =>
        intro hj hlj q hq
        rcases hA j ops[j] (by simp [hj]) q hq with h' | ⟨k, hk, hqk⟩
        · exact hcl j ops[j] (by simp [hj]) hlj q h'
        · have hkj := hw j ops[j] (by simp [hj]) k hk
          exact ihj k hkj (by omega) (hcl j ops[j] (by simp [hj]) hlj k hk) q hqk
    have ancI : ∀ q ∈ A i, listed.getD q false = true := by
      intro q hq
      have hwl : ∀ k ∈ waits o, listed.getD k false = true := by
        intro k hk
        unfold waits at hk
        obtain ⟨ed, hed, rfl⟩ := List.mem_map.1 hk
        obtain ⟨m1, m2⟩ := List.mem_filter.1 hed
        exact hready ed (by simpa using m1) m2
      rcases hA i o ho q hq with h' | ⟨k, hk, hqk⟩
      · exact hwl q h'
      · have hki := hw i o ho k hk
        exact anc k (by omega) (hwl k hk) q hqk
    -- what lies ahead and is not listed, what lies behind and is
    have ahead : ∀ j oj ej, j < i → listed.getD j false = false → os[j]? = some oj → es[j]? = some ej → Ind oj ao ej e := by
      intro j oj ej hji hlj hoj hej
      exact hind j i oj ao ej e hji (fun hm => by rw [ancI j hm] at hlj; cases hlj) hoj hao hej he
    have behind : ∀ j oj ej, i < j → listed.getD j false = true → os[j]? = some oj → es[j]? = some ej → Ind ao oj e ej := by
      intro j oj ej hij hlj hoj hej
      have hj : j < ops.size := by rw [← hol]; exact (List.getElem?_eq_some_iff.1 hoj).1
      exact hind i j ao oj e ej hij (fun hm => by rw [anc j hj hlj i hm] at hb; cases hb) hao hoj he hej
    have osget : ∀ (j : Nat) (ej : Eff), es[j]? = some ej → ∃ oj : AO, os[j]? = some oj ∧ ej.d = oj.d := by
      intro j ej hej
      have hj := (List.getElem?_eq_some_iff.1 hej).1
      obtain ⟨oj, hoj⟩ : ∃ oj, os[j]? = some oj := ⟨os[j]'(by omega), by simp [show j < os.length by omega]⟩
      exact ⟨oj, hoj, (hp.ok j oj ej hoj hej).1⟩
    have mask : ∀ j, j ≠ i → (listed.getD j false = (decide (j < 0 + i)) ∨ (j < i ∧ listed.getD j false = false) ∨ (i < j ∧ listed.getD j false = true)) := by
      intro j hj
      rcases Nat.lt_or_ge j i with hlt | hge
      · cases hl : listed.getD j false with
        | true => left; simp; omega
        | false => right; left; exact ⟨hlt, rfl⟩
      · cases hl : listed.getD j false with
        | true => right; right; exact ⟨by omega, rfl⟩
        | false => left; simp; omega
    have hTagree : ∀ t ∈ looks ao, GF (fun i => listed.getD i false) 0 (tks es) T0 t = FF ((tks es).take i) T0 t := by
      intro t ht
      rw [← GF_take (tks es) 0 i T0]
      refine GF_congr_at _ 0 T0 T0 rfl (fun j l hl => ?_)
      simp only [Nat.zero_add]
      by_cases hji : j = i
      · subst hji; left; rw [hb]; simp
      · simp only [tks, List.getElem?_map, Option.map_eq_some_iff] at hl
        obtain ⟨ej, hej, rfl⟩ := hl
        obtain ⟨oj, hoj, hdj⟩ := osget j ej hej
        rw [keys_tk, hdj]
        rcases mask j hji with h' | ⟨h', hl'⟩ | ⟨h', hl'⟩
        · left; simpa using h'
        · right; intro hm; exact (ahead j oj ej h' hl' hoj hej).dl t hm ht
        · right; intro hm; exact (behind j oj ej h' hl' hoj hej).ld t hm ht
    have hHagree : ∀ r ∈ e.rd, GF (fun i => listed.getD i false) 0 (uss es) H0 r = FF ((uss es).take i) H0 r := by
      intro r hr
      rw [← GF_take (uss es) 0 i H0]
      refine GF_congr_at _ 0 H0 H0 rfl (fun j l hl => ?_)
      simp only [Nat.zero_add]
      by_cases hji : j = i
      · subst hji; left; rw [hb]; simp
      · simp only [uss, List.getElem?_map, Option.map_eq_some_iff] at hl
        obtain ⟨ej, hej, rfl⟩ := hl
        obtain ⟨oj, hoj, hdj⟩ := osget j ej hej
        rcases mask j hji with h' | ⟨h', hl'⟩ | ⟨h', hl'⟩
        · left; simpa using h'
        · right; intro hm; exact (ahead j oj ej h' hl' hoj hej).ur r hm hr
        · right; intro hm; exact (behind j oj ej h' hl' hoj hej).ru r hm hr
    have hok := eff_congr hTagree (by rw [← p3]; exact hHagree) p2
    -- the state behind it
    have hbset : (fun q => (listed.setIfInBounds i true).getD q false) = setB (fun q => listed.getD q false) i := by
      funext q
      simp only [setB]
      by_cases hq : q = i
      · subst hq; simp [Array.getD_eq_getD_getElem?, Array.getElem?_setIfInBounds, hil]
      · rw [if_neg hq, getD_set_ne false (fun e => hq e.symm)]
    have hT' : GF (fun q => (listed.setIfInBounds i true).getD q false) 0 (tks es) T0 = putF (GF (fun q => listed.getD q false) 0 (tks es) T0) e.d e.v := by
      rw [hbset, putF_ups]
      have := GF_set (b := fun q => listed.getD q false) (m := tk e.d e.v) (tks es) 0 i T0 (by simp [tks, he]) (by simpa using hb) (fun j l hij hl hlj => by
        simp only [Nat.zero_add] at hlj
        simp only [tks, List.getElem?_map, Option.map_eq_some_iff] at hl
        obtain ⟨ej, hej, rfl⟩ := hl
        obtain ⟨oj, hoj, hdj⟩ := osget j ej hej
        rw [keys_tk, keys_tk, p1, hdj]
        exact (behind j oj ej hij hlj hoj hej).dd)
      simpa using this
    have hH' : GF (fun q => (listed.setIfInBounds i true).getD q false) 0 (uss es) H0 = upd (GF (fun q => listed.getD q false) 0 (uss es) H0) e.u := by
      rw [hbset, upd_ups]
      have := GF_set (b := fun q => listed.getD q false) (m := e.u) (uss es) 0 i H0 (by simp [uss, he]) (by simpa using hb) (fun j l hij hl hlj => by
        simp only [Nat.zero_add] at hlj
        simp only [uss, List.getElem?_map, Option.map_eq_some_iff] at hl
        obtain ⟨ej, hej, rfl⟩ := hl
        obtain ⟨oj, hoj, hdj⟩ := osget j ej hej
        exact (behind j oj ej hij hlj hoj hej).uu)
      simpa using this
    have hN' : ∀ r, NN es nr0 (fun q => (listed.setIfInBounds i true).getD q false) r → less (NN es nr0 fun q => listed.getD q false) e.nr e.k r := by
      rw [hbset]
      intro r hr
      refine ⟨⟨hr.1, fun j ej hej hbj => hr.2 j ej hej ?_⟩, ?_⟩
      · simp only [setB]; split; rfl; exact hbj
      · exact hr.2 i e he (by simp [setB])
    have hNin : ∀ r, e.nr ≤ r → r < e.nr + e.k → NN es nr0 (fun q => listed.getD q false) r := by
      intro r h1 h2
      refine ⟨Nat.le_trans (hp.lo i e he) h1, fun j ej hej hbj hh => ?_⟩
      rcases Nat.lt_trichotomy i j with hij | hij | hij
      · have := hp.nrs i j e ej hij he hej; omega
      · subst hij; have hbj2 : listed.getD i false = true := hbj; rw [hb] at hbj2; cases hbj2
      · have := hp.nrs j i ej e hij hej he; omega
    have hcnt' : (List.range ops.size).countP (fun q => !(listed.setIfInBounds i true).getD q false) ≤ fuel := by
      have hlt : (List.range ops.size).countP (fun q => !(listed.setIfInBounds i true).getD q false) < (List.range ops.size).countP (fun q => !listed.getD q false) := by
        have hb' : ∀ q, (listed.setIfInBounds i true).getD q false = setB (fun q => listed.getD q false) i q := fun q => congrFun hbset q
        simp only [hb']
        have key : ∀ (l : List Nat), l.countP (fun q => !setB (fun q => listed.getD q false) i q) ≤ l.countP (fun q => !listed.getD q false) ∧ (i ∈ l → l.countP (fun q => !setB (fun q => listed.getD q false) i q) < l.countP (fun q => !listed.getD q false)) := by
          intro l
          induction l with
          | nil => simp
          | cons x xs ihx =>
            simp only [List.countP_cons]
            by_cases hx : x = i
            · subst hx
              have h0 : setB (fun q => listed.getD q false) x x = true := by simp [setB]
              simp only [h0, hb, Bool.not_true, Bool.not_false, if_true, Bool.false_eq_true, if_false]
              exact ⟨by omega, fun _ => by omega⟩
            · have h0 : setB (fun q => listed.getD q false) i x = listed.getD x false := by simp [setB, hx]
              simp only [h0]
              refine ⟨by omega, fun hm => ?_⟩
              have := ihx.2 ((List.mem_cons.1 hm).resolve_left (fun e => hx e.symm))
              omega
        exact (key _).2 (List.mem_range.2 hio)
      omega
    have hcl' : ∀ (j : Nat) (o : Oper), ops[j]? = some o → (listed.setIfInBounds i true).getD j false = true → ∀ q ∈ waits o, (listed.setIfInBounds i true).getD q false = true := by
      intro j oj hoj hlj q hq
      by_cases hji : j = i
      · subst hji
        rw [ho] at hoj; cases hoj
        unfold waits at hq
        obtain ⟨ed, hed, rfl⟩ := List.mem_map.1 hq
        obtain ⟨m1, m2⟩ := List.mem_filter.1 hed
        exact getD_set_true (hready ed (by simpa using m1) m2)
      · rw [getD_set_ne false (fun e => hji e.symm)] at hlj
        exact getD_set_true (hcl j oj hoj hlj q hq)
    have next : ∀ a' w', RT B c0 n (putF (GF (fun i => listed.getD i false) 0 (tks es) T0) o.dst e.v) (upd (GF (fun i => listed.getD i false) 0 (uss es) H0) e.u) (less (NN es nr0 fun i => listed.getD i false) e.nr e.k) a' w' → wpAny P .any ops Q fuel (listed.setIfInBounds i true) a' w' := by
      intro a' w' hRT
      refine ih _ a' w' (by simpa using hls) hcl' ?_ hcnt'
      rw [hT', hH', p1, e1]
      exact hRT.weak hN'
    unfold wpOp
    simp only [ho]
    have hwant := wanted_of h e2
    unfold EffOK at hok
    cases hg : ao.g with
    | none =>
      rw [hg] at hok hwant
      rw [show Region.wanted o (yielded ops a.tmps) = true from hwant]
      simp only [if_true]
      exact .inl (op_wp h e3 e4 hok hNin next)
    | some tb =>
      obtain ⟨t, b⟩ := tb
      rw [hg] at hok hwant
      obtain ⟨c, hc, hy, hn⟩ := hok
      rw [show Region.wanted o (yielded ops a.tmps) = c from hwant c hc]
      by_cases hcb : c = true
      · subst hcb
        simp only [if_true]
        exact .inl (op_wp h e3 e4 (hy rfl) hNin next)
      · have : c = false := by simpa using hcb
        simp only [this, Bool.false_eq_true, if_false]
        obtain ⟨h1, h2, h3⟩ := hn hcb
        refine next _ _ ?_
        rw [h1, h2, h3]
        exact (h.skip e4).weak (fun r hr => hr.1)
end
end Go.Proofs.Yteoonedddgiacaa.Ab
