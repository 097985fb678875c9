/- Code on abstract states: the law of each form of code, and that the machine keeps it. -/
import Derived.Test.YteoonedddgiacaaAbO
namespace Go.Proofs.Yteoonedddgiacaa.Ab
open Go Go.RowKit
set_option linter.unusedSimpArgs false
set_option linter.unusedVariables false

/-! ### Drawn regions -/
def stepR (P : Program) (op : AOp) (s : St) (K : AV → List (Nat × Option Rows) → Nat → Prop) : Prop :=
  match op with
  | .call f args => ∃ nv v objs, ConG P f nv ((args.map s.get).map (dr (hg s.h) 6)) v objs ∧ (nv = true ∨ nrfL (args.map s.get) = true) ∧ K (sh s.nr v) (mkh s.nr (objs.map (shR s.nr))) objs.length
  | .callv x args => match s.get x with
    | .fn f caps => ∃ nv v objs, ConG P f nv ((args.map s.get ++ caps).map (dr (hg s.h) 6)) v objs ∧ (nv = true ∨ nrfL (args.map s.get ++ caps) = true) ∧ K (sh s.nr v) (mkh s.nr (objs.map (shR s.nr))) objs.length
    | _ => False
  | op => match ev s.get (hg s.h) s.nr op with
    | some (v, u, k) => K v u k
    | none => False

def wpDr (P : Program) : List AO → St → List (List Nat × List Nat) → (St → List (List Nat × List Nat) → Prop) → Prop
  | [], s, acc, K => K s acc.reverse
  | o :: os, s, acc, K =>
    match o.g with
    | none => stepR P o.op s (fun v u k => wpDr P os { t := (St.put s o.d v).t, h := u ++ s.h, nr := s.nr + k } ((u.map (·.1), rds o.op s.get (hg s.h)) :: acc) K)
    | some (t, b) => match wnt b (lk s.t t) with
      | some c => if c = true then stepR P o.op s (fun v u k => wpDr P os { t := (St.put s o.d v).t, h := u ++ s.h, nr := s.nr + k } ((u.map (·.1), rds o.op s.get (hg s.h)) :: acc) K)
        else wpDr P os (St.put s o.d (.tup [])) (([], rds o.op s.get (hg s.h)) :: acc) K
      | none => False

/-- What the operations write and read lies apart, where none waits for the other. -/
def hok (A : List (List Nat)) (ef : List (List Nat × List Nat)) : Prop :=
  ∀ (i j : Nat) x y, i < j → i ∉ A.getD j [] → ef[i]? = some x → ef[j]? = some y → Dj x.1 y.1 ∧ Dj x.1 y.2 ∧ Dj y.1 x.2

theorem hok_quiet (A : List (List Nat)) (ef : List (List Nat × List Nat)) (h : (ef.all fun x => x.1.isEmpty) = true) : hok A ef := by
  intro i j x y _ _ hx hy
  have h0 := List.all_eq_true.1 h
  have h1 := h0 x (List.mem_of_getElem? hx)
  have h2 := h0 y (List.mem_of_getElem? hy)
  rw [List.isEmpty_iff] at h1 h2
  rw [h1, h2]
  exact ⟨fun _ h => (List.not_mem_nil h).elim, fun _ h => (List.not_mem_nil h).elim, fun _ h => (List.not_mem_nil h).elim⟩

theorem djB_spec {l m : List Nat} (h : djB l m = true) : Dj l m := by
  intro x hx hm
  have := List.all_eq_true.1 h x hx
  simp at this
  exact this hm

def hokB (A : List (List Nat)) (ef : List (List Nat × List Nat)) : Bool :=
  (List.range ef.length).all fun j => (List.range j).all fun i => (A.getD j []).contains i || (match ef[i]?, ef[j]? with
    | some x, some y => djB x.1 y.1 && djB x.1 y.2 && djB y.1 x.2
    | _, _ => true)

theorem hok_of {A : List (List Nat)} {ef : List (List Nat × List Nat)} (h : hokB A ef = true) : hok A ef := by
  intro i j x y hij hA hx hy
  have hj := (List.getElem?_eq_some_iff.1 hy).1
  have h1 := List.all_eq_true.1 (List.all_eq_true.1 h j (List.mem_range.2 hj)) i (List.mem_range.2 hij)
  rw [hx, hy] at h1
  simp only [Bool.or_eq_true, Bool.and_eq_true] at h1
  rcases h1 with h1 | h1
  · exact absurd (by simpa using h1) hA
  · exact ⟨djB_spec h1.1.1, djB_spec h1.1.2, djB_spec h1.2⟩

def wpD (P : Program) (os : List AO) (A : List (List Nat)) (s : St) (Q : St → Prop) : Prop := wpDr P os s [] fun s' ef => hok A ef ∧ Q s'

/-- A drawn region all of whose operations leave the own objects alone. -/
def wpQ (P : Program) : List AO → St → (St → Prop) → Prop
  | [], s, K => K s
  | o :: os, s, K =>
    match o.g with
    | none => stepR P o.op s (fun v u k => u = [] ∧ k = 0 ∧ wpQ P os { t := (St.put s o.d v).t, h := s.h, nr := s.nr } K)
    | some (t, b) => match wnt b (lk s.t t) with
      | some c => if c = true then stepR P o.op s (fun v u k => u = [] ∧ k = 0 ∧ wpQ P os { t := (St.put s o.d v).t, h := s.h, nr := s.nr } K) else wpQ P os (St.put s o.d (.tup [])) K
      | none => False

theorem stepR_mono {P : Program} {op : AOp} {s : St} {K K' : AV → List (Nat × Option Rows) → Nat → Prop} (hk : ∀ v u k, K v u k → K' v u k) (h : stepR P op s K) : stepR P op s K' := by
  unfold stepR at h ⊢
  split at h
  · obtain ⟨nv, v, objs, h1, h2, h3⟩ := h
    exact ⟨nv, v, objs, h1, h2, hk _ _ _ h3⟩
  · split at h
    · obtain ⟨nv, v, objs, h1, h2, h3⟩ := h
      exact ⟨nv, v, objs, h1, h2, hk _ _ _ h3⟩
    · exact h
  · rename_i hn1 hn2
    split at h
    · exact hk _ _ _ h
    · exact h.elim

theorem wpQ_Dr {P : Program} {A : List (List Nat)} {K : St → Prop} : ∀ (os : List AO) (s : St) (acc : List (List Nat × List Nat)), (acc.all fun x => x.1.isEmpty) = true → wpQ P os s K → wpDr P os s acc fun s' ef => hok A ef ∧ K s'
  | [], s, acc, ha, h => ⟨hok_quiet A _ (by simpa using ha), h⟩
  | o :: os, s, acc, ha, h => by
    simp only [wpQ] at h
    simp only [wpDr]
    have go : stepR P o.op s (fun v u k => u = [] ∧ k = 0 ∧ wpQ P os { t := (St.put s o.d v).t, h := s.h, nr := s.nr } K) → stepR P o.op s (fun v u k => wpDr P os { t := (St.put s o.d v).t, h := u ++ s.h, nr := s.nr + k } ((u.map (·.1), rds o.op s.get (hg s.h)) :: acc) fun s' ef => hok A ef ∧ K s') := by
      refine stepR_mono ?_
      rintro v u k ⟨rfl, rfl, hk⟩
      exact wpQ_Dr os _ _ (by simpa using ha) hk
    cases hg0 : o.g with
    | none => rw [hg0] at h; exact go h
    | some tb =>
      obtain ⟨t, b⟩ := tb
      rw [hg0] at h
      simp only at h ⊢
      cases hl : wnt b (lk s.t t) with
      | some c =>
        rw [hl] at h
        simp only at h ⊢
        split at h
        · rename_i e; rw [if_pos e]; exact go h
        · rename_i e; rw [if_neg e]; exact wpQ_Dr os _ _ (by simpa using ha) h
      | none => rw [hl] at h; exact h.elim

def PlanR (P : Program) : List AO → List Eff → St → St → Prop
  | [], [], s, s' => s' = s
  | o :: os, e :: es, s, s' => e.d = o.d ∧ e.nr = s.nr ∧ e.rd = rds o.op (gT (lk s.t)) (hg s.h) ∧ EffOK P o (lk s.t) (hg s.h) e ∧ PlanR P os es { t := (St.put s e.d e.v).t, h := e.u ++ s.h, nr := s.nr + e.k } s'
  | _, _, _, _ => False

theorem stepR_res {P : Program} {op : AOp} {s : St} {K : AV → List (Nat × Option Rows) → Nat → Prop} (h : stepR P op s K) : ∃ v u k, Res P op (lk s.t) (hg s.h) s.nr v u k ∧ K v u k := by
  unfold stepR at h
  rw [get_gT] at h
  split at h
  · obtain ⟨nv, v, objs, h1, h2, h3⟩ := h
    exact ⟨_, _, _, ⟨nv, v, objs, h1, h2, rfl, rfl, rfl⟩, h3⟩
  · split at h
    · rename_i hx
      obtain ⟨nv, v, objs, h1, h2, h3⟩ := h
      refine ⟨_, _, _, ?_, h3⟩
      simp only [Res, hx]
      exact ⟨nv, v, objs, h1, h2, rfl, rfl, rfl⟩
    · exact h.elim
  · rename_i hn1 hn2
    split at h
    · rename_i v u k he
      refine ⟨v, u, k, ?_, h⟩
      unfold Res
      split
      · exact absurd rfl (hn1 _ _)
      · exact absurd rfl (hn2 _ _)
      · exact he
    · exact h.elim

theorem wpDr_plan {P : Program} {K : St → List (List Nat × List Nat) → Prop} : ∀ (os : List AO) (s : St) (acc : List (List Nat × List Nat)), wpDr P os s acc K →
    ∃ es s', PlanR P os es s s' ∧ K s' (acc.reverse ++ es.map fun e => (e.u.map (·.1), e.rd))
  | [], s, acc, h => ⟨[], s, rfl, by simpa [wpDr] using h⟩
  | o :: os, s, acc, h => by
    have go : stepR P o.op s (fun v u k => wpDr P os { t := (St.put s o.d v).t, h := u ++ s.h, nr := s.nr + k } ((u.map (·.1), rds o.op s.get (hg s.h)) :: acc) K) →
        ∃ v u k, Res P o.op (lk s.t) (hg s.h) s.nr v u k ∧ ∃ es s', PlanR P os es { t := (St.put s o.d v).t, h := u ++ s.h, nr := s.nr + k } s' ∧ K s' (acc.reverse ++ (u.map (·.1), rds o.op (gT (lk s.t)) (hg s.h)) :: es.map fun e => (e.u.map (·.1), e.rd)) := by
      intro hs
      obtain ⟨v, u, k, h1, h2⟩ := stepR_res hs
      obtain ⟨es, s', h3, h4⟩ := wpDr_plan os _ _ h2
      refine ⟨v, u, k, h1, es, s', h3, ?_⟩
      rw [get_gT] at h4
      simpa using h4
    simp only [wpDr] at h
    cases hg0 : o.g with
    | none =>
      rw [hg0] at h
      obtain ⟨v, u, k, h1, es, s', h3, h4⟩ := go h
      refine ⟨⟨o.d, v, u, s.nr, k, rds o.op (gT (lk s.t)) (hg s.h)⟩ :: es, s', ⟨rfl, rfl, rfl, ?_, h3⟩, by simpa using h4⟩
      unfold EffOK; rw [hg0]; exact h1
    | some tb =>
      obtain ⟨t, b⟩ := tb
      rw [hg0] at h
      simp only at h
      cases hlk : wnt b (lk s.t t) with
      | some c =>
        rw [hlk] at h
        simp only at h
        by_cases hcb : c = true
        · rw [if_pos hcb] at h
          obtain ⟨v, u, k, h1, es, s', h3, h4⟩ := go h
          refine ⟨⟨o.d, v, u, s.nr, k, rds o.op (gT (lk s.t)) (hg s.h)⟩ :: es, s', ⟨rfl, rfl, rfl, ?_, h3⟩, by simpa using h4⟩
          unfold EffOK; rw [hg0]; exact ⟨c, hlk, fun _ => h1, fun hne => absurd hcb hne⟩
        · rw [if_neg hcb] at h
          obtain ⟨es, s', h3, h4⟩ := wpDr_plan os _ _ h
          rw [get_gT] at h4
          refine ⟨⟨o.d, .tup [], [], s.nr, 0, rds o.op (gT (lk s.t)) (hg s.h)⟩ :: es, s', ⟨rfl, rfl, rfl, ?_, ?_⟩, by simpa using h4⟩
          · unfold EffOK; rw [hg0]; exact ⟨c, hlk, fun hc => absurd hc hcb, fun _ => ⟨rfl, rfl, rfl⟩⟩
          · have hh : St.put s o.d (.tup []) = { t := (St.put s o.d (.tup [])).t, h := [] ++ s.h, nr := s.nr + 0 } := by cases o.d <;> rfl
            rw [hh] at h3
            exact h3
      | none => rw [hlk] at h; exact h.elim

theorem PlanR.plan {P : Program} : ∀ {os : List AO} {es : List Eff} {s s' : St}, PlanR P os es s s' →
    Plan P os (lk s.t) (hg s.h) s.nr es ∧ lk s'.t = FF (tks es) (lk s.t) ∧ hg s'.h = FF (uss es) (hg s.h) ∧ s.nr ≤ s'.nr ∧ ∀ (i : Nat) e, es[i]? = some e → e.nr + e.k ≤ s'.nr
  | [], [], s, s', h => by
    have : s' = s := h
    subst this
    exact ⟨⟨rfl, by simp, by simp, by simp⟩, rfl, rfl, Nat.le_refl _, by simp⟩
  | [], _ :: _, _, _, h => h.elim
  | _ :: _, [], _, _, h => h.elim
  | o :: os, e :: es, s, s', h => by
    obtain ⟨h1, h2, h3, h4, h5⟩ := h
    obtain ⟨p, q1, q2, q3, q4⟩ := PlanR.plan h5
    simp only at p q1 q2 q3
    have eT : lk (St.put s e.d e.v).t = ups (lk s.t) (tk e.d e.v) := by rw [lk_put, putF_ups]
    have eH : hg (e.u ++ s.h) = ups (hg s.h) e.u := by rw [hg_upd, upd_ups]
    rw [eT, eH] at p
    rw [eT] at q1
    rw [eH] at q2
    refine ⟨⟨by simp [p.len], ?_, ?_, ?_⟩, by rw [q1]; rfl, by rw [q2]; rfl, by omega, ?_⟩
    · intro i o' e' ho he
      cases i with
      | zero => simp at ho he; subst ho; subst he; exact ⟨h1, h4, h3⟩
      | succ i =>
        simp at ho he
        have := p.ok i o' e' ho he
        simpa [tks, uss, FF] using this
    · intro i j ei ej hij hi hj
      cases j with
      | zero => omega
      | succ j =>
        simp at hj
        cases i with
        | zero => simp at hi; subst hi; have := p.lo j ej hj; omega
        | succ i => simp at hi; exact p.nrs i j ei ej (by omega) hi hj
    · intro i e' he
      cases i with
      | zero => simp at he; subst he; omega
      | succ i => simp at he; have := p.lo i e' he; omega
    · intro i e' he
      cases i with
      | zero => simp at he; subst he; omega
      | succ i => simp at he; exact q4 i e' he

section
variable {P : Program} {B : Nat} {c0 : Cx} {n : Nat}

theorem RT.drew {T : Nat → AV} {H : Nat → Option Rows} {N : Nat → Prop} {a : Act} {w : World} (h : RT B c0 n T H N a w) : RT B c0 n T H N a w.drew := by
  obtain ⟨⟨c, rfl, hlat, hrel, htm⟩, hsz, hdf⟩ := h
  have := rel_drew hrel
  exact ⟨⟨_, rfl, hlat.trans this.2, this.1, fun t => V_mono this.2.ext _ _ (htm t)⟩, hsz, hdf⟩

theorem wpD_sound (hm : P.follows .mixedOrders = true) {id : Nat} {ops : Array Oper} {os : List AO} {A : List (List Nat)} (hos : compOpers P n ops ops.toList = some os) (hck : chkW (ops.toList.map waits) A = true) (hst : statB os A = true)
    {s : St} {Q' : St → Prop} {Q : Exit → Act → World → Prop} {a : Act} {w : World} (hw : wpD P os A s Q') (hs : RS B c0 n s a w) (hQ : ∀ s a w, Q' s → RS B c0 n s a w → Q .normal a w) : (Code.region id ops true).wp P Q a w := by
  refine wp_region_any hm ?_
  obtain ⟨es, s', hp, hok, hQs⟩ := wpDr_plan os s [] hw
  obtain ⟨plan, q1, q2, q3, q4⟩ := hp.plan
  have hck' := List.all_eq_true.1 hck
  have ck : ∀ (j : Nat) (o : Oper), ops[j]? = some o → (∀ i ∈ waits o, i < j) ∧ ∀ i ∈ A.getD j [], i ∈ waits o ∨ ∃ k ∈ waits o, i ∈ A.getD k [] := by
    intro j o ho
    have hj := (Array.getElem?_eq_some_iff.1 ho).1
    have h0 := hck' j (List.mem_range.2 (by simpa using hj))
    have hwj : (ops.toList.map waits).getD j [] = waits o := by simp [List.getD_eq_getElem?_getD, ho]
    rw [hwj] at h0
    simp only [Bool.and_eq_true, List.all_eq_true, decide_eq_true_eq, Bool.or_eq_true, List.any_eq_true, List.contains_iff_mem] at h0
    exact h0
  have hlist : ∀ i, (Array.replicate ops.size false).getD i false = false := by intro i; simp [Array.getD_eq_getD_getElem?, Array.getElem?_replicate]; split <;> rfl
  have hGF : ∀ {α : Type} (ls : List (List (Nat × α))) (F : Nat → α) (k : Nat), GF (fun i => (Array.replicate ops.size false).getD i false) k ls F = F := by
    intro α ls
    induction ls with
    | nil => intro F k; rfl
    | cons l ls ih => intro F k; unfold GF; rw [hlist, if_neg (by simp)]; exact ih F (k + 1)
  refine any_sound (c0 := c0) (B := B) hos plan (A := fun j => A.getD j []) (fun j o ho => (ck j o ho).1) (fun j o ho => (ck j o ho).2) ?_ ?_ ops.size _ a _ (by simp) ?_ ?_ ?_
  · intro i j o o' e e' hij hA hoi hoj hei hej
    have hj := (List.getElem?_eq_some_iff.1 hoj).1
    have h1 := List.all_eq_true.1 (List.all_eq_true.1 hst j (List.mem_range.2 hj)) i (List.mem_range.2 hij)
    rw [hoi, hoj] at h1
    simp only [Bool.or_eq_true, Bool.and_eq_true] at h1
    have h2 := h1.resolve_left (fun hc => hA (by simpa using hc))
    have h3 := hok i j (e.u.map (·.1), e.rd) (e'.u.map (·.1), e'.rd) hij hA (by simp [hei]) (by simp [hej])
    exact ⟨djB_spec h2.1.1, djB_spec h2.1.2, djB_spec h2.2, h3.1, h3.2.1, h3.2.2⟩
  · intro a' w' hRT
    refine hQ s' a' w' hQs ?_
    show RT B c0 n (lk s'.t) (hg s'.h) (frm s'.nr) a' w'
    rw [q1, q2]
    refine hRT.weak (fun r hr => ⟨Nat.le_trans q3 hr, fun j e hj _ hh => ?_⟩)
    have := q4 j e hj
    have : s'.nr ≤ r := hr
    omega
  · intro j o ho hl
    rw [hlist] at hl; cases hl
  · rw [hGF, hGF]
    refine (RT.drew hs).weak (fun r hr => hr.1)
  · have : (List.range ops.size).countP (fun i => !(Array.replicate ops.size false).getD i false) ≤ (List.range ops.size).length := List.countP_le_length
    simpa using this
end
section
variable {P : Program} {B : Nat} {c0 : Cx} {n : Nat}
/-- A stretch of a drawn region behind which everything else waits. -/
theorem win_sound {ops : Array Oper} {os : List AO} (hos : compOpers P n ops ops.toList = some os) {lo hi : Nat} (hlo : lo ≤ hi) (hhi : hi ≤ ops.size) {ow : List AO} (how : ∀ i, i < hi - lo → ow[i]? = os[lo + i]?) {T0 : Nat → AV} {H0 : Nat → Option Rows} {nr0 : Nat} {es : List Eff} (hel : es.length = hi - lo) (hp : Plan P ow T0 H0 nr0 es) {A : Nat → List Nat}
    (hw : ∀ (j : Nat) (o : Oper), ops[j]? = some o → ∀ i ∈ waits o, i < j) (hA : ∀ (j : Nat) (o : Oper), ops[j]? = some o → ∀ i ∈ A j, i ∈ waits o ∨ ∃ k ∈ waits o, i ∈ A k)
    (hind : ∀ (i j : Nat) o o' e e', i < j → lo + i ∉ A (lo + j) → os[lo + i]? = some o → os[lo + j]? = some o' → es[i]? = some e → es[j]? = some e' → Ind o o' e e')
    (hbar : ∀ j, hi ≤ j → j < ops.size → ∀ i, i < hi → i ∈ A j)
    {Q : Exit → Act → World → Prop}
    (hK : ∀ (fuel : Nat) (listed : Array Bool) (a : Act) (w : World), listed.size = ops.size → (∀ i, i < ops.size → listed.getD i false = decide (i < hi)) → RT B c0 n (FF (tks es) T0) (FF (uss es) H0) (NN es nr0 fun _ => true) a w →
      (List.range ops.size).countP (fun i => !listed.getD i false) ≤ fuel → wpAny P .any ops Q fuel listed a w) :
    ∀ (fuel : Nat) (listed : Array Bool) (a : Act) (w : World), listed.size = ops.size → (∀ (j : Nat) (o : Oper), ops[j]? = some o → listed.getD j false = true → ∀ i ∈ waits o, listed.getD i false = true) →
      (∀ i, i < lo → listed.getD i false = true) → (∀ i, hi ≤ i → i < ops.size → listed.getD i false = false) →
      RT B c0 n (GF (fun i => listed.getD i false) lo (tks es) T0) (GF (fun i => listed.getD i false) lo (uss es) H0) (NN es nr0 fun i => listed.getD (lo + i) false) a w →
      (List.range ops.size).countP (fun i => !listed.getD i false) ≤ fuel → wpAny P .any ops Q fuel listed a w := by
  obtain ⟨hlen, hget⟩ := compOpers_get ops.toList os hos
  have hol : os.length = ops.size := by rw [hlen]; simp
  have fin : ∀ (fuel : Nat) (listed : Array Bool) (a : Act) (w : World), listed.size = ops.size → (∀ i, i < hi → listed.getD i false = true) → (∀ i, hi ≤ i → i < ops.size → listed.getD i false = false) → RT B c0 n (GF (fun i => listed.getD i false) lo (tks es) T0) (GF (fun i => listed.getD i false) lo (uss es) H0) (NN es nr0 fun i => listed.getD (lo + i) false) a w → (List.range ops.size).countP (fun i => !listed.getD i false) ≤ fuel → wpAny P .any ops Q fuel listed a w := by
    intro fuel listed a w hls hall hno h hcnt
    refine hK fuel listed a w hls (fun i hi2 => ?_) ?_ hcnt
    · by_cases g : i < hi
      · rw [hall i g]; simp [g]
      · rw [hno i (by omega) hi2]; simp [g]
    have key : ∀ {α : Type} (ls : List (List (Nat × α))) (F : Nat → α), ls.length = hi - lo → GF (fun i => listed.getD i false) lo ls F = FF ls F := by
      intro α ls F hl
      have := GF_take ls lo ls.length F
      rw [List.take_length] at this
      rw [← this]
      funext t
      refine GF_congr_at ls lo F F rfl (fun j l hj => .inl ?_)
      have hjl := (List.getElem?_eq_some_iff.1 hj).1
      rw [hall _ (by omega)]
      simp; omega
    rw [key (tks es) T0 (by simp [tks, hel]), key (uss es) H0 (by simp [uss, hel])] at h
    refine h.weak (fun r hr => ⟨hr.1, fun j e hj _ => hr.2 j e hj rfl⟩)
  intro fuel
  induction fuel with
  | zero =>
    intro listed a w hls hcl hl1 hl2 h hcnt
    refine fin 0 listed a w hls (fun i hi2 => ?_) hl2 h hcnt
    have h0 := List.countP_eq_zero.1 (Nat.le_zero.1 hcnt) i (List.mem_range.2 (by omega))
    simpa using h0
  | succ fuel ih =>
    intro listed a w hls hcl hl1 hl2 h hcnt
    by_cases hall : ∀ i, i < hi → listed.getD i false = true
    · exact fin _ listed a w hls hall hl2 h hcnt
    obtain ⟨i0, hi0, hu0⟩ : ∃ i, i < hi ∧ listed.getD i false = false := by
      refine Classical.byContradiction fun hn => hall fun i hi2 => ?_
      cases hb : listed.getD i false with
      | true => rfl
      | false => exact absurd ⟨i, hi2, hb⟩ hn
    have notReady : Region.ready .any ops listed = [] → ∀ i, i < ops.size → listed.getD i false = true := by
      intro hr i
      induction i using Nat.strongRecOn with
      | _ i ihr =>
        intro hi
        cases hb : listed.getD i false with
        | true => rfl
        | false =>
          exfalso
          have : i ∈ Region.ready .any ops listed := by
            rw [mem_ready]
            refine ⟨?_, ops[i], by simp [hi], fun e he hbd => ?_⟩
            · have : i < listed.size := by omega
              rw [Array.getD_eq_getD_getElem?] at hb ⊢
              simp only [Array.getElem?_eq_getElem this, Option.getD_some] at hb ⊢
              exact hb
            · have hmem : e.on ∈ waits ops[i] := by
                unfold waits
                exact List.mem_map.2 ⟨e, List.mem_filter.2 ⟨by simpa using he, hbd⟩, rfl⟩
              have hlt := hw i ops[i] (by simp [hi]) e.on hmem
              exact ihr e.on hlt (by omega)
          rw [hr] at this
          cases this
    refine ⟨fun hr => (by have := notReady hr i0 (by omega); rw [hu0] at this; cases this), fun i hi' => ?_⟩
    obtain ⟨h1, o, ho, hready⟩ := mem_ready.1 hi'
    have hio := (Array.getElem?_eq_some_iff.1 ho).1
    have hil : i < listed.size := by omega
    have hb : listed.getD i false = false := by
      rw [Array.getD_eq_getD_getElem?, Array.getElem?_eq_getElem hil] at h1 ⊢
      simpa using h1
    -- ancestors of what is listed are listed
    have anc : ∀ (j : Nat), j < ops.size → listed.getD j false = true → ∀ q ∈ A j, listed.getD q false = true := by
      intro j
      induction j using Nat.strongRecOn with
      | _ j ihj =>
        intro hj hlj q hq
        rcases hA j ops[j] (by simp [hj]) q hq with h' | ⟨k, hk, hqk⟩
        · exact hcl j ops[j] (by simp [hj]) hlj q h'
        · have hkj := hw j ops[j] (by simp [hj]) k hk
          exact ihj k hkj (by omega) (hcl j ops[j] (by simp [hj]) hlj k hk) q hqk
    have hwl : ∀ k ∈ waits o, listed.getD k false = true := by
      intro k hk
      unfold waits at hk
      obtain ⟨ed, hed, rfl⟩ := List.mem_map.1 hk
      obtain ⟨m1, m2⟩ := List.mem_filter.1 hed
      exact hready ed (by simpa using m1) m2
    have ancI : ∀ q ∈ A i, listed.getD q false = true := by
      intro q hq
      rcases hA i o ho q hq with h' | ⟨k, hk, hqk⟩
      · exact hwl q h'
      · have hki := hw i o ho k hk
        exact anc k (by omega) (hwl k hk) q hqk
    have hilo : lo ≤ i := by
      refine Nat.le_of_not_lt fun hc => ?_
      rw [hl1 i hc] at hb; cases hb
    have hihi : i < hi := by
      refine Nat.lt_of_not_le fun hc => ?_
      rw [ancI i0 (hbar i hc hio i0 hi0)] at hu0; cases hu0
    obtain ⟨m, rfl⟩ : ∃ m, i = lo + m := ⟨i - lo, by omega⟩
    have hm : m < hi - lo := by omega
    obtain ⟨ao, hao, hcomp⟩ := hget (lo + m) o (by simpa using ho)
    obtain ⟨e, he⟩ : ∃ e, es[m]? = some e := ⟨es[m]'(by omega), by simp [show m < es.length by omega]⟩
    obtain ⟨p1, p2, p3⟩ := hp.ok m ao e ((how m hm).trans hao) he
    obtain ⟨e1, e2, e3, e4⟩ := compOper_inv hcomp
    -- what lies ahead and is not listed, what lies behind and is
    have ahead : ∀ j oj ej, j < m → listed.getD (lo + j) false = false → os[lo + j]? = some oj → es[j]? = some ej → Ind oj ao ej e := by
      intro j oj ej hji hlj hoj hej
      exact hind j m oj ao ej e hji (fun hm => by rw [ancI _ hm] at hlj; cases hlj) hoj hao hej he
    have behind : ∀ j oj ej, m < j → listed.getD (lo + j) false = true → os[lo + j]? = some oj → es[j]? = some ej → Ind ao oj e ej := by
      intro j oj ej hij hlj hoj hej
      have hj : lo + j < ops.size := by rw [← hol]; exact (List.getElem?_eq_some_iff.1 hoj).1
      exact hind m j ao oj e ej hij (fun hm => by rw [anc _ hj hlj _ hm] at hb; cases hb) hao hoj he hej
    have osget : ∀ (j : Nat) (ej : Eff), es[j]? = some ej → ∃ oj : AO, os[lo + j]? = some oj ∧ ej.d = oj.d := by
      intro j ej hej
      have hj := (List.getElem?_eq_some_iff.1 hej).1
      obtain ⟨oj, hoj⟩ : ∃ oj, os[lo + j]? = some oj := ⟨os[lo + j]'(by omega), by simp [show lo + j < os.length by omega]⟩
      exact ⟨oj, hoj, (hp.ok j oj ej ((how j (by omega)).trans hoj) hej).1⟩
    have mask : ∀ j, j ≠ m → (listed.getD (lo + j) false = (decide (lo + j < lo + m)) ∨ (j < m ∧ listed.getD (lo + j) false = false) ∨ (m < j ∧ listed.getD (lo + j) false = true)) := by
      intro j hj
      rcases Nat.lt_or_ge j m with hlt | hge
      · cases hl : listed.getD (lo + j) false with
        | true => left; simp; omega
        | false => right; left; exact ⟨hlt, rfl⟩
      · cases hl : listed.getD (lo + j) false with
        | true => right; right; exact ⟨by omega, rfl⟩
        | false => left; simp; omega
    have hTagree : ∀ t ∈ looks ao, GF (fun i => listed.getD i false) lo (tks es) T0 t = FF ((tks es).take m) T0 t := by
      intro t ht
      rw [← GF_take (tks es) lo m T0]
      refine GF_congr_at _ lo T0 T0 rfl (fun j l hl => ?_)
      by_cases hji : j = m
      · subst hji; left; rw [hb]; simp
      · simp only [tks, List.getElem?_map, Option.map_eq_some_iff] at hl
        obtain ⟨ej, hej, rfl⟩ := hl
        obtain ⟨oj, hoj, hdj⟩ := osget j ej hej
        rw [keys_tk, hdj]
        rcases mask j hji with h' | ⟨h', hl'⟩ | ⟨h', hl'⟩
        · left; simpa using h'
        · right; intro hm; exact (ahead j oj ej h' hl' hoj hej).dl t hm ht
        · right; intro hm; exact (behind j oj ej h' hl' hoj hej).ld t hm ht
    have hHagree : ∀ r ∈ e.rd, GF (fun i => listed.getD i false) lo (uss es) H0 r = FF ((uss es).take m) H0 r := by
      intro r hr
      rw [← GF_take (uss es) lo m H0]
      refine GF_congr_at _ lo H0 H0 rfl (fun j l hl => ?_)
      by_cases hji : j = m
      · subst hji; left; rw [hb]; simp
      · simp only [uss, List.getElem?_map, Option.map_eq_some_iff] at hl
        obtain ⟨ej, hej, rfl⟩ := hl
        obtain ⟨oj, hoj, hdj⟩ := osget j ej hej
        rcases mask j hji with h' | ⟨h', hl'⟩ | ⟨h', hl'⟩
        · left; simpa using h'
        · right; intro hm; exact (ahead j oj ej h' hl' hoj hej).ur r hm hr
        · right; intro hm; exact (behind j oj ej h' hl' hoj hej).ru r hm hr
    have hok := eff_congr hTagree (by rw [← p3]; exact hHagree) p2
    -- the state behind it
    have hbset : (fun q => (listed.setIfInBounds (lo + m) true).getD q false) = setB (fun q => listed.getD q false) (lo + m) := by
      funext q
      simp only [setB]
      by_cases hq : q = lo + m
      · subst hq; simp [Array.getD_eq_getD_getElem?, Array.getElem?_setIfInBounds, hil]
      · rw [if_neg hq, getD_set_ne false (fun e => hq e.symm)]
    have hT' : GF (fun q => (listed.setIfInBounds (lo + m) true).getD q false) lo (tks es) T0 = putF (GF (fun q => listed.getD q false) lo (tks es) T0) e.d e.v := by
      rw [hbset, putF_ups]
      exact GF_set (b := fun q => listed.getD q false) (m := tk e.d e.v) (tks es) lo m T0 (by simp [tks, he]) hb (fun j l hij hl hlj => by
        simp only [tks, List.getElem?_map, Option.map_eq_some_iff] at hl
        obtain ⟨ej, hej, rfl⟩ := hl
        obtain ⟨oj, hoj, hdj⟩ := osget j ej hej
        rw [keys_tk, keys_tk, p1, hdj]
        exact (behind j oj ej hij hlj hoj hej).dd)
    have hH' : GF (fun q => (listed.setIfInBounds (lo + m) true).getD q false) lo (uss es) H0 = upd (GF (fun q => listed.getD q false) lo (uss es) H0) e.u := by
      rw [hbset, upd_ups]
      exact GF_set (b := fun q => listed.getD q false) (m := e.u) (uss es) lo m H0 (by simp [uss, he]) hb (fun j l hij hl hlj => by
        simp only [uss, List.getElem?_map, Option.map_eq_some_iff] at hl
        obtain ⟨ej, hej, rfl⟩ := hl
        obtain ⟨oj, hoj, hdj⟩ := osget j ej hej
        exact (behind j oj ej hij hlj hoj hej).uu)
    have hbs : ∀ q, (listed.setIfInBounds (lo + m) true).getD q false = setB (fun q => listed.getD q false) (lo + m) q := fun q => congrFun hbset q
    have hN' : ∀ r, NN es nr0 (fun q => (listed.setIfInBounds (lo + m) true).getD (lo + q) false) r → less (NN es nr0 fun q => listed.getD (lo + q) false) e.nr e.k r := by
      intro r hr
      refine ⟨⟨hr.1, fun j ej hej hbj => hr.2 j ej hej ?_⟩, ?_⟩
      · show (listed.setIfInBounds (lo + m) true).getD (lo + j) false = true
        rw [hbs]
        simp only [setB]; split; rfl; exact hbj
      · refine hr.2 m e he ?_
        show (listed.setIfInBounds (lo + m) true).getD (lo + m) false = true
        rw [hbs]; simp [setB]
    have hNin : ∀ r, e.nr ≤ r → r < e.nr + e.k → NN es nr0 (fun q => listed.getD (lo + q) false) r := by
      intro r h1 h2
      refine ⟨Nat.le_trans (hp.lo m e he) h1, fun j ej hej hbj hh => ?_⟩
      rcases Nat.lt_trichotomy m j with hij | hij | hij
      · have := hp.nrs m j e ej hij he hej; omega
      · subst hij; have hbj2 : listed.getD (lo + m) false = true := hbj; rw [hb] at hbj2; cases hbj2
      · have := hp.nrs j m ej e hij hej he; omega
    have hcnt' : (List.range ops.size).countP (fun q => !(listed.setIfInBounds (lo + m) true).getD q false) ≤ fuel := by
      have hlt : (List.range ops.size).countP (fun q => !(listed.setIfInBounds (lo + m) true).getD q false) < (List.range ops.size).countP (fun q => !listed.getD q false) := by
        simp only [hbs]
        have key : ∀ (l : List Nat), l.countP (fun q => !setB (fun q => listed.getD q false) (lo + m) q) ≤ l.countP (fun q => !listed.getD q false) ∧ ((lo + m) ∈ l → l.countP (fun q => !setB (fun q => listed.getD q false) (lo + m) q) < l.countP (fun q => !listed.getD q false)) := by
          intro l
          induction l with
          | nil => simp
          | cons x xs ihx =>
            simp only [List.countP_cons]
            by_cases hx : x = lo + m
            · subst hx
              have h0 : setB (fun q => listed.getD q false) (lo + m) (lo + m) = true := by simp [setB]
              simp only [h0, hb, Bool.not_true, Bool.not_false, if_true, Bool.false_eq_true, if_false]
              exact ⟨by omega, fun _ => by omega⟩
            · have h0 : setB (fun q => listed.getD q false) (lo + m) x = listed.getD x false := by simp [setB, hx]
              simp only [h0]
              refine ⟨by omega, fun hm => ?_⟩
              have := ihx.2 ((List.mem_cons.1 hm).resolve_left (fun e => hx e.symm))
              omega
        exact (key _).2 (List.mem_range.2 hio)
      omega
    have hcl' : ∀ (j : Nat) (o : Oper), ops[j]? = some o → (listed.setIfInBounds (lo + m) true).getD j false = true → ∀ q ∈ waits o, (listed.setIfInBounds (lo + m) true).getD q false = true := by
      intro j oj hoj hlj q hq
      by_cases hji : j = lo + m
      · subst hji
        rw [ho] at hoj; cases hoj
        exact getD_set_true (hwl q hq)
      · rw [getD_set_ne false (fun e => hji e.symm)] at hlj
        exact getD_set_true (hcl j oj hoj hlj q hq)
    have next : ∀ a' w', RT B c0 n (putF (GF (fun i => listed.getD i false) lo (tks es) T0) o.dst e.v) (upd (GF (fun i => listed.getD i false) lo (uss es) H0) e.u) (less (NN es nr0 fun i => listed.getD (lo + i) false) e.nr e.k) a' w' → wpAny P .any ops Q fuel (listed.setIfInBounds (lo + m) true) a' w' := by
      intro a' w' hRT
      refine ih _ a' w' (by simpa using hls) hcl' (fun j hj => getD_set_true (hl1 j hj)) (fun j hj hj2 => by rw [getD_set_ne false (by omega)]; exact hl2 j hj hj2) ?_ hcnt'
      rw [hT', hH', p1, e1]
      exact hRT.weak hN'
    unfold wpOp
    simp only [ho]
    have hwant := wanted_of h e2
    unfold EffOK at hok
    cases hg : ao.g with
    | none =>
      rw [hg] at hok hwant
      rw [show Region.wanted o (yielded ops a.tmps) = true from hwant]
      simp only [if_true]
      exact .inl (op_wp h e3 e4 hok hNin next)
    | some tb =>
      obtain ⟨t, b⟩ := tb
      rw [hg] at hok hwant
      obtain ⟨c, hc, hy, hn⟩ := hok
      rw [show Region.wanted o (yielded ops a.tmps) = c from hwant c hc]
      by_cases hcb : c = true
      · subst hcb
        simp only [if_true]
        exact .inl (op_wp h e3 e4 (hy rfl) hNin next)
      · have : c = false := by simpa using hcb
        simp only [this, Bool.false_eq_true, if_false]
        obtain ⟨h1, h2, h3⟩ := hn hcb
        refine next _ _ ?_
        rw [h1, h2, h3]
        exact (h.skip e4).weak (fun r hr => hr.1)
/-- A stretch of a drawn region; what lies behind it may be ready while some of it is not done. -/
theorem win_gen {ops : Array Oper} {os : List AO} (hos : compOpers P n ops ops.toList = some os) {lo hi : Nat} (hlo : lo ≤ hi) (hhi : hi ≤ ops.size) {ow : List AO} (how : ∀ i, i < hi - lo → ow[i]? = os[lo + i]?) {T0 : Nat → AV} {H0 : Nat → Option Rows} {nr0 : Nat} {es : List Eff} (hel : es.length = hi - lo) (hp : Plan P ow T0 H0 nr0 es) {A : Nat → List Nat}
    (hw : ∀ (j : Nat) (o : Oper), ops[j]? = some o → ∀ i ∈ waits o, i < j) (hA : ∀ (j : Nat) (o : Oper), ops[j]? = some o → ∀ i ∈ A j, i ∈ waits o ∨ ∃ k ∈ waits o, i ∈ A k)
    (hind : ∀ (i j : Nat) o o' e e', i < j → lo + i ∉ A (lo + j) → os[lo + i]? = some o → os[lo + j]? = some o' → es[i]? = some e → es[j]? = some e' → Ind o o' e e')
    {Q : Exit → Act → World → Prop}
    (hHigh : ∀ (fuel : Nat) (listed : Array Bool) (a : Act) (w : World) (i i0 : Nat), listed.size = ops.size → (∀ (j : Nat) (o : Oper), ops[j]? = some o → listed.getD j false = true → ∀ q ∈ waits o, listed.getD q false = true) → (∀ i, hi ≤ i → i < ops.size → listed.getD i false = false) →
      RT B c0 n (GF (fun i => listed.getD i false) lo (tks es) T0) (GF (fun i => listed.getD i false) lo (uss es) H0) (NN es nr0 fun i => listed.getD (lo + i) false) a w → (List.range ops.size).countP (fun i => !listed.getD i false) ≤ fuel + 1 → hi ≤ i → i ∈ Region.ready .any ops listed →
      (∀ q ∈ A i, listed.getD q false = true) → i0 < hi → listed.getD i0 false = false → wpOp P ops Q i (wpAny P .any ops Q fuel (listed.setIfInBounds i true)) a w)
    (hK : ∀ (fuel : Nat) (listed : Array Bool) (a : Act) (w : World), listed.size = ops.size → (∀ i, i < ops.size → listed.getD i false = decide (i < hi)) → RT B c0 n (FF (tks es) T0) (FF (uss es) H0) (NN es nr0 fun _ => true) a w →
      (List.range ops.size).countP (fun i => !listed.getD i false) ≤ fuel → wpAny P .any ops Q fuel listed a w) :
    ∀ (fuel : Nat) (listed : Array Bool) (a : Act) (w : World), listed.size = ops.size → (∀ (j : Nat) (o : Oper), ops[j]? = some o → listed.getD j false = true → ∀ i ∈ waits o, listed.getD i false = true) →
      (∀ i, i < lo → listed.getD i false = true) → (∀ i, hi ≤ i → i < ops.size → listed.getD i false = false) →
      RT B c0 n (GF (fun i => listed.getD i false) lo (tks es) T0) (GF (fun i => listed.getD i false) lo (uss es) H0) (NN es nr0 fun i => listed.getD (lo + i) false) a w →
      (List.range ops.size).countP (fun i => !listed.getD i false) ≤ fuel → wpAny P .any ops Q fuel listed a w := by
  obtain ⟨hlen, hget⟩ := compOpers_get ops.toList os hos
  have hol : os.length = ops.size := by rw [hlen]; simp
  have fin : ∀ (fuel : Nat) (listed : Array Bool) (a : Act) (w : World), listed.size = ops.size → (∀ i, i < hi → listed.getD i false = true) → (∀ i, hi ≤ i → i < ops.size → listed.getD i false = false) → RT B c0 n (GF (fun i => listed.getD i false) lo (tks es) T0) (GF (fun i => listed.getD i false) lo (uss es) H0) (NN es nr0 fun i => listed.getD (lo + i) false) a w → (List.range ops.size).countP (fun i => !listed.getD i false) ≤ fuel → wpAny P .any ops Q fuel listed a w := by
    intro fuel listed a w hls hall hno h hcnt
    refine hK fuel listed a w hls (fun i hi2 => ?_) ?_ hcnt
    · by_cases g : i < hi
      · rw [hall i g]; simp [g]
      · rw [hno i (by omega) hi2]; simp [g]
    have key : ∀ {α : Type} (ls : List (List (Nat × α))) (F : Nat → α), ls.length = hi - lo → GF (fun i => listed.getD i false) lo ls F = FF ls F := by
      intro α ls F hl
      have := GF_take ls lo ls.length F
      rw [List.take_length] at this
      rw [← this]
      funext t
      refine GF_congr_at ls lo F F rfl (fun j l hj => .inl ?_)
      have hjl := (List.getElem?_eq_some_iff.1 hj).1
      rw [hall _ (by omega)]
      simp; omega
    rw [key (tks es) T0 (by simp [tks, hel]), key (uss es) H0 (by simp [uss, hel])] at h
    refine h.weak (fun r hr => ⟨hr.1, fun j e hj _ => hr.2 j e hj rfl⟩)
  intro fuel
  induction fuel with
  | zero =>
    intro listed a w hls hcl hl1 hl2 h hcnt
    refine fin 0 listed a w hls (fun i hi2 => ?_) hl2 h hcnt
    have h0 := List.countP_eq_zero.1 (Nat.le_zero.1 hcnt) i (List.mem_range.2 (by omega))
    simpa using h0
  | succ fuel ih =>
    intro listed a w hls hcl hl1 hl2 h hcnt
    by_cases hall : ∀ i, i < hi → listed.getD i false = true
    · exact fin _ listed a w hls hall hl2 h hcnt
    obtain ⟨i0, hi0, hu0⟩ : ∃ i, i < hi ∧ listed.getD i false = false := by
      refine Classical.byContradiction fun hn => hall fun i hi2 => ?_
      cases hb : listed.getD i false with
      | true => rfl
      | false => exact absurd ⟨i, hi2, hb⟩ hn
    have notReady : Region.ready .any ops listed = [] → ∀ i, i < ops.size → listed.getD i false = true := by
      intro hr i
      induction i using Nat.strongRecOn with
      | _ i ihr =>
        intro hi
        cases hb : listed.getD i false with
        | true => rfl
        | false =>
          exfalso
          have : i ∈ Region.ready .any ops listed := by
            rw [mem_ready]
            refine ⟨?_, ops[i], by simp [hi], fun e he hbd => ?_⟩
            · have : i < listed.size := by omega
              rw [Array.getD_eq_getD_getElem?] at hb ⊢
              simp only [Array.getElem?_eq_getElem this, Option.getD_some] at hb ⊢
              exact hb
            · have hmem : e.on ∈ waits ops[i] := by
                unfold waits
                exact List.mem_map.2 ⟨e, List.mem_filter.2 ⟨by simpa using he, hbd⟩, rfl⟩
              have hlt := hw i ops[i] (by simp [hi]) e.on hmem
              exact ihr e.on hlt (by omega)
          rw [hr] at this
          cases this
    refine ⟨fun hr => (by have := notReady hr i0 (by omega); rw [hu0] at this; cases this), fun i hi' => ?_⟩
    obtain ⟨h1, o, ho, hready⟩ := mem_ready.1 hi'
    have hio := (Array.getElem?_eq_some_iff.1 ho).1
    have hil : i < listed.size := by omega
    have hb : listed.getD i false = false := by
      rw [Array.getD_eq_getD_getElem?, Array.getElem?_eq_getElem hil] at h1 ⊢
      simpa using h1
    -- ancestors of what is listed are listed
    have anc : ∀ (j : Nat), j < ops.size → listed.getD j false = true → ∀ q ∈ A j, listed.getD q false = true := by
      intro j
      induction j using Nat.strongRecOn with
      | _ j ihj =>
        intro hj hlj q hq
        rcases hA j ops[j] (by simp [hj]) q hq with h' | ⟨k, hk, hqk⟩
        · exact hcl j ops[j] (by simp [hj]) hlj q h'
        · have hkj := hw j ops[j] (by simp [hj]) k hk
          exact ihj k hkj (by omega) (hcl j ops[j] (by simp [hj]) hlj k hk) q hqk
    have hwl : ∀ k ∈ waits o, listed.getD k false = true := by
      intro k hk
      unfold waits at hk
      obtain ⟨ed, hed, rfl⟩ := List.mem_map.1 hk
      obtain ⟨m1, m2⟩ := List.mem_filter.1 hed
      exact hready ed (by simpa using m1) m2
    have ancI : ∀ q ∈ A i, listed.getD q false = true := by
      intro q hq
      rcases hA i o ho q hq with h' | ⟨k, hk, hqk⟩
      · exact hwl q h'
      · have hki := hw i o ho k hk
        exact anc k (by omega) (hwl k hk) q hqk
    have hilo : lo ≤ i := by
      refine Nat.le_of_not_lt fun hc => ?_
      rw [hl1 i hc] at hb; cases hb
    by_cases hc : hi ≤ i
    · exact hHigh fuel listed a w i i0 hls hcl hl2 h hcnt hc hi' ancI hi0 hu0
    have hihi : i < hi := Nat.lt_of_not_le hc
    obtain ⟨m, rfl⟩ : ∃ m, i = lo + m := ⟨i - lo, by omega⟩
    have hm : m < hi - lo := by omega
    obtain ⟨ao, hao, hcomp⟩ := hget (lo + m) o (by simpa using ho)
    obtain ⟨e, he⟩ : ∃ e, es[m]? = some e := ⟨es[m]'(by omega), by simp [show m < es.length by omega]⟩
    obtain ⟨p1, p2, p3⟩ := hp.ok m ao e ((how m hm).trans hao) he
    obtain ⟨e1, e2, e3, e4⟩ := compOper_inv hcomp
    -- what lies ahead and is not listed, what lies behind and is
    have ahead : ∀ j oj ej, j < m → listed.getD (lo + j) false = false → os[lo + j]? = some oj → es[j]? = some ej → Ind oj ao ej e := by
      intro j oj ej hji hlj hoj hej
      exact hind j m oj ao ej e hji (fun hm => by rw [ancI _ hm] at hlj; cases hlj) hoj hao hej he
    have behind : ∀ j oj ej, m < j → listed.getD (lo + j) false = true → os[lo + j]? = some oj → es[j]? = some ej → Ind ao oj e ej := by
      intro j oj ej hij hlj hoj hej
      have hj : lo + j < ops.size := by rw [← hol]; exact (List.getElem?_eq_some_iff.1 hoj).1
      exact hind m j ao oj e ej hij (fun hm => by rw [anc _ hj hlj _ hm] at hb; cases hb) hao hoj he hej
    have osget : ∀ (j : Nat) (ej : Eff), es[j]? = some ej → ∃ oj : AO, os[lo + j]? = some oj ∧ ej.d = oj.d := by
      intro j ej hej
      have hj := (List.getElem?_eq_some_iff.1 hej).1
      obtain ⟨oj, hoj⟩ : ∃ oj, os[lo + j]? = some oj := ⟨os[lo + j]'(by omega), by simp [show lo + j < os.length by omega]⟩
      exact ⟨oj, hoj, (hp.ok j oj ej ((how j (by omega)).trans hoj) hej).1⟩
    have mask : ∀ j, j ≠ m → (listed.getD (lo + j) false = (decide (lo + j < lo + m)) ∨ (j < m ∧ listed.getD (lo + j) false = false) ∨ (m < j ∧ listed.getD (lo + j) false = true)) := by
      intro j hj
      rcases Nat.lt_or_ge j m with hlt | hge
      · cases hl : listed.getD (lo + j) false with
        | true => left; simp; omega
        | false => right; left; exact ⟨hlt, rfl⟩
      · cases hl : listed.getD (lo + j) false with
        | true => right; right; exact ⟨by omega, rfl⟩
        | false => left; simp; omega
    have hTagree : ∀ t ∈ looks ao, GF (fun i => listed.getD i false) lo (tks es) T0 t = FF ((tks es).take m) T0 t := by
      intro t ht
      rw [← GF_take (tks es) lo m T0]
      refine GF_congr_at _ lo T0 T0 rfl (fun j l hl => ?_)
      by_cases hji : j = m
      · subst hji; left; rw [hb]; simp
      · simp only [tks, List.getElem?_map, Option.map_eq_some_iff] at hl
        obtain ⟨ej, hej, rfl⟩ := hl
        obtain ⟨oj, hoj, hdj⟩ := osget j ej hej
        rw [keys_tk, hdj]
        rcases mask j hji with h' | ⟨h', hl'⟩ | ⟨h', hl'⟩
        · left; simpa using h'
        · right; intro hm; exact (ahead j oj ej h' hl' hoj hej).dl t hm ht
        · right; intro hm; exact (behind j oj ej h' hl' hoj hej).ld t hm ht
    have hHagree : ∀ r ∈ e.rd, GF (fun i => listed.getD i false) lo (uss es) H0 r = FF ((uss es).take m) H0 r := by
      intro r hr
      rw [← GF_take (uss es) lo m H0]
      refine GF_congr_at _ lo H0 H0 rfl (fun j l hl => ?_)
      by_cases hji : j = m
      · subst hji; left; rw [hb]; simp
      · simp only [uss, List.getElem?_map, Option.map_eq_some_iff] at hl
        obtain ⟨ej, hej, rfl⟩ := hl
        obtain ⟨oj, hoj, hdj⟩ := osget j ej hej
        rcases mask j hji with h' | ⟨h', hl'⟩ | ⟨h', hl'⟩
        · left; simpa using h'
        · right; intro hm; exact (ahead j oj ej h' hl' hoj hej).ur r hm hr
        · right; intro hm; exact (behind j oj ej h' hl' hoj hej).ru r hm hr
    have hok := eff_congr hTagree (by rw [← p3]; exact hHagree) p2
    -- the state behind it
    have hbset : (fun q => (listed.setIfInBounds (lo + m) true).getD q false) = setB (fun q => listed.getD q false) (lo + m) := by
      funext q
      simp only [setB]
      by_cases hq : q = lo + m
      · subst hq; simp [Array.getD_eq_getD_getElem?, Array.getElem?_setIfInBounds, hil]
      · rw [if_neg hq, getD_set_ne false (fun e => hq e.symm)]
    have hT' : GF (fun q => (listed.setIfInBounds (lo + m) true).getD q false) lo (tks es) T0 = putF (GF (fun q => listed.getD q false) lo (tks es) T0) e.d e.v := by
      rw [hbset, putF_ups]
      exact GF_set (b := fun q => listed.getD q false) (m := tk e.d e.v) (tks es) lo m T0 (by simp [tks, he]) hb (fun j l hij hl hlj => by
        simp only [tks, List.getElem?_map, Option.map_eq_some_iff] at hl
        obtain ⟨ej, hej, rfl⟩ := hl
        obtain ⟨oj, hoj, hdj⟩ := osget j ej hej
        rw [keys_tk, keys_tk, p1, hdj]
        exact (behind j oj ej hij hlj hoj hej).dd)
    have hH' : GF (fun q => (listed.setIfInBounds (lo + m) true).getD q false) lo (uss es) H0 = upd (GF (fun q => listed.getD q false) lo (uss es) H0) e.u := by
      rw [hbset, upd_ups]
      exact GF_set (b := fun q => listed.getD q false) (m := e.u) (uss es) lo m H0 (by simp [uss, he]) hb (fun j l hij hl hlj => by
        simp only [uss, List.getElem?_map, Option.map_eq_some_iff] at hl
        obtain ⟨ej, hej, rfl⟩ := hl
        obtain ⟨oj, hoj, hdj⟩ := osget j ej hej
        exact (behind j oj ej hij hlj hoj hej).uu)
    have hbs : ∀ q, (listed.setIfInBounds (lo + m) true).getD q false = setB (fun q => listed.getD q false) (lo + m) q := fun q => congrFun hbset q
    have hN' : ∀ r, NN es nr0 (fun q => (listed.setIfInBounds (lo + m) true).getD (lo + q) false) r → less (NN es nr0 fun q => listed.getD (lo + q) false) e.nr e.k r := by
      intro r hr
      refine ⟨⟨hr.1, fun j ej hej hbj => hr.2 j ej hej ?_⟩, ?_⟩
      · show (listed.setIfInBounds (lo + m) true).getD (lo + j) false = true
        rw [hbs]
        simp only [setB]; split; rfl; exact hbj
      · refine hr.2 m e he ?_
        show (listed.setIfInBounds (lo + m) true).getD (lo + m) false = true
        rw [hbs]; simp [setB]
    have hNin : ∀ r, e.nr ≤ r → r < e.nr + e.k → NN es nr0 (fun q => listed.getD (lo + q) false) r := by
      intro r h1 h2
      refine ⟨Nat.le_trans (hp.lo m e he) h1, fun j ej hej hbj hh => ?_⟩
      rcases Nat.lt_trichotomy m j with hij | hij | hij
      · have := hp.nrs m j e ej hij he hej; omega
      · subst hij; have hbj2 : listed.getD (lo + m) false = true := hbj; rw [hb] at hbj2; cases hbj2
      · have := hp.nrs j m ej e hij hej he; omega
    have hcnt' : (List.range ops.size).countP (fun q => !(listed.setIfInBounds (lo + m) true).getD q false) ≤ fuel := by
      have hlt : (List.range ops.size).countP (fun q => !(listed.setIfInBounds (lo + m) true).getD q false) < (List.range ops.size).countP (fun q => !listed.getD q false) := by
        simp only [hbs]
        have key : ∀ (l : List Nat), l.countP (fun q => !setB (fun q => listed.getD q false) (lo + m) q) ≤ l.countP (fun q => !listed.getD q false) ∧ ((lo + m) ∈ l → l.countP (fun q => !setB (fun q => listed.getD q false) (lo + m) q) < l.countP (fun q => !listed.getD q false)) := by
          intro l
          induction l with
          | nil => simp
          | cons x xs ihx =>
            simp only [List.countP_cons]
            by_cases hx : x = lo + m
            · subst hx
              have h0 : setB (fun q => listed.getD q false) (lo + m) (lo + m) = true := by simp [setB]
              simp only [h0, hb, Bool.not_true, Bool.not_false, if_true, Bool.false_eq_true, if_false]
              exact ⟨by omega, fun _ => by omega⟩
            · have h0 : setB (fun q => listed.getD q false) (lo + m) x = listed.getD x false := by simp [setB, hx]
              simp only [h0]
              refine ⟨by omega, fun hm => ?_⟩
              have := ihx.2 ((List.mem_cons.1 hm).resolve_left (fun e => hx e.symm))
              omega
        exact (key _).2 (List.mem_range.2 hio)
      omega
    have hcl' : ∀ (j : Nat) (o : Oper), ops[j]? = some o → (listed.setIfInBounds (lo + m) true).getD j false = true → ∀ q ∈ waits o, (listed.setIfInBounds (lo + m) true).getD q false = true := by
      intro j oj hoj hlj q hq
      by_cases hji : j = lo + m
      · subst hji
        rw [ho] at hoj; cases hoj
        exact getD_set_true (hwl q hq)
      · rw [getD_set_ne false (fun e => hji e.symm)] at hlj
        exact getD_set_true (hcl j oj hoj hlj q hq)
    have next : ∀ a' w', RT B c0 n (putF (GF (fun i => listed.getD i false) lo (tks es) T0) o.dst e.v) (upd (GF (fun i => listed.getD i false) lo (uss es) H0) e.u) (less (NN es nr0 fun i => listed.getD (lo + i) false) e.nr e.k) a' w' → wpAny P .any ops Q fuel (listed.setIfInBounds (lo + m) true) a' w' := by
      intro a' w' hRT
      refine ih _ a' w' (by simpa using hls) hcl' (fun j hj => getD_set_true (hl1 j hj)) (fun j hj hj2 => by rw [getD_set_ne false (by omega)]; exact hl2 j hj hj2) ?_ hcnt'
      rw [hT', hH', p1, e1]
      exact hRT.weak hN'
    unfold wpOp
    simp only [ho]
    have hwant := wanted_of h e2
    unfold EffOK at hok
    cases hg : ao.g with
    | none =>
      rw [hg] at hok hwant
      rw [show Region.wanted o (yielded ops a.tmps) = true from hwant]
      simp only [if_true]
      exact .inl (op_wp h e3 e4 hok hNin next)
    | some tb =>
      obtain ⟨t, b⟩ := tb
      rw [hg] at hok hwant
      obtain ⟨c, hc, hy, hn⟩ := hok
      rw [show Region.wanted o (yielded ops a.tmps) = c from hwant c hc]
      by_cases hcb : c = true
      · subst hcb
        simp only [if_true]
        exact .inl (op_wp h e3 e4 (hy rfl) hNin next)
      · have : c = false := by simpa using hcb
        simp only [this, Bool.false_eq_true, if_false]
        obtain ⟨h1, h2, h3⟩ := hn hcb
        refine next _ _ ?_
        rw [h1, h2, h3]
        exact (h.skip e4).weak (fun r hr => hr.1)
end
def barB (A : List (List Nat)) (k n : Nat) : Bool := (List.range k).all (fun i => (A.getD k []).contains i) && (List.range n).all (fun j => decide (j ≤ k) || (List.range (k + 1)).all fun i => (A.getD j []).contains i)
theorem barB_spec {A : List (List Nat)} {k n : Nat} (h : barB A k n = true) : (∀ i, i < k → i ∈ A.getD k []) ∧ ∀ j, k < j → j < n → ∀ i, i ≤ k → i ∈ A.getD j [] := by
  unfold barB at h
  simp only [Bool.and_eq_true, List.all_eq_true, List.mem_range, Bool.or_eq_true, decide_eq_true_eq, List.contains_iff_mem] at h
  refine ⟨h.1, fun j hj hn i hi => ?_⟩
  rcases h.2 j hn with h2 | h2
  · omega
  · exact h2 i (by omega)
def shA (m : Nat) (A : List (List Nat)) : List (List Nat) := (A.drop m).map fun l => (l.filter fun x => decide (m ≤ x)).map (· - m)
theorem shA_spec {m i j : Nat} {A : List (List Nat)} (h : m + i ∉ A.getD (m + j) []) : i ∉ (shA m A).getD j [] := by
  intro hc
  refine h ?_
  unfold shA at hc
  rw [List.getD_eq_getElem?_getD, List.getElem?_map, List.getElem?_drop] at hc
  rw [List.getD_eq_getElem?_getD]
  cases e : A[m + j]? with
  | none => rw [e] at hc; simp at hc
  | some l =>
    rw [e] at hc
    simp only [Option.map_some, Option.getD_some, List.mem_map, List.mem_filter, decide_eq_true_eq] at hc
    obtain ⟨x, ⟨h1, h2⟩, h3⟩ := hc
    simp only [Option.getD_some]
    rwa [show m + i = x by omega]
def wpB (P : Program) (A : List (List Nat)) (os : List AO) (k : Nat) (s : St) (Q : St → Prop) : Prop :=
  barB A k os.length = true ∧ ∃ o, os[k]? = some o ∧ o.g = none ∧
    wpDr P (os.take k) s [] fun s1 ef1 => hok A ef1 ∧ stepA P o.op s1 fun v h nr =>
      wpDr P (os.drop (k + 1)) { t := (St.put s1 o.d v).t, h := h, nr := nr } [] fun s2 ef2 => hok (shA (k + 1) A) ef2 ∧ Q s2
theorem GF_none {α : Type} {b : Nat → Bool} : ∀ (ls : List (List (Nat × α))) (k : Nat) (F : Nat → α), (∀ j, j < ls.length → b (k + j) = false) → GF b k ls F = F
  | [], _, _, _ => rfl
  | l :: ls, k, F, h => by
    have h0 := h 0 (by simp)
    rw [Nat.add_zero] at h0
    unfold GF
    rw [h0, if_neg (by simp)]
    exact GF_none ls (k + 1) F (fun j hj => by have := h (j + 1) (by simp; omega); rwa [show k + 1 + j = k + (j + 1) by omega])
theorem cnt_set {N i : Nat} {listed : Array Bool} (hi : i < N) (hil : i < listed.size) (hb : listed.getD i false = false) : (List.range N).countP (fun q => !(listed.setIfInBounds i true).getD q false) < (List.range N).countP (fun q => !listed.getD q false) := by
  have hbs : ∀ q, (listed.setIfInBounds i true).getD q false = setB (fun q => listed.getD q false) i q := by
    intro q
    simp only [setB]
    by_cases hq : q = i
    · subst hq; simp [Array.getD_eq_getD_getElem?, Array.getElem?_setIfInBounds, hil]
    · rw [if_neg hq, getD_set_ne false (fun e => hq e.symm)]
  simp only [hbs]
  have key : ∀ (l : List Nat), l.countP (fun q => !setB (fun q => listed.getD q false) i q) ≤ l.countP (fun q => !listed.getD q false) ∧ (i ∈ l → l.countP (fun q => !setB (fun q => listed.getD q false) i q) < l.countP (fun q => !listed.getD q false)) := by
    intro l
    induction l with
    | nil => simp
    | cons x xs ihx =>
      simp only [List.countP_cons]
      by_cases hx : x = i
      · subst hx
        have h0 : setB (fun q => listed.getD q false) x x = true := by simp [setB]
        simp only [h0, hb, Bool.not_true, Bool.not_false, if_true, Bool.false_eq_true, if_false]
        exact ⟨by omega, fun _ => by omega⟩
      · have h0 : setB (fun q => listed.getD q false) i x = listed.getD x false := by simp [setB, hx]
        simp only [h0]
        refine ⟨by omega, fun hm => ?_⟩
        have := ihx.2 ((List.mem_cons.1 hm).resolve_left (fun e => hx e.symm))
        omega
  exact (key _).2 (List.mem_range.2 hi)
section
variable {P : Program} {B : Nat} {c0 : Cx} {n : Nat}
theorem wpB_sound (hm : P.follows .mixedOrders = true) {id : Nat} {ops : Array Oper} {os : List AO} {A : List (List Nat)} (hos : compOpers P n ops ops.toList = some os) (hck : chkW (ops.toList.map waits) A = true) (hst : statB os A = true) {k : Nat}
    {s : St} {Q' : St → Prop} {Q : Exit → Act → World → Prop} {a : Act} {w : World} (hw : wpB P A os k s Q') (hs : RS B c0 n s a w) (hQ : ∀ s a w, Q' s → RS B c0 n s a w → Q .normal a w) : (Code.region id ops true).wp P Q a w := by
  refine wp_region_any hm ?_
  obtain ⟨hbar, o, ho, hg, hw⟩ := hw
  obtain ⟨hlen, hget⟩ := compOpers_get ops.toList os hos
  have hol : os.length = ops.size := by rw [hlen]; simp
  have hk : k < ops.size := by rw [← hol]; exact (List.getElem?_eq_some_iff.1 ho).1
  obtain ⟨bar1, bar2⟩ := barB_spec hbar
  rw [hol] at bar2
  obtain ⟨es1, s1, hp1, hok1, hstep⟩ := wpDr_plan (os.take k) s [] hw
  obtain ⟨plan1, q1, q2, q3, q4⟩ := hp1.plan
  have hck' := List.all_eq_true.1 hck
  have ck : ∀ (j : Nat) (o : Oper), ops[j]? = some o → (∀ i ∈ waits o, i < j) ∧ ∀ i ∈ A.getD j [], i ∈ waits o ∨ ∃ k ∈ waits o, i ∈ A.getD k [] := by
    intro j o ho
    have hj := (Array.getElem?_eq_some_iff.1 ho).1
    have h0 := hck' j (List.mem_range.2 (by simpa using hj))
    have hwj : (ops.toList.map waits).getD j [] = waits o := by simp [List.getD_eq_getElem?_getD, ho]
    rw [hwj] at h0
    simp only [Bool.and_eq_true, List.all_eq_true, decide_eq_true_eq, Bool.or_eq_true, List.any_eq_true, List.contains_iff_mem] at h0
    exact h0
  have stat : ∀ (i j : Nat) (o o' : AO), i < j → i ∉ A.getD j [] → os[i]? = some o → os[j]? = some o' → Dj o.d.toList o'.d.toList ∧ Dj o.d.toList (looks o') ∧ Dj o'.d.toList (looks o) := by
    intro i j o o' hij hA hoi hoj
    have hj := (List.getElem?_eq_some_iff.1 hoj).1
    have h1 := List.all_eq_true.1 (List.all_eq_true.1 hst j (List.mem_range.2 hj)) i (List.mem_range.2 hij)
    rw [hoi, hoj] at h1
    simp only [Bool.or_eq_true, Bool.and_eq_true] at h1
    have h2 := h1.resolve_left (fun hc => hA (by simpa using hc))
    exact ⟨djB_spec h2.1.1, djB_spec h2.1.2, djB_spec h2.2⟩
  have hlt : ∀ (j : Nat), j < ops.size → ∀ i ∈ A.getD j [], i < j := by
    intro j
    induction j using Nat.strongRecOn with
    | _ j ihj =>
      intro hj i hi
      rcases (ck j ops[j] (by simp [hj])).2 i hi with h' | ⟨q, hq, hiq⟩
      · exact (ck j ops[j] (by simp [hj])).1 i h'
      · have := (ck j ops[j] (by simp [hj])).1 q hq
        have := ihj q this (by omega) i hiq
        omega
  have hlist : ∀ i, (Array.replicate ops.size false).getD i false = false := by intro i; simp [Array.getD_eq_getD_getElem?, Array.getElem?_replicate]; split <;> rfl
  have hel1 : es1.length = k := by rw [plan1.len, List.length_take]; omega
  refine win_sound (c0 := c0) (B := B) hos (Nat.zero_le k) (by omega) (ow := os.take k) (fun i hi => by rw [List.getElem?_take, if_pos (by omega), Nat.zero_add]) (by rw [hel1]; rfl) plan1 (A := fun j => A.getD j []) (fun j o ho => (ck j o ho).1) (fun j o ho => (ck j o ho).2) ?_ ?_ ?_ ops.size _ a _ (by simp) ?_ (fun i hi => absurd hi (Nat.not_lt_zero i)) (fun i _ _ => hlist i) ?_ ?_
  · intro i j o o' e e' hij hA hoi hoj hei hej
    rw [Nat.zero_add] at hA hoi hoj
    rw [Nat.zero_add] at hA
    obtain ⟨d1, d2, d3⟩ := stat i j o o' hij hA hoi hoj
    have h3 := hok1 i j (e.u.map (·.1), e.rd) (e'.u.map (·.1), e'.rd) hij hA (by simp [hei]) (by simp [hej])
    exact ⟨d1, d2, d3, h3.1, h3.2.1, h3.2.2⟩
  · intro j hj hj2 i hi
    rcases Nat.lt_or_ge k j with g | g
    · exact bar2 j g hj2 i (by omega)
    · obtain rfl : j = k := by omega
      exact bar1 i hi
  · intro fuel listed a1 w1 hls hl hRT hcnt
    have hRS : RS B c0 n s1 a1 w1 := by
      show RT B c0 n (lk s1.t) (Ab.hg s1.h) (frm s1.nr) a1 w1
      rw [q1, q2]
      refine hRT.weak (fun r hr => ⟨Nat.le_trans q3 hr, fun j e hj _ hh => ?_⟩)
      have := q4 j e hj
      have : s1.nr ≤ r := hr
      omega
    have hkf : listed.getD k false = false := by rw [hl k hk]; simp
    cases fuel with
    | zero =>
      have h0 := List.countP_eq_zero.1 (Nat.le_zero.1 hcnt) k (List.mem_range.2 hk)
      rw [hkf] at h0
      exact absurd rfl h0
    | succ fuel =>
      have hks : k < listed.size := by omega
      have unl : ∀ i, i < listed.size → listed.getD i true = false → listed.getD i false = false := by
        intro i hi h1
        rw [Array.getD_eq_getD_getElem?, Array.getElem?_eq_getElem hi] at h1 ⊢
        simpa using h1
      refine ⟨fun hr => ?_, fun i hi' => ?_⟩
      · exfalso
        have : k ∈ Region.ready .any ops listed := by
          rw [mem_ready]
          refine ⟨?_, ops[k], by simp [hk], fun e he hbd => ?_⟩
          · have hb := hkf
            rw [Array.getD_eq_getD_getElem?] at hb ⊢
            simp only [Array.getElem?_eq_getElem hks, Option.getD_some] at hb ⊢
            exact hb
          · have hmem : e.on ∈ waits ops[k] := by
              unfold waits
              exact List.mem_map.2 ⟨e, List.mem_filter.2 ⟨by simpa using he, hbd⟩, rfl⟩
            have hlt2 := (ck k ops[k] (by simp [hk])).1 e.on hmem
            rw [hl e.on (by omega)]; simp [hlt2]
        rw [hr] at this
        cases this
      · obtain ⟨h1, oo, hoo, hready⟩ := mem_ready.1 hi'
        have hio := (Array.getElem?_eq_some_iff.1 hoo).1
        have hb := unl i (by omega) h1
        have hki : k ≤ i := by
          refine Nat.le_of_not_lt fun hc => ?_
          rw [hl i hio] at hb
          simp at hb; omega
        obtain rfl : i = k := by
          refine Nat.le_antisymm (Nat.le_of_not_lt fun hc => ?_) hki
          have hwl : ∀ q ∈ waits oo, q < k := by
            intro q hq
            have hqi := (ck i oo hoo).1 q hq
            unfold waits at hq
            obtain ⟨ed, hed, rfl⟩ := List.mem_map.1 hq
            obtain ⟨m1, m2⟩ := List.mem_filter.1 hed
            have := hready ed (by simpa using m1) m2
            rw [hl ed.on (by omega)] at this
            simpa using this
          rcases (ck i oo hoo).2 k (bar2 i hc hio k (Nat.le_refl k)) with h' | ⟨q, hq, hkq⟩
          · exact absurd (hwl k h') (Nat.lt_irrefl k)
          · have := hwl q hq
            have := hlt q (by omega) k hkq
            omega
        obtain ⟨ao, hao, hcomp⟩ := hget i oo (by simpa using hoo)
        rw [ho] at hao
        cases hao
        obtain ⟨e1, e2, e3, e4⟩ := compOper_inv hcomp
        unfold wpOp
        simp only [hoo]
        have hwant := wanted_of hRS e2
        rw [hg] at hwant
        rw [show Region.wanted oo (yielded ops a1.tmps) = true from hwant]
        simp only [if_true]
        refine .inl (step_wp hRS e3 e4 hstep (fun v h nr a' w' hK2 hRS2 => ?_))
        obtain ⟨es2, s2, hp2, hok2, hQ2⟩ := wpDr_plan _ _ _ hK2
        obtain ⟨plan2, r1, r2, r3, r4⟩ := hp2.plan
        simp only at plan2 r1 r2 r3
        rw [← e1] at hRS2
        have hel2 : es2.length = ops.size - (i + 1) := by rw [plan2.len, List.length_drop]; omega
        have hset : ∀ q, q < ops.size → (listed.setIfInBounds i true).getD q false = decide (q < i + 1) := by
          intro q hq
          by_cases e : q = i
          · subst e; simp [Array.getD_eq_getD_getElem?, Array.getElem?_setIfInBounds, hks]
          · rw [getD_set_ne false (fun e' => e e'.symm), hl q hq]
            congr 1
            exact propext ⟨fun _ => by omega, fun _ => by omega⟩
        have hset2 : ∀ q, i + 1 ≤ q → (listed.setIfInBounds i true).getD q false = false := by
          intro q hq
          by_cases g : q < ops.size
          · rw [hset q g]; simp; omega
          · rw [Array.getD_eq_getD_getElem?, Array.getElem?_eq_none (by simp; omega)]; rfl
        refine win_sound (c0 := c0) (B := B) hos (lo := i + 1) (hi := ops.size) (by omega) (Nat.le_refl _) (ow := os.drop (i + 1)) (fun j hj => by rw [List.getElem?_drop]) hel2 plan2 (A := fun j => A.getD j []) (fun j o ho => (ck j o ho).1) (fun j o ho => (ck j o ho).2) ?_ (fun j h1 h2 => absurd h2 (by omega)) ?_ fuel _ a' w' (by simpa using hls) ?_ (fun q hq => by rw [hset q (by omega)]; simp [hq]) (fun q h1 h2 => by omega) ?_ ?_
        · intro p j o o' e e' hij hA hoi hoj hei hej
          obtain ⟨d1, d2, d3⟩ := stat _ _ o o' (by omega) hA hoi hoj
          have h3 := hok2 p j (e.u.map (·.1), e.rd) (e'.u.map (·.1), e'.rd) hij (shA_spec hA) (by simp [hei]) (by simp [hej])
          exact ⟨d1, d2, d3, h3.1, h3.2.1, h3.2.2⟩
        · intro fuel2 listed2 a2 w2 hls2 hl2 hRT2 hcnt2
          have hQn : Q .normal a2 w2 := by
            refine hQ s2 a2 w2 hQ2 ?_
            show RT B c0 n (lk s2.t) (Ab.hg s2.h) (frm s2.nr) a2 w2
            rw [r1, r2]
            refine hRT2.weak (fun r hr => ⟨Nat.le_trans r3 hr, fun j e hj _ hh => ?_⟩)
            have := r4 j e hj
            have : s2.nr ≤ r := hr
            omega
          have nor : ∀ q, q ∉ Region.ready .any ops listed2 := by
            intro q hq
            obtain ⟨g1, o2, g2, _⟩ := mem_ready.1 hq
            have g3 := (Array.getElem?_eq_some_iff.1 g2).1
            have g4 := hl2 q g3
            have : q < listed2.size := by omega
            rw [Array.getD_eq_getD_getElem?, Array.getElem?_eq_getElem this] at g1 g4
            simp only [Option.getD_some] at g1 g4
            rw [g1] at g4
            simp at g4; omega
          cases fuel2 with
          | zero => exact ⟨List.eq_nil_iff_forall_not_mem.2 nor, hQn⟩
          | succ f => exact ⟨fun _ => hQn, fun q hq => absurd hq (nor q)⟩
        · intro j oj hoj hlj q hq
          have hj := (Array.getElem?_eq_some_iff.1 hoj).1
          have hqj := (ck j oj hoj).1 q hq
          rw [hset j hj] at hlj
          rw [hset q (by omega)]
          simp at hlj ⊢
          omega
        · rw [GF_none _ _ _ (fun j _ => hset2 _ (by omega)), GF_none _ _ _ (fun j _ => hset2 _ (by omega))]
          exact RT.weak hRS2 (fun r hr => hr.1)
        · have := cnt_set (N := ops.size) hk hks hkf
          omega
  · intro j o ho hl
    rw [hlist] at hl; cases hl
  · rw [GF_none _ _ _ (fun j _ => hlist _), GF_none _ _ _ (fun j _ => hlist _)]
    exact (RT.drew hs).weak (fun r hr => hr.1)
  · have : (List.range ops.size).countP (fun i => !(Array.replicate ops.size false).getD i false) ≤ (List.range ops.size).length := List.countP_le_length
    simpa using this
end
section
variable {P : Program} {B : Nat} {c0 : Cx} {n : Nat}
/-- What comes behind the barrier. -/
theorem tail_sound {ops : Array Oper} {os : List AO} {A : List (List Nat)} (hos : compOpers P n ops ops.toList = some os) (hck : chkW (ops.toList.map waits) A = true) (hst : statB os A = true) {k : Nat} (hk : k < ops.size)
    {s2 : St} {Q' : St → Prop} {Q : Exit → Act → World → Prop} (hQ : ∀ s a w, Q' s → RS B c0 n s a w → Q .normal a w) (hK2 : wpDr P (os.drop (k + 1)) s2 [] fun s3 ef2 => hok (shA (k + 1) A) ef2 ∧ Q' s3) {a : Act} {w : World} (hRS2 : RS B c0 n s2 a w)
    {listed : Array Bool} (hls : listed.size = ops.size) (hset : ∀ q, q < ops.size → listed.getD q false = decide (q < k + 1)) {fuel : Nat} (hcnt : (List.range ops.size).countP (fun i => !listed.getD i false) ≤ fuel) : wpAny P .any ops Q fuel listed a w := by
  obtain ⟨hlen, hget⟩ := compOpers_get ops.toList os hos
  have hol : os.length = ops.size := by rw [hlen]; simp
  have hck' := List.all_eq_true.1 hck
  have ck : ∀ (j : Nat) (o : Oper), ops[j]? = some o → (∀ i ∈ waits o, i < j) ∧ ∀ i ∈ A.getD j [], i ∈ waits o ∨ ∃ k ∈ waits o, i ∈ A.getD k [] := by
    intro j o ho
    have hj := (Array.getElem?_eq_some_iff.1 ho).1
    have h0 := hck' j (List.mem_range.2 (by simpa using hj))
    have hwj : (ops.toList.map waits).getD j [] = waits o := by simp [List.getD_eq_getElem?_getD, ho]
    rw [hwj] at h0
    simp only [Bool.and_eq_true, List.all_eq_true, decide_eq_true_eq, Bool.or_eq_true, List.any_eq_true, List.contains_iff_mem] at h0
    exact h0
  have stat : ∀ (i j : Nat) (o o' : AO), i < j → i ∉ A.getD j [] → os[i]? = some o → os[j]? = some o' → Dj o.d.toList o'.d.toList ∧ Dj o.d.toList (looks o') ∧ Dj o'.d.toList (looks o) := by
    intro i j o o' hij hA hoi hoj
    have hj := (List.getElem?_eq_some_iff.1 hoj).1
    have h1 := List.all_eq_true.1 (List.all_eq_true.1 hst j (List.mem_range.2 hj)) i (List.mem_range.2 hij)
    rw [hoi, hoj] at h1
    simp only [Bool.or_eq_true, Bool.and_eq_true] at h1
    have h2 := h1.resolve_left (fun hc => hA (by simpa using hc))
    exact ⟨djB_spec h2.1.1, djB_spec h2.1.2, djB_spec h2.2⟩
  have hlt : ∀ (j : Nat), j < ops.size → ∀ i ∈ A.getD j [], i < j := by
    intro j
    induction j using Nat.strongRecOn with
    | _ j ihj =>
      intro hj i hi
      rcases (ck j ops[j] (by simp [hj])).2 i hi with h' | ⟨q, hq, hiq⟩
      · exact (ck j ops[j] (by simp [hj])).1 i h'
      · have := (ck j ops[j] (by simp [hj])).1 q hq
        have := ihj q this (by omega) i hiq
        omega
  obtain ⟨es2, s3, hp2, hok2, hQ2⟩ := wpDr_plan _ _ _ hK2
  obtain ⟨plan2, r1, r2, r3, r4⟩ := hp2.plan
  have hel2 : es2.length = ops.size - (k + 1) := by rw [plan2.len, List.length_drop]; omega
  have hset2 : ∀ q, k + 1 ≤ q → listed.getD q false = false := by
    intro q hq
    by_cases g : q < ops.size
    · rw [hset q g]; simp; omega
    · rw [Array.getD_eq_getD_getElem?, Array.getElem?_eq_none (by omega)]; rfl
  refine win_sound (c0 := c0) (B := B) hos (lo := k + 1) (hi := ops.size) (by omega) (Nat.le_refl _) (ow := os.drop (k + 1)) (fun j hj => by rw [List.getElem?_drop]) hel2 plan2 (A := fun j => A.getD j []) (fun j o ho => (ck j o ho).1) (fun j o ho => (ck j o ho).2) ?_ (fun j h1 h2 => absurd h2 (by omega)) ?_ fuel _ a w hls ?_ (fun q hq => by rw [hset q (by omega)]; simp [hq]) (fun q h1 h2 => by omega) ?_ ?_
  · intro p j o o' e e' hij hA hoi hoj hei hej
    obtain ⟨d1, d2, d3⟩ := stat _ _ o o' (by omega) hA hoi hoj
    have h3 := hok2 p j (e.u.map (·.1), e.rd) (e'.u.map (·.1), e'.rd) hij (shA_spec hA) (by simp [hei]) (by simp [hej])
    exact ⟨d1, d2, d3, h3.1, h3.2.1, h3.2.2⟩
  · intro fuel2 listed2 a2 w2 hls2 hl2 hRT2 hcnt2
    have hQn : Q .normal a2 w2 := by
      refine hQ s3 a2 w2 hQ2 ?_
      show RT B c0 n (lk s3.t) (Ab.hg s3.h) (frm s3.nr) a2 w2
      rw [r1, r2]
      refine hRT2.weak (fun r hr => ⟨Nat.le_trans r3 hr, fun j e hj _ hh => ?_⟩)
      have := r4 j e hj
      have : s3.nr ≤ r := hr
      omega
    have nor : ∀ q, q ∉ Region.ready .any ops listed2 := by
      intro q hq
      obtain ⟨g1, o2, g2, _⟩ := mem_ready.1 hq
      have g3 := (Array.getElem?_eq_some_iff.1 g2).1
      have g4 := hl2 q g3
      have : q < listed2.size := by omega
      rw [Array.getD_eq_getD_getElem?, Array.getElem?_eq_getElem this] at g1 g4
      simp only [Option.getD_some] at g1 g4
      rw [g1] at g4
      simp at g4; omega
    cases fuel2 with
    | zero => exact ⟨List.eq_nil_iff_forall_not_mem.2 nor, hQn⟩
    | succ f => exact ⟨fun _ => hQn, fun q hq => absurd hq (nor q)⟩
  · intro j oj hoj hlj q hq
    have hj := (Array.getElem?_eq_some_iff.1 hoj).1
    have hqj := (ck j oj hoj).1 q hq
    rw [hset j hj] at hlj
    rw [hset q (by omega)]
    simp at hlj ⊢
    omega
  · rw [GF_none _ _ _ (fun j _ => hset2 _ (by omega)), GF_none _ _ _ (fun j _ => hset2 _ (by omega))]
    exact RT.weak hRS2 (fun r hr => hr.1)
  · exact hcnt
/-- The first operation need not wait with the others; all else ahead of k is ahead of it, and all behind it is behind it and behind the first. -/
def barF (A : List (List Nat)) (k n : Nat) : Bool := decide (0 < k) && (List.range k).all (fun i => decide (i = 0) || (A.getD k []).contains i) && (List.range n).all (fun j => decide (j ≤ k) || (List.range (k + 1)).all fun i => (A.getD j []).contains i)
theorem barF_spec {A : List (List Nat)} {k n : Nat} (h : barF A k n = true) : 0 < k ∧ (∀ i, 0 < i → i < k → i ∈ A.getD k []) ∧ ∀ j, k < j → j < n → ∀ i, i ≤ k → i ∈ A.getD j [] := by
  simp only [barF, Bool.and_eq_true, List.all_eq_true, List.mem_range, Bool.or_eq_true, decide_eq_true_eq, List.contains_iff_mem] at h
  obtain ⟨⟨h1, h2⟩, h3⟩ := h
  refine ⟨h1, fun i h0 hi => (h2 i hi).resolve_left (by omega), fun j hj hn i hi => ?_⟩
  exact (h3 j hn).resolve_left (by omega) i (by omega)
def wpF (P : Program) (A : List (List Nat)) (os : List AO) (k : Nat) (s : St) (Q : St → Prop) : Prop :=
  barF A k os.length = true ∧ ∃ (o0 o : AO) (d0 : Nat) (v0 : AV), os[0]? = some o0 ∧ os[k]? = some o ∧ o0.g = none ∧ o.g = none ∧ o0.d = some d0 ∧ ev (gT (lk s.t)) (hg s.h) s.nr o0.op = some (v0, [], 0) ∧
    wpDr P (os.take k) s [] fun s1 ef1 => hok A ef1 ∧ lk s1.t d0 = v0 ∧
      stepA P o.op s1 (fun v h nr => wpDr P (os.drop (k + 1)) { t := (St.put s1 o.d v).t, h := h, nr := nr } [] fun s2 ef2 => hok (shA (k + 1) A) ef2 ∧ Q s2) ∧
      stepA P o.op { t := (d0, lk s.t d0) :: s1.t, h := s1.h, nr := s1.nr } (fun v h nr => ev (gT (lk (St.put { t := (d0, lk s.t d0) :: s1.t, h := s1.h, nr := s1.nr } o.d v).t)) (hg h) nr o0.op = some (v0, [], 0) ∧
        wpDr P (os.drop (k + 1)) { t := (St.put s1 o.d v).t, h := h, nr := nr } [] fun s2 ef2 => hok (shA (k + 1) A) ef2 ∧ Q s2)
theorem res_ev {op : AOp} {T : Nat → AV} {H : Nat → Option Rows} {nr : Nat} {v v0 : AV} {u : List (Nat × Option Rows)} {k : Nat} (h : Res P op T H nr v u k) (he : ev (gT T) H nr op = some (v0, [], 0)) : v = v0 ∧ u = [] ∧ k = 0 := by
  unfold Res at h
  split at h
  · simp [ev] at he
  · simp [ev] at he
  · rw [he] at h
    simp only [Option.some.injEq, Prod.mk.injEq] at h
    exact ⟨h.1.symm, h.2.1.symm, h.2.2.symm⟩
theorem ev_res {op : AOp} {T : Nat → AV} {H : Nat → Option Rows} {nr : Nat} {v0 : AV} (he : ev (gT T) H nr op = some (v0, [], 0)) : Res P op T H nr v0 [] 0 := by
  unfold Res
  split
  · simp [ev] at he
  · simp [ev] at he
  · exact he
theorem put_lk (s : St) (d : Option Nat) (v : AV) (t : Nat) : lk (St.put s d v).t t = if d = some t then v else lk s.t t := by
  cases d with
  | none => simp [St.put]
  | some d =>
    simp only [St.put, lk, Option.some.injEq]
    by_cases h : t = d
    · subst h; simp
    · rw [if_neg h, if_neg (fun e => h e.symm)]
theorem wpF_sound (hm : P.follows .mixedOrders = true) {id : Nat} {ops : Array Oper} {os : List AO} {A : List (List Nat)} (hos : compOpers P n ops ops.toList = some os) (hck : chkW (ops.toList.map waits) A = true) (hst : statB os A = true) {k : Nat}
    {s : St} {Q' : St → Prop} {Q : Exit → Act → World → Prop} {a : Act} {w : World} (hw : wpF P A os k s Q') (hs : RS B c0 n s a w) (hQ : ∀ s a w, Q' s → RS B c0 n s a w → Q .normal a w) : (Code.region id ops true).wp P Q a w := by
  refine wp_region_any hm ?_
  obtain ⟨hbar, o0, o, d0, v0, ho0, ho, hg0, hg, hd0, hev0, hw⟩ := hw
  obtain ⟨hlen, hget⟩ := compOpers_get ops.toList os hos
  have hol : os.length = ops.size := by rw [hlen]; simp
  have hk : k < ops.size := by rw [← hol]; exact (List.getElem?_eq_some_iff.1 ho).1
  obtain ⟨hk0, bar1, bar2⟩ := barF_spec hbar
  rw [hol] at bar2
  obtain ⟨es1, s1, hp1, hok1, hv0, hstep, hstepC⟩ := wpDr_plan (os.take k) s [] hw
  obtain ⟨plan1, q1, q2, q3, q4⟩ := hp1.plan
  have hck' := List.all_eq_true.1 hck
  have ck : ∀ (j : Nat) (o : Oper), ops[j]? = some o → (∀ i ∈ waits o, i < j) ∧ ∀ i ∈ A.getD j [], i ∈ waits o ∨ ∃ k ∈ waits o, i ∈ A.getD k [] := by
    intro j o ho
    have hj := (Array.getElem?_eq_some_iff.1 ho).1
    have h0 := hck' j (List.mem_range.2 (by simpa using hj))
    have hwj : (ops.toList.map waits).getD j [] = waits o := by simp [List.getD_eq_getElem?_getD, ho]
    rw [hwj] at h0
    simp only [Bool.and_eq_true, List.all_eq_true, decide_eq_true_eq, Bool.or_eq_true, List.any_eq_true, List.contains_iff_mem] at h0
    exact h0
  have stat : ∀ (i j : Nat) (o o' : AO), i < j → i ∉ A.getD j [] → os[i]? = some o → os[j]? = some o' → Dj o.d.toList o'.d.toList ∧ Dj o.d.toList (looks o') ∧ Dj o'.d.toList (looks o) := by
    intro i j o o' hij hA hoi hoj
    have hj := (List.getElem?_eq_some_iff.1 hoj).1
    have h1 := List.all_eq_true.1 (List.all_eq_true.1 hst j (List.mem_range.2 hj)) i (List.mem_range.2 hij)
    rw [hoi, hoj] at h1
    simp only [Bool.or_eq_true, Bool.and_eq_true] at h1
    have h2 := h1.resolve_left (fun hc => hA (by simpa using hc))
    exact ⟨djB_spec h2.1.1, djB_spec h2.1.2, djB_spec h2.2⟩
  have hlt : ∀ (j : Nat), j < ops.size → ∀ i ∈ A.getD j [], i < j := by
    intro j
    induction j using Nat.strongRecOn with
    | _ j ihj =>
      intro hj i hi
      rcases (ck j ops[j] (by simp [hj])).2 i hi with h' | ⟨q, hq, hiq⟩
      · exact (ck j ops[j] (by simp [hj])).1 i h'
      · have := (ck j ops[j] (by simp [hj])).1 q hq
        have := ihj q this (by omega) i hiq
        omega
  have hlist : ∀ i, (Array.replicate ops.size false).getD i false = false := by intro i; simp [Array.getD_eq_getD_getElem?, Array.getElem?_replicate]; split <;> rfl
  have hel1 : es1.length = k := by rw [plan1.len, List.length_take]; omega
  -- the first effect
  obtain ⟨e0, he0⟩ : ∃ e0, es1[0]? = some e0 := ⟨es1[0]'(by omega), by simp [show 0 < es1.length by omega]⟩
  have hef : e0.d = some d0 ∧ e0.v = v0 ∧ e0.u = [] ∧ e0.k = 0 := by
    cases hes : es1 with
    | nil => rw [hes] at he0; simp at he0
    | cons e es =>
      rw [hes] at he0 hp1
      simp only [List.getElem?_cons_zero, Option.some.injEq] at he0
      subst he0
      cases hot : os.take k with
      | nil => rw [hot] at hp1; exact hp1.elim
      | cons oo oos =>
        rw [hot] at hp1
        have h0 : (os.take k)[0]? = some o0 := by rw [List.getElem?_take, if_pos hk0]; exact ho0
        rw [hot] at h0
        simp only [List.getElem?_cons_zero, Option.some.injEq] at h0
        subst h0
        obtain ⟨p1, p2, p3, p4, _⟩ := hp1
        unfold EffOK at p4
        rw [hg0] at p4
        simp only at p4
        rw [p2] at p4
        obtain ⟨r1, r2, r3⟩ := res_ev p4 hev0
        exact ⟨p1.trans hd0, r1, r2, r3⟩
  obtain ⟨f1, f2, f3, f4⟩ := hef
  have unl : ∀ (listed : Array Bool) i, i < listed.size → listed.getD i true = false → listed.getD i false = false := by
    intro listed i hi h1
    rw [Array.getD_eq_getD_getElem?, Array.getElem?_eq_getElem hi] at h1 ⊢
    simpa using h1
  refine win_gen (c0 := c0) (B := B) hos (Nat.zero_le k) (by omega) (ow := os.take k) (fun i hi => by rw [List.getElem?_take, if_pos (by omega), Nat.zero_add]) (by rw [hel1]; rfl) plan1 (A := fun j => A.getD j []) (fun j o ho => (ck j o ho).1) (fun j o ho => (ck j o ho).2) ?_ ?_ ?_ ops.size _ a _ (by simp) ?_ (fun i hi => absurd hi (Nat.not_lt_zero _)) (fun i h1 h2 => hlist _) ?_ ?_
  · intro i j o o' e e' hij hA hoi hoj hei hej
    rw [Nat.zero_add] at hA hoi hoj
    rw [Nat.zero_add] at hA
    obtain ⟨d1, d2, d3⟩ := stat i j o o' hij hA hoi hoj
    have h3 := hok1 i j (e.u.map (·.1), e.rd) (e'.u.map (·.1), e'.rd) hij hA (by simp [hei]) (by simp [hej])
    exact ⟨d1, d2, d3, h3.1, h3.2.1, h3.2.2⟩
  · -- the barrier runs ahead of the first operation
    intro fuel listed a1 w1 i i0 hls hcl hl2 hRT hcnt hki hi' anc hi0 hu0
    obtain ⟨h1, oo, hoo, hready⟩ := mem_ready.1 hi'
    have hio := (Array.getElem?_eq_some_iff.1 hoo).1
    have hik : i = k := by
      refine Nat.le_antisymm (Nat.le_of_not_lt fun hc => ?_) hki
      rw [anc i0 (bar2 i hc hio i0 (by omega))] at hu0; cases hu0
    subst hik
    have hz : listed.getD 0 false = false := by
      by_cases e : i0 = 0
      · rw [← e]; exact hu0
      · rw [anc i0 (bar1 i0 (by omega) hi0)] at hu0; cases hu0
    have hall : ∀ q, 0 < q → q < i → listed.getD q false = true := fun q g1 g2 => anc q (bar1 q g1 g2)
    have ancA : ∀ (j : Nat), j < ops.size → listed.getD j false = true → ∀ q ∈ A.getD j [], listed.getD q false = true := by
      intro j
      induction j using Nat.strongRecOn with
      | _ j ihj =>
        intro hj hlj q hq
        rcases (ck j ops[j] (by simp [hj])).2 q hq with h' | ⟨k', hk', hqk⟩
        · exact hcl j ops[j] (by simp [hj]) hlj q h'
        · have hkj := (ck j ops[j] (by simp [hj])).1 k' hk'
          exact ihj k' hkj (by omega) (hcl j ops[j] (by simp [hj]) hlj k' hk') q hqk
    have hA0 : ∀ q, 0 < q → q < i → 0 ∉ A.getD q [] := fun q g1 g2 hm => by
      rw [ancA q (by omega) (hall q g1 g2) 0 hm] at hz; cases hz
    have hA0i : 0 ∉ A.getD i [] := fun hm => by rw [anc 0 hm] at hz; cases hz
    have osg : ∀ (j : Nat) (ej : Eff), es1[j]? = some ej → ∃ oj : AO, os[j]? = some oj ∧ ej.d = oj.d ∧ j < i := by
      intro j ej hej
      have hj := (List.getElem?_eq_some_iff.1 hej).1
      obtain ⟨oj, hoj⟩ : ∃ oj, os[j]? = some oj := ⟨os[j]'(by omega), by simp [show j < os.length by omega]⟩
      exact ⟨oj, hoj, (plan1.ok j oj ej (by rw [List.getElem?_take, if_pos (by omega)]; exact hoj) hej).1, by omega⟩
    have mask : ∀ j ej, es1[j]? = some ej → j ≠ 0 → listed.getD (0 + j) false = decide (0 + j < 0 + es1.length) := by
      intro j ej hej hj
      obtain ⟨_, _, _, hji⟩ := osg j ej hej
      rw [Nat.zero_add, hall j (by omega) hji]
      simp; omega
    have hT : GF (fun q => listed.getD q false) 0 (tks es1) (lk s.t) = lk ((d0, lk s.t d0) :: s1.t) := by
      funext t
      by_cases ht : t = d0
      · subst ht
        rw [GF_congr_at (b' := fun _ => false) (tks es1) 0 (lk s.t) (lk s.t) rfl (fun j l hj => ?_), GF_none _ _ _ (fun _ _ => rfl)]
        · simp [lk]
        · simp only [tks, List.getElem?_map, Option.map_eq_some_iff] at hj
          obtain ⟨ej, hej, rfl⟩ := hj
          by_cases hj0 : j = 0
          · subst hj0; left; exact hz
          · right
            obtain ⟨oj, hoj, hdj, hji⟩ := osg j ej hej
            rw [keys_tk, hdj]
            exact (stat 0 j o0 oj (by omega) (hA0 j (by omega) hji) ho0 hoj).1 t (by rw [hd0]; simp)
      · have hr : lk ((d0, lk s.t d0) :: s1.t) t = lk s1.t t := by simp [lk, ht]
        rw [hr, q1]
        have h2 := GF_take (tks es1) 0 es1.length (lk s.t)
        rw [List.take_of_length_le (by simp [tks])] at h2
        rw [← h2]
        refine GF_congr_at _ 0 _ _ rfl (fun j l hj => ?_)
        simp only [tks, List.getElem?_map, Option.map_eq_some_iff] at hj
        obtain ⟨ej, hej, rfl⟩ := hj
        by_cases hj0 : j = 0
        · subst hj0
          rw [he0] at hej; cases hej
          right
          rw [keys_tk, f1]; simpa using ht
        · left; exact mask j ej hej hj0
    have hH : GF (fun q => listed.getD q false) 0 (uss es1) (Ab.hg s.h) = Ab.hg s1.h := by
      funext r
      rw [q2]
      have h2 := GF_take (uss es1) 0 es1.length (Ab.hg s.h)
      rw [List.take_of_length_le (by simp [uss])] at h2
      rw [← h2]
      refine GF_congr_at _ 0 _ _ rfl (fun j l hj => ?_)
      simp only [uss, List.getElem?_map, Option.map_eq_some_iff] at hj
      obtain ⟨ej, hej, rfl⟩ := hj
      by_cases hj0 : j = 0
      · subst hj0
        rw [he0] at hej; cases hej
        right
        rw [f3]; simp
      · left; exact mask j ej hej hj0
    have hRS : RS B c0 n { t := (d0, lk s.t d0) :: s1.t, h := s1.h, nr := s1.nr } a1 w1 := by
      show RT B c0 n (lk ((d0, lk s.t d0) :: s1.t)) (Ab.hg s1.h) (frm s1.nr) a1 w1
      rw [← hT, ← hH]
      refine hRT.weak (fun r hr => ⟨Nat.le_trans q3 hr, fun j e hj _ hh => ?_⟩)
      have := q4 j e hj
      have : s1.nr ≤ r := hr
      omega
    obtain ⟨ao, hao, hcomp⟩ := hget i oo (by simpa using hoo)
    rw [ho] at hao
    cases hao
    obtain ⟨e1, e2, e3, e4⟩ := compOper_inv hcomp
    have hks : i < listed.size := by omega
    have hkf : listed.getD i false = false := unl listed i hks h1
    unfold wpOp
    simp only [hoo]
    have hwant := wanted_of hRS e2
    rw [hg] at hwant
    rw [show Region.wanted oo (yielded ops a1.tmps) = true from hwant]
    simp only [if_true]
    refine .inl (step_wp hRS e3 e4 hstepC (fun v h nr a' w' hK2 hRS2 => ?_))
    obtain ⟨hev, hK3⟩ := hK2
    rw [← e1] at hRS2
    have hL : ∀ q, q < ops.size → (listed.setIfInBounds i true).getD q false = decide (0 < q ∧ q < i + 1) := by
      intro q hq
      by_cases e : q = i
      · subst e; simp [Array.getD_eq_getD_getElem?, Array.getElem?_setIfInBounds, hks]; omega
      · rw [getD_set_ne false (fun e' => e e'.symm)]
        by_cases g0 : q = 0
        · subst g0; rw [hz]; simp
        · by_cases g1 : q < i
          · rw [hall q (by omega) g1]; simp; omega
          · rw [hl2 q (by omega) hq]; simp; omega
    have hc2 := cnt_set (N := ops.size) hk hks hkf
    cases fuel with
    | zero =>
      have h0 := List.countP_eq_zero.1 (show (List.range ops.size).countP (fun q => !(listed.setIfInBounds i true).getD q false) = 0 by omega) 0 (List.mem_range.2 (by omega))
      rw [hL 0 (by omega)] at h0
      simp at h0
    | succ fuel =>
      have hks2 : 0 < (listed.setIfInBounds i true).size := by simp; omega
      refine ⟨fun hr => ?_, fun q hq => ?_⟩
      · exfalso
        have : 0 ∈ Region.ready .any ops (listed.setIfInBounds i true) := by
          rw [mem_ready]
          refine ⟨?_, ops[0], by simp <;> omega, fun e he hbd => ?_⟩
          · have hb := hL 0 (by omega)
            rw [Array.getD_eq_getD_getElem?] at hb ⊢
            simp only [Array.getElem?_eq_getElem hks2, Option.getD_some] at hb ⊢
            simpa using hb
          · have hmem : e.on ∈ waits ops[0] := by
              unfold waits
              exact List.mem_map.2 ⟨e, List.mem_filter.2 ⟨by simpa using he, hbd⟩, rfl⟩
            exact absurd ((ck 0 ops[0] (by simp <;> omega)).1 e.on hmem) (Nat.not_lt_zero _)
        rw [hr] at this
        cases this
      · obtain ⟨g1, o2, ho2, hready2⟩ := mem_ready.1 hq
        have hqo := (Array.getElem?_eq_some_iff.1 ho2).1
        have hqs : q < (listed.setIfInBounds i true).size := by simp; omega
        have hqb := unl _ q hqs g1
        rw [hL q hqo] at hqb
        have hwl : ∀ x ∈ waits o2, 0 < x ∧ x < i + 1 := by
          intro x hx
          have hxq := (ck q o2 ho2).1 x hx
          unfold waits at hx
          obtain ⟨ed, hed, rfl⟩ := List.mem_map.1 hx
          obtain ⟨m1, m2⟩ := List.mem_filter.1 hed
          have := hready2 ed (by simpa using m1) m2
          rw [hL ed.on (by omega)] at this
          simpa using this
        have hq0 : q = 0 := by
          refine Classical.byContradiction fun hne => ?_
          have hiq : i < q := by simp at hqb; omega
          rcases (ck q o2 ho2).2 0 (bar2 q hiq hqo 0 (by omega)) with h' | ⟨x, hx, h0x⟩
          · exact absurd (hwl 0 h').1 (Nat.lt_irrefl 0)
          · obtain ⟨x1, x2⟩ := hwl x hx
            by_cases hxi : x = i
            · subst hxi; exact hA0i h0x
            · exact hA0 x x1 (by omega) h0x
        subst hq0
        obtain ⟨ao0, hao0, hcomp0⟩ := hget 0 o2 (by simpa using ho2)
        rw [ho0] at hao0
        cases hao0
        obtain ⟨t1, t2, t3, t4⟩ := compOper_inv hcomp0
        unfold wpOp
        simp only [ho2]
        have hwant2 := wanted_of hRS2 t2
        rw [hg0] at hwant2
        rw [show Region.wanted o2 (yielded ops a'.tmps) = true from hwant2]
        simp only [if_true]
        refine .inl (op_wp hRS2 t3 t4 (ev_res hev) (fun r g1 g2 => absurd g2 (by omega)) (fun a2 w2 hRT3 => ?_))
        have hd := (stat 0 i o0 o hk0 hA0i ho0 ho).1
        have hTT : putF (lk (St.put { t := (d0, lk s.t d0) :: s1.t, h := s1.h, nr := s1.nr } o.d v).t) o2.dst v0 = lk (St.put s1 o.d v).t := by
          rw [← t1, hd0]
          funext t
          simp only [putF, put_lk]
          by_cases ht : t = d0
          · subst ht
            have hne : o.d ≠ some t := fun e => hd t (by rw [hd0]; simp) (by rw [e]; simp)
            simp [hne, hv0]
          · have : lk ((d0, lk s.t d0) :: s1.t) t = lk s1.t t := by simp [lk, ht]
            have h8 : ¬ d0 = t := fun e => ht e.symm
            rw [this]
            simp [h8]
        have hset : ∀ q, q < ops.size → ((listed.setIfInBounds i true).setIfInBounds 0 true).getD q false = decide (q < i + 1) := by
          intro q hq
          by_cases e : q = 0
          · subst e; simp [Array.getD_eq_getD_getElem?, Array.getElem?_setIfInBounds, show 0 < listed.size by omega]
          · rw [getD_set_ne false (fun e' => e e'.symm), hL q hq]
            congr 1
            exact propext ⟨fun _ => by omega, fun _ => by omega⟩
        refine tail_sound hos hck hst hk hQ hK3 (a := a2) (w := w2) ?_ (by simpa using hls) hset ?_
        · show RT B c0 n (lk (St.put s1 o.d v).t) (Ab.hg h) (frm nr) a2 w2
          rw [← hTT]
          exact hRT3.weak (fun r hr => ⟨hr, fun hh => by omega⟩)
        · have := cnt_set (N := ops.size) (i := 0) (listed := listed.setIfInBounds i true) (by omega) hks2 (by rw [hL 0 (by omega)]; simp)
          omega
  · -- all ahead of the barrier is done
    intro fuel listed a1 w1 hls hl hRT hcnt
    have hRS : RS B c0 n s1 a1 w1 := by
      show RT B c0 n (lk s1.t) (Ab.hg s1.h) (frm s1.nr) a1 w1
      rw [q1, q2]
      refine hRT.weak (fun r hr => ⟨Nat.le_trans q3 hr, fun j e hj _ hh => ?_⟩)
      have := q4 j e hj
      have : s1.nr ≤ r := hr
      omega
    have hkf : listed.getD k false = false := by rw [hl k hk]; simp
    cases fuel with
    | zero =>
      have h0 := List.countP_eq_zero.1 (Nat.le_zero.1 hcnt) k (List.mem_range.2 hk)
      rw [hkf] at h0
      exact absurd rfl h0
    | succ fuel =>
      have hks : k < listed.size := by omega
      have unl : ∀ i, i < listed.size → listed.getD i true = false → listed.getD i false = false := by
        intro i hi h1
        rw [Array.getD_eq_getD_getElem?, Array.getElem?_eq_getElem hi] at h1 ⊢
        simpa using h1
      refine ⟨fun hr => ?_, fun i hi' => ?_⟩
      · exfalso
        have : k ∈ Region.ready .any ops listed := by
          rw [mem_ready]
          refine ⟨?_, ops[k], by simp [hk], fun e he hbd => ?_⟩
          · have hb := hkf
            rw [Array.getD_eq_getD_getElem?] at hb ⊢
            simp only [Array.getElem?_eq_getElem hks, Option.getD_some] at hb ⊢
            exact hb
          · have hmem : e.on ∈ waits ops[k] := by
              unfold waits
              exact List.mem_map.2 ⟨e, List.mem_filter.2 ⟨by simpa using he, hbd⟩, rfl⟩
            have hlt2 := (ck k ops[k] (by simp [hk])).1 e.on hmem
            rw [hl e.on (by omega)]; simp [hlt2]
        rw [hr] at this
        cases this
      · obtain ⟨h1, oo, hoo, hready⟩ := mem_ready.1 hi'
        have hio := (Array.getElem?_eq_some_iff.1 hoo).1
        have hb := unl i (by omega) h1
        have hki : k ≤ i := by
          refine Nat.le_of_not_lt fun hc => ?_
          rw [hl i hio] at hb
          simp at hb; omega
        obtain rfl : i = k := by
          refine Nat.le_antisymm (Nat.le_of_not_lt fun hc => ?_) hki
          have hwl : ∀ q ∈ waits oo, q < k := by
            intro q hq
            have hqi := (ck i oo hoo).1 q hq
            unfold waits at hq
            obtain ⟨ed, hed, rfl⟩ := List.mem_map.1 hq
            obtain ⟨m1, m2⟩ := List.mem_filter.1 hed
            have := hready ed (by simpa using m1) m2
            rw [hl ed.on (by omega)] at this
            simpa using this
          rcases (ck i oo hoo).2 k (bar2 i hc hio k (Nat.le_refl k)) with h' | ⟨q, hq, hkq⟩
          · exact absurd (hwl k h') (Nat.lt_irrefl k)
          · have := hwl q hq
            have := hlt q (by omega) k hkq
            omega
        obtain ⟨ao, hao, hcomp⟩ := hget i oo (by simpa using hoo)
        rw [ho] at hao
        cases hao
        obtain ⟨e1, e2, e3, e4⟩ := compOper_inv hcomp
        unfold wpOp
        simp only [hoo]
        have hwant := wanted_of hRS e2
        rw [hg] at hwant
        rw [show Region.wanted oo (yielded ops a1.tmps) = true from hwant]
        simp only [if_true]
        refine .inl (step_wp hRS e3 e4 hstep (fun v h nr a' w' hK2 hRS2 => ?_))
        rw [← e1] at hRS2
        have hset : ∀ q, q < ops.size → (listed.setIfInBounds i true).getD q false = decide (q < i + 1) := by
          intro q hq
          by_cases e : q = i
          · subst e; simp [Array.getD_eq_getD_getElem?, Array.getElem?_setIfInBounds, hks]
          · rw [getD_set_ne false (fun e' => e e'.symm), hl q hq]
            congr 1
            exact propext ⟨fun _ => by omega, fun _ => by omega⟩
        exact tail_sound hos hck hst hk hQ hK2 hRS2 (by simpa using hls) hset (by
          have := cnt_set (N := ops.size) hk hks hkf
          omega)
  · intro j o ho hl
    rw [hlist] at hl; cases hl
  · rw [GF_none _ _ _ (fun j _ => hlist _), GF_none _ _ _ (fun j _ => hlist _)]
    exact (RT.drew hs).weak (fun r hr => hr.1)
  · have : (List.range ops.size).countP (fun i => !(Array.replicate ops.size false).getD i false) ≤ (List.range ops.size).length := List.countP_le_length
    simpa using this
end
end Go.Proofs.Yteoonedddgiacaa.Ab
