/- Code on abstract states: the law of each form of code, and that the machine keeps it. -/
import Derived.Test.YtkeobnaehgcloaaAbO
namespace Go.Proofs.Ytkeobnaehgcloaa.Ab
open Go Go.RowKit
set_option linter.unusedSimpArgs false
set_option linter.unusedVariables false

/-! ### Drawn regions -/
def stepR (P : Program) (op : AOp) (s : St) (K : AV → List (Nat × Option Rows) → Nat → Prop) : Prop :=
  match op with
  | .call f args => ∃ nv v objs, ConG P f nv ((args.map s.get).map (dr (hg s.h) 6)) v objs ∧ (nv = true ∨ nrfL (args.map s.get) = true) ∧ K (sh s.nr v) (mkh s.nr (objs.map (shR s.nr))) objs.length
  | .callv x args => match s.get x with
    | .fn f caps => ∃ nv v objs, ConG P f nv ((args.map s.get ++ caps).map (dr (hg s.h) 6)) v objs ∧ (nv = true ∨ nrfL (args.map s.get ++ caps) = true) ∧ K (sh s.nr v) (mkh s.nr (objs.map (shR s.nr))) objs.length
    | _ => False
  | op => match ev s.get (hg s.h) s.nr op with
    | some (v, u, k) => K v u k
    | none => False

def wpDr (P : Program) : List AO → St → List (List Nat × List Nat) → (St → List (List Nat × List Nat) → Prop) → Prop
  | [], s, acc, K => K s acc.reverse
  | o :: os, s, acc, K =>
    match o.g with
    | none => stepR P o.op s (fun v u k => wpDr P os { t := (St.put s o.d v).t, h := u ++ s.h, nr := s.nr + k } ((u.map (·.1), rds o.op s.get (hg s.h)) :: acc) K)
    | some (t, b) => match wnt b (lk s.t t) with
      | some c => if c = true then stepR P o.op s (fun v u k => wpDr P os { t := (St.put s o.d v).t, h := u ++ s.h, nr := s.nr + k } ((u.map (·.1), rds o.op s.get (hg s.h)) :: acc) K)
        else wpDr P os (St.put s o.d (.tup [])) (([], rds o.op s.get (hg s.h)) :: acc) K
      | none => False

/-- What the operations write and read lies apart, where none waits for the other. -/
def hok (A : List (List Nat)) (ef : List (List Nat × List Nat)) : Prop :=
  ∀ (i j : Nat) x y, i < j → i ∉ A.getD j [] → ef[i]? = some x → ef[j]? = some y → Dj x.1 y.1 ∧ Dj x.1 y.2 ∧ Dj y.1 x.2

theorem hok_quiet (A : List (List Nat)) (ef : List (List Nat × List Nat)) (h : (ef.all fun x => x.1.isEmpty) = true) : hok A ef := by
  intro i j x y _ _ hx hy
  have h0 := List.all_eq_true.1 h
  have h1 := h0 x (List.mem_of_getElem? hx)
  have h2 := h0 y (List.mem_of_getElem? hy)
  rw [List.isEmpty_iff] at h1 h2
  rw [h1, h2]
  exact ⟨fun _ h => (List.not_mem_nil h).elim, fun _ h => (List.not_mem_nil h).elim, fun _ h => (List.not_mem_nil h).elim⟩

theorem djB_spec {l m : List Nat} (h : djB l m = true) : Dj l m := by
  intro x hx hm
  have := List.all_eq_true.1 h x hx
  simp at this
  exact this hm

def hokB (A : List (List Nat)) (ef : List (List Nat × List Nat)) : Bool :=
  (List.range ef.length).all fun j => (List.range j).all fun i => (A.getD j []).contains i || (match ef[i]?, ef[j]? with
    | some x, some y => djB x.1 y.1 && djB x.1 y.2 && djB y.1 x.2
    | _, _ => true)

theorem hok_of {A : List (List Nat)} {ef : List (List Nat × List Nat)} (h : hokB A ef = true) : hok A ef := by
  intro i j x y hij hA hx hy
  have hj := (List.getElem?_eq_some_iff.1 hy).1
  have h1 := List.all_eq_true.1 (List.all_eq_true.1 h j (List.mem_range.2 hj)) i (List.mem_range.2 hij)
  rw [hx, hy] at h1
  simp only [Bool.or_eq_true, Bool.and_eq_true] at h1
  rcases h1 with h1 | h1
  · exact absurd (by simpa using h1) hA
  · exact ⟨djB_spec h1.1.1, djB_spec h1.1.2, djB_spec h1.2⟩

def wpD (P : Program) (os : List AO) (A : List (List Nat)) (s : St) (Q : St → Prop) : Prop := wpDr P os s [] fun s' ef => hok A ef ∧ Q s'

/-- A drawn region all of whose operations leave the own objects alone. -/
def wpQ (P : Program) : List AO → St → (St → Prop) → Prop
  | [], s, K => K s
  | o :: os, s, K =>
    match o.g with
    | none => stepR P o.op s (fun v u k => u = [] ∧ k = 0 ∧ wpQ P os { t := (St.put s o.d v).t, h := s.h, nr := s.nr } K)
    | some (t, b) => match wnt b (lk s.t t) with
      | some c => if c = true then stepR P o.op s (fun v u k => u = [] ∧ k = 0 ∧ wpQ P os { t := (St.put s o.d v).t, h := s.h, nr := s.nr } K) else wpQ P os (St.put s o.d (.tup [])) K
      | none => False

theorem stepR_mono {P : Program} {op : AOp} {s : St} {K K' : AV → List (Nat × Option Rows) → Nat → Prop} (hk : ∀ v u k, K v u k → K' v u k) (h : stepR P op s K) : stepR P op s K' := by
  unfold stepR at h ⊢
  split at h
  · obtain ⟨nv, v, objs, h1, h2, h3⟩ := h
    exact ⟨nv, v, objs, h1, h2, hk _ _ _ h3⟩
  · split at h
    · obtain ⟨nv, v, objs, h1, h2, h3⟩ := h
      exact ⟨nv, v, objs, h1, h2, hk _ _ _ h3⟩
    · exact h
  · rename_i hn1 hn2
    split at h
    · exact hk _ _ _ h
    · exact h.elim

theorem wpQ_Dr {P : Program} {A : List (List Nat)} {K : St → Prop} : ∀ (os : List AO) (s : St) (acc : List (List Nat × List Nat)), (acc.all fun x => x.1.isEmpty) = true → wpQ P os s K → wpDr P os s acc fun s' ef => hok A ef ∧ K s'
  | [], s, acc, ha, h => ⟨hok_quiet A _ (by simpa using ha), h⟩
  | o :: os, s, acc, ha, h => by
    simp only [wpQ] at h
    simp only [wpDr]
    have go : stepR P o.op s (fun v u k => u = [] ∧ k = 0 ∧ wpQ P os { t := (St.put s o.d v).t, h := s.h, nr := s.nr } K) → stepR P o.op s (fun v u k => wpDr P os { t := (St.put s o.d v).t, h := u ++ s.h, nr := s.nr + k } ((u.map (·.1), rds o.op s.get (hg s.h)) :: acc) fun s' ef => hok A ef ∧ K s') := by
      refine stepR_mono ?_
      rintro v u k ⟨rfl, rfl, hk⟩
      exact wpQ_Dr os _ _ (by simpa using ha) hk
    cases hg0 : o.g with
    | none => rw [hg0] at h; exact go h
    | some tb =>
      obtain ⟨t, b⟩ := tb
      rw [hg0] at h
      simp only at h ⊢
      cases hl : wnt b (lk s.t t) with
      | some c =>
        rw [hl] at h
        simp only at h ⊢
        split at h
        · rename_i e; rw [if_pos e]; exact go h
        · rename_i e; rw [if_neg e]; exact wpQ_Dr os _ _ (by simpa using ha) h
      | none => rw [hl] at h; exact h.elim

def PlanR (P : Program) : List AO → List Eff → St → St → Prop
  | [], [], s, s' => s' = s
  | o :: os, e :: es, s, s' => e.d = o.d ∧ e.nr = s.nr ∧ e.rd = rds o.op (gT (lk s.t)) (hg s.h) ∧ EffOK P o (lk s.t) (hg s.h) e ∧ PlanR P os es { t := (St.put s e.d e.v).t, h := e.u ++ s.h, nr := s.nr + e.k } s'
  | _, _, _, _ => False

theorem stepR_res {P : Program} {op : AOp} {s : St} {K : AV → List (Nat × Option Rows) → Nat → Prop} (h : stepR P op s K) : ∃ v u k, Res P op (lk s.t) (hg s.h) s.nr v u k ∧ K v u k := by
  unfold stepR at h
  rw [get_gT] at h
  split at h
  · obtain ⟨nv, v, objs, h1, h2, h3⟩ := h
    exact ⟨_, _, _, ⟨nv, v, objs, h1, h2, rfl, rfl, rfl⟩, h3⟩
  · split at h
    · rename_i hx
      obtain ⟨nv, v, objs, h1, h2, h3⟩ := h
      refine ⟨_, _, _, ?_, h3⟩
      simp only [Res, hx]
      exact ⟨nv, v, objs, h1, h2, rfl, rfl, rfl⟩
    · exact h.elim
  · rename_i hn1 hn2
    split at h
    · rename_i v u k he
      refine ⟨v, u, k, ?_, h⟩
      unfold Res
      split
      · exact absurd rfl (hn1 _ _)
      · exact absurd rfl (hn2 _ _)
      · exact he
    · exact h.elim

theorem wpDr_plan {P : Program} {K : St → List (List Nat × List Nat) → Prop} : ∀ (os : List AO) (s : St) (acc : List (List Nat × List Nat)), wpDr P os s acc K →
    ∃ es s', PlanR P os es s s' ∧ K s' (acc.reverse ++ es.map fun e => (e.u.map (·.1), e.rd))
  | [], s, acc, h => ⟨[], s, rfl, by simpa [wpDr] using h⟩
  | o :: os, s, acc, h => by
    have go : stepR P o.op s (fun v u k => wpDr P os { t := (St.put s o.d v).t, h := u ++ s.h, nr := s.nr + k } ((u.map (·.1), rds o.op s.get (hg s.h)) :: acc) K) →
        ∃ v u k, Res P o.op (lk s.t) (hg s.h) s.nr v u k ∧ ∃ es s', PlanR P os es { t := (St.put s o.d v).t, h := u ++ s.h, nr := s.nr + k } s' ∧ K s' (acc.reverse ++ (u.map (·.1), rds o.op (gT (lk s.t)) (hg s.h)) :: es.map fun e => (e.u.map (·.1), e.rd)) := by
      intro hs
      obtain ⟨v, u, k, h1, h2⟩ := stepR_res hs
      obtain ⟨es, s', h3, h4⟩ := wpDr_plan os _ _ h2
      refine ⟨v, u, k, h1, es, s', h3, ?_⟩
      rw [get_gT] at h4
      simpa using h4
    simp only [wpDr] at h
    cases hg0 : o.g with
    | none =>
      rw [hg0] at h
      obtain ⟨v, u, k, h1, es, s', h3, h4⟩ := go h
      refine ⟨⟨o.d, v, u, s.nr, k, rds o.op (gT (lk s.t)) (hg s.h)⟩ :: es, s', ⟨rfl, rfl, rfl, ?_, h3⟩, by simpa using h4⟩
      unfold EffOK; rw [hg0]; exact h1
    | some tb =>
      obtain ⟨t, b⟩ := tb
      rw [hg0] at h
      simp only at h
      cases hlk : wnt b (lk s.t t) with
      | some c =>
        rw [hlk] at h
        simp only at h
        by_cases hcb : c = true
        · rw [if_pos hcb] at h
          obtain ⟨v, u, k, h1, es, s', h3, h4⟩ := go h
          refine ⟨⟨o.d, v, u, s.nr, k, rds o.op (gT (lk s.t)) (hg s.h)⟩ :: es, s', ⟨rfl, rfl, rfl, ?_, h3⟩, by simpa using h4⟩
          unfold EffOK; rw [hg0]; exact ⟨c, hlk, fun _ => h1, fun hne => absurd hcb hne⟩
        · rw [if_neg hcb] at h
          obtain ⟨es, s', h3, h4⟩ := wpDr_plan os _ _ h
          rw [get_gT] at h4
          refine ⟨⟨o.d, .tup [], [], s.nr, 0, rds o.op (gT (lk s.t)) (hg s.h)⟩ :: es, s', ⟨rfl, rfl, rfl, ?_, ?_⟩, by simpa using h4⟩
          · unfold EffOK; rw [hg0]; exact ⟨c, hlk, fun hc => absurd hc hcb, fun _ => ⟨rfl, rfl, rfl⟩⟩
          · have hh : St.put s o.d (.tup []) = { t := (St.put s o.d (.tup [])).t, h := [] ++ s.h, nr := s.nr + 0 } := by cases o.d <;> rfl
            rw [hh] at h3
            exact h3
      | none => rw [hlk] at h; exact h.elim

theorem PlanR.plan {P : Program} : ∀ {os : List AO} {es : List Eff} {s s' : St}, PlanR P os es s s' →
    Plan P os (lk s.t) (hg s.h) s.nr es ∧ lk s'.t = FF (tks es) (lk s.t) ∧ hg s'.h = FF (uss es) (hg s.h) ∧ s.nr ≤ s'.nr ∧ ∀ (i : Nat) e, es[i]? = some e → e.nr + e.k ≤ s'.nr
  | [], [], s, s', h => by
    have : s' = s := h
    subst this
    exact ⟨⟨rfl, by simp, by simp, by simp⟩, rfl, rfl, Nat.le_refl _, by simp⟩
  | [], _ :: _, _, _, h => h.elim
  | _ :: _, [], _, _, h => h.elim
  | o :: os, e :: es, s, s', h => by
    obtain ⟨h1, h2, h3, h4, h5⟩ := h
    obtain ⟨p, q1, q2, q3, q4⟩ := PlanR.plan h5
    simp only at p q1 q2 q3
    have eT : lk (St.put s e.d e.v).t = ups (lk s.t) (tk e.d e.v) := by rw [lk_put, putF_ups]
    have eH : hg (e.u ++ s.h) = ups (hg s.h) e.u := by rw [hg_upd, upd_ups]
    rw [eT, eH] at p
    rw [eT] at q1
    rw [eH] at q2
    refine ⟨⟨by simp [p.len], ?_, ?_, ?_⟩, by rw [q1]; rfl, by rw [q2]; rfl, by omega, ?_⟩
    · intro i o' e' ho he
      cases i with
      | zero => simp at ho he; subst ho; subst he; exact ⟨h1, h4, h3⟩
      | succ i =>
        simp at ho he
        have := p.ok i o' e' ho he
        simpa [tks, uss, FF] using this
    · intro i j ei ej hij hi hj
      cases j with
      | zero => omega
      | succ j =>
        simp at hj
        cases i with
        | zero => simp at hi; subst hi; have := p.lo j ej hj; omega
        | succ i => simp at hi; exact p.nrs i j ei ej (by omega) hi hj
    · intro i e' he
      cases i with
      | zero => simp at he; subst he; omega
      | succ i => simp at he; have := p.lo i e' he; omega
    · intro i e' he
      cases i with
      | zero => simp at he; subst he; omega
      | succ i => simp at he; exact q4 i e' he

section
variable {P : Program} {B : Nat} {c0 : Cx} {n : Nat}

theorem RT.drew {T : Nat → AV} {H : Nat → Option Rows} {N : Nat → Prop} {a : Act} {w : World} (h : RT B c0 n T H N a w) : RT B c0 n T H N a w.drew := by
  obtain ⟨⟨c, rfl, hlat, hrel, htm⟩, hsz, hdf⟩ := h
  have := rel_drew hrel
  exact ⟨⟨_, rfl, hlat.trans this.2, this.1, fun t => V_mono this.2.ext _ _ (htm t)⟩, hsz, hdf⟩

theorem wpD_sound (hm : P.follows .mixedOrders = true) {id : Nat} {ops : Array Oper} {os : List AO} {A : List (List Nat)} (hos : compOpers P n ops ops.toList = some os) (hck : chkW (ops.toList.map waits) A = true) (hst : statB os A = true)
    {s : St} {Q' : St → Prop} {Q : Exit → Act → World → Prop} {a : Act} {w : World} (hw : wpD P os A s Q') (hs : RS B c0 n s a w) (hQ : ∀ s a w, Q' s → RS B c0 n s a w → Q .normal a w) : (Code.region id ops true).wp P Q a w := by
  refine wp_region_any hm ?_
  obtain ⟨es, s', hp, hok, hQs⟩ := wpDr_plan os s [] hw
  obtain ⟨plan, q1, q2, q3, q4⟩ := hp.plan
  have hck' := List.all_eq_true.1 hck
  have ck : ∀ (j : Nat) (o : Oper), ops[j]? = some o → (∀ i ∈ waits o, i < j) ∧ ∀ i ∈ A.getD j [], i ∈ waits o ∨ ∃ k ∈ waits o, i ∈ A.getD k [] := by
    intro j o ho
    have hj := (Array.getElem?_eq_some_iff.1 ho).1
    have h0 := hck' j (List.mem_range.2 (by simpa using hj))
    have hwj : (ops.toList.map waits).getD j [] = waits o := by simp [List.getD_eq_getElem?_getD, ho]
    rw [hwj] at h0
    simp only [Bool.and_eq_true, List.all_eq_true, decide_eq_true_eq, Bool.or_eq_true, List.any_eq_true, List.contains_iff_mem] at h0
    exact h0
  have hlist : ∀ i, (Array.replicate ops.size false).getD i false = false := by intro i; simp [Array.getD_eq_getD_getElem?, Array.getElem?_replicate]; split <;> rfl
  have hGF : ∀ {α : Type} (ls : List (List (Nat × α))) (F : Nat → α) (k : Nat), GF (fun i => (Array.replicate ops.size false).getD i false) k ls F = F := by
    intro α ls
    induction ls with
    | nil => intro F k; rfl
    | cons l ls ih => intro F k; unfold GF; rw [hlist, if_neg (by simp)]; exact ih F (k + 1)
  refine any_sound (c0 := c0) (B := B) hos plan (A := fun j => A.getD j []) (fun j o ho => (ck j o ho).1) (fun j o ho => (ck j o ho).2) ?_ ?_ ops.size _ a _ (by simp) ?_ ?_ ?_
  · intro i j o o' e e' hij hA hoi hoj hei hej
    have hj := (List.getElem?_eq_some_iff.1 hoj).1
    have h1 := List.all_eq_true.1 (List.all_eq_true.1 hst j (List.mem_range.2 hj)) i (List.mem_range.2 hij)
    rw [hoi, hoj] at h1
    simp only [Bool.or_eq_true, Bool.and_eq_true] at h1
    have h2 := h1.resolve_left (fun hc => hA (by simpa using hc))
    have h3 := hok i j (e.u.map (·.1), e.rd) (e'.u.map (·.1), e'.rd) hij hA (by simp [hei]) (by simp [hej])
    exact ⟨djB_spec h2.1.1, djB_spec h2.1.2, djB_spec h2.2, h3.1, h3.2.1, h3.2.2⟩
  · intro a' w' hRT
    refine hQ s' a' w' hQs ?_
    show RT B c0 n (lk s'.t) (hg s'.h) (frm s'.nr) a' w'
    rw [q1, q2]
    refine hRT.weak (fun r hr => ⟨Nat.le_trans q3 hr, fun j e hj _ hh => ?_⟩)
    have := q4 j e hj
    have : s'.nr ≤ r := hr
    omega
  · intro j o ho hl
    rw [hlist] at hl; cases hl
  · rw [hGF, hGF]
    refine (RT.drew hs).weak (fun r hr => hr.1)
  · have : (List.range ops.size).countP (fun i => !(Array.replicate ops.size false).getD i false) ≤ (List.range ops.size).length := List.countP_le_length
    simpa using this
end
end Go.Proofs.Ytkeobnaehgcloaa.Ab
