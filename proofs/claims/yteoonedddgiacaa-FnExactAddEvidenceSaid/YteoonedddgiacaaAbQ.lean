/- Code on abstract states: sequences, branches, blocks, loops; functions by their contracts. -/
import Derived.Test.YteoonedddgiacaaAbP
namespace Go.Proofs.Yteoonedddgiacaa.Ab
open Go Go.RowKit
set_option linter.unusedSimpArgs false
set_option linter.unusedVariables false

/-! ### Weaker states, as lists tell them -/
def leT (t : List (Nat × AV)) (nr : Nat) : List (Nat × AV) → Prop
  | [] => True
  | (k, v) :: l => (lk t k = v ∧ v.ltr nr = true) ∧ leT t nr l
def leH (h : List (Nat × Option Rows)) (nr : Nat) : List (Nat × Option Rows) → Prop
  | [] => True
  | (r, some rows) :: l => (hg h r = some rows ∧ r < nr ∧ ∀ row ∈ rows, ∀ x ∈ row, AV.ltr nr x = true) ∧ leH h nr l
  | (_, none) :: l => leH h nr l
def LeP (s s' : St) : Prop := leT s.t s'.nr s'.t ∧ leH s.h s'.nr s'.h

theorem leT_lk {t : List (Nat × AV)} {nr : Nat} : ∀ (l : List (Nat × AV)), leT t nr l → ∀ k, lk l k = .undef ∨ (lk l k = lk t k ∧ (lk l k).ltr nr = true)
  | [], _, _ => .inl rfl
  | (q, v) :: l, h, k => by
    simp only [lk]
    split
    · rename_i e; subst e; right; exact ⟨h.1.1.symm, h.1.2⟩
    · exact leT_lk l h.2 k
theorem leH_hg {h0 : List (Nat × Option Rows)} {nr : Nat} : ∀ (l : List (Nat × Option Rows)), leH h0 nr l → ∀ r rows, hg l r = some rows → hg h0 r = some rows ∧ r < nr ∧ ∀ row ∈ rows, ∀ x ∈ row, AV.ltr nr x = true
  | [], _, r, rows, h => by simp [hg, upd] at h
  | (q, x) :: l, hl, r, rows, h => by
    have e : hg ((q, x) :: l) r = if r = q then x else hg l r := rfl
    rw [e] at h
    cases x with
    | none =>
      split at h
      · cases h
      · exact leH_hg l hl r rows h
    | some rs =>
      split at h
      · rename_i e; subst e; cases h; exact hl.1
      · exact leH_hg l hl.2 r rows h
theorem LeP.le {s s' : St} (h : LeP s s') : Le s s' := ⟨leT_lk _ h.1, leH_hg _ h.2⟩

/-! ### Own objects under other numbers -/
mutual
def rn (π : Nat → Nat) : AV → AV
  | .sl r s o l => .sl (π r) s o l
  | .pt r i j => .pt (π r) i j
  | .agg cs => .agg (rnL π cs)
  | .tup cs => .tup (rnL π cs)
  | .fn f cs => .fn f (rnL π cs)
  | x => x
def rnL (π : Nat → Nat) : List AV → List AV
  | [] => []
  | x :: xs => rn π x :: rnL π xs
end

def Cx.pull (c : Cx) (π : Nat → Nat) : Cx := { c with K := fun r => c.K (π r), ρ := fun r => c.ρ (π r) }

mutual
theorem V_pull {π : Nat → Nat} : ∀ (x : AV) (c : Cx) (v : Value), V c (rn π x) v → V (c.pull π) x v
  | .undef, _, _, _ => trivial
  | .bool _, _, _, h => h
  | .int _ _, _, _, h => h
  | .str _, _, _, h => h
  | .nilS, _, _, h => h
  | .nilP, _, _, h => h
  | .nilF, _, _, h => h
  | .fn f cs, c, v, h => by obtain ⟨ds, h1, h2⟩ := h; exact ⟨ds, h1, VL_pull cs c _ h2⟩
  | .agg cs, c, v, h => by obtain ⟨ds, h1, h2, h3⟩ := h; exact ⟨ds, h1, VL_pull cs c _ h2, h3⟩
  | .tup cs, c, v, h => by obtain ⟨ds, h1, h2⟩ := h; exact ⟨ds, h1, VL_pull cs c _ h2⟩
  | .vw nn es, c, v, h => by
    obtain ⟨A, cap, sz, h1, h2, h3, h4⟩ := h
    exact ⟨A, cap, sz, h1, h2, h3, VM_mono (c := c.cl) (c' := c.pull π) ⟨fun k hk => ⟨hk, rfl⟩, fun _ hk => hk.elim, fun _ _ hl => hl⟩ A sz 0 es (VM_cl h4)⟩
  | .vp cs, c, v, h => by
    obtain ⟨a, h1, h2⟩ := h
    exact ⟨a, h1, VC_mono (c := c.cl) (c' := c.pull π) ⟨fun k hk => ⟨hk, rfl⟩, fun _ hk => hk.elim, fun _ _ hl => hl⟩ a 0 cs (VC_cl h2)⟩
  | .sl r s o l, c, v, h => h
  | .pt r i j, c, v, h => h
theorem VL_pull {π : Nat → Nat} : ∀ (xs : List AV) (c : Cx) (vs : List Value), VL c (rnL π xs) vs → VL (c.pull π) xs vs
  | [], _, _, h => h
  | x :: xs, c, vs, h => by obtain ⟨u, us, h1, h2, h3⟩ := h; exact ⟨u, us, h1, V_pull x c u h2, VL_pull xs c us h3⟩
end

def πof (rs : List Nat) : Nat → Nat := fun i => rs.getD i 0

/-- s' says no more than s, where own object r of s' is object π r of s. -/
structure LeR (m0 : Nat) (π : Nat → Nat) (s s' : St) : Prop where
  t : ∀ t, lk s'.t t = .undef ∨ (lk s.t t = rn π (lk s'.t t) ∧ (lk s'.t t).ltr s'.nr = true)
  h : ∀ r rows, hg s'.h r = some rows → (∃ rows0, hg s.h (π r) = some rows0 ∧ rows0 = rows.map fun row => rnL π row) ∧ r < s'.nr ∧ ∀ row ∈ rows, ∀ x ∈ row, AV.ltr s'.nr x = true
  id : ∀ r, r < m0 → π r = r
  inj : ∀ r r', r < s'.nr → r' < s'.nr → π r = π r' → r = r'

theorem rnL_map (π : Nat → Nat) : ∀ l : List AV, rnL π l = l.map (rn π)
  | [] => rfl
  | x :: xs => by rw [rnL, rnL_map π xs]; rfl

theorem RS.leR {B : Nat} {c0 : Cx} {n m0 : Nat} (h0 : ∀ r, c0.K r → r < m0) {s s' : St} {a : Act} {w : World} {π : Nat → Nat} (hs : RS B c0 n s a w) (hle : LeR m0 π s s') (hm : m0 ≤ s'.nr) : RS B c0 n s' a w := by
  obtain ⟨⟨c, rfl, hlat, hrel, htm⟩, hsz, hdf⟩ := hs
  have hK : ∀ r, c0.K r → ((c.pull π).below s'.nr).K r ∧ (c.pull π).ρ r = c0.ρ r := by
    intro r hr
    have e := hle.id r (h0 r hr)
    refine ⟨⟨?_, by have := h0 r hr; omega⟩, ?_⟩
    · show c.K (π r); rw [e]; exact (hlat.ext.K r hr).1
    · show c.ρ (π r) = _; rw [e]; exact (hlat.ext.K r hr).2
  refine ⟨⟨(c.pull π).below s'.nr, rfl, ⟨⟨hlat.ext.F, hK, hlat.ext.L⟩, hlat.below, hlat.fresh⟩, ⟨⟨?_, ?_, ?_, ?_, ?_, ?_, ?_⟩, ?_, hrel.fb, hrel.bb⟩, ?_⟩, hsz, hdf⟩
  · intro r rows hr
    obtain ⟨⟨rows0, g1, g2⟩, g3, g4⟩ := hle.h r rows hr
    exact ⟨hrel.hr.known _ rows0 g1, g3⟩
  · intro r rows hr
    obtain ⟨⟨rows0, g1, g2⟩, g3, g4⟩ := hle.h r rows hr
    have := hrel.hr.len _ rows0 g1
    rw [g2, List.length_map] at this
    exact this
  · intro r rows hr row hrow
    obtain ⟨⟨rows0, g1, g2⟩, g3, g4⟩ := hle.h r rows hr
    have := hrel.hr.rowlen _ rows0 g1 (rnL π row) (by rw [g2]; exact List.mem_map_of_mem hrow)
    rw [rnL_map, List.length_map] at this
    exact this
  · intro r rows hr i row hi j x hx
    obtain ⟨⟨rows0, g1, g2⟩, g3, g4⟩ := hle.h r rows hr
    obtain ⟨u, q1, q2, q3⟩ := hrel.hr.cells _ rows0 g1 i (rnL π row) (by rw [g2, List.getElem?_map, hi]; rfl) j (rn π x) (by rw [rnL_map, List.getElem?_map, hx]; rfl)
    exact ⟨u, q1, q2, V_below x (c.pull π) u (g4 row (List.mem_of_getElem? hi) x (List.mem_of_getElem? hx)) (V_pull x c u q3)⟩
  · intro r rows hr
    obtain ⟨⟨rows0, g1, g2⟩, g3, g4⟩ := hle.h r rows hr
    exact hrel.hr.live _ rows0 g1
  · intro r rows hr
    obtain ⟨⟨rows0, g1, g2⟩, g3, g4⟩ := hle.h r rows hr
    exact hrel.hr.base _ rows0 g1
  · intro r r' rows rows' hr hr' hne
    obtain ⟨⟨rows0, g1, g2⟩, g3, g4⟩ := hle.h r rows hr
    obtain ⟨⟨rows1, k1, k2⟩, k3, k4⟩ := hle.h r' rows' hr'
    exact hrel.hr.inj _ _ rows0 rows1 g1 k1 (fun e => hne (hle.inj r r' g3 k3 e))
  · intro r hr hf; exact absurd hr.2 (Nat.not_lt.2 hf)
  · intro t
    rcases hle.t t with h1 | ⟨h1, h2⟩
    · rw [h1]; trivial
    · have := htm t
      rw [h1] at this
      exact V_below _ (c.pull π) _ h2 (V_pull _ c _ this)

/-! ### The same, as lists tell it, with the new numbers in a list -/
def leTR (t : List (Nat × AV)) (π : Nat → Nat) (nr : Nat) : List (Nat × AV) → Prop
  | [] => True
  | (k, v) :: l => (lk t k = rn π v ∧ v.ltr nr = true) ∧ leTR t π nr l
def leHR (h : List (Nat × Option Rows)) (π : Nat → Nat) (nr : Nat) : List (Nat × Option Rows) → Prop
  | [] => True
  | (r, some rows) :: l => ((∃ rows0, hg h (π r) = some rows0 ∧ rows0 = rows.map fun row => rnL π row) ∧ r < nr ∧ ∀ row ∈ rows, ∀ x ∈ row, AV.ltr nr x = true) ∧ leHR h π nr l
  | (_, none) :: l => leHR h π nr l
def LePR (rs : List Nat) (s s' : St) : Prop := leTR s.t (πof rs) s'.nr s'.t ∧ leHR s.h (πof rs) s'.nr s'.h ∧ rs.length = s'.nr ∧ rs.Nodup

theorem leTR_lk {t : List (Nat × AV)} {π : Nat → Nat} {nr : Nat} : ∀ (l : List (Nat × AV)), leTR t π nr l → ∀ k, lk l k = .undef ∨ (lk t k = rn π (lk l k) ∧ (lk l k).ltr nr = true)
  | [], _, _ => .inl rfl
  | (q, v) :: l, h, k => by
    simp only [lk]
    split
    · rename_i e; subst e; right; exact ⟨h.1.1, h.1.2⟩
    · exact leTR_lk l h.2 k
theorem leHR_hg {h0 : List (Nat × Option Rows)} {π : Nat → Nat} {nr : Nat} : ∀ (l : List (Nat × Option Rows)), leHR h0 π nr l → ∀ r rows, hg l r = some rows → (∃ rows0, hg h0 (π r) = some rows0 ∧ rows0 = rows.map fun row => rnL π row) ∧ r < nr ∧ ∀ row ∈ rows, ∀ x ∈ row, AV.ltr nr x = true
  | [], _, r, rows, h => by simp [hg, upd] at h
  | (q, x) :: l, hl, r, rows, h => by
    have e : hg ((q, x) :: l) r = if r = q then x else hg l r := rfl
    rw [e] at h
    cases x with
    | none =>
      split at h
      · cases h
      · exact leHR_hg l hl r rows h
    | some rs =>
      split at h
      · rename_i e; subst e; cases h; exact hl.1
      · exact leHR_hg l hl.2 r rows h
theorem LePR.le {rs : List Nat} {s s' : St} (h : LePR rs s s') : LeR 0 (πof rs) s s' :=
  ⟨leTR_lk _ h.1, leHR_hg _ h.2.1, fun r hr => (by omega), fun r r' h1 h2 e => by
    have hl := h.2.2.1
    simp only [πof] at e
    rw [List.getD_eq_getElem?_getD, List.getD_eq_getElem?_getD, List.getElem?_eq_getElem (by omega), List.getElem?_eq_getElem (by omega)] at e
    exact (List.getElem_inj h.2.2.2).1 e⟩
def LeX (m0 : Nat) (s s' : St) : Prop := Le s s' ∨ ∃ π, LeR m0 π s s'
theorem RS.leX {B : Nat} {c0 : Cx} {n m0 : Nat} (h0 : ∀ r, c0.K r → r < m0) {s s' : St} {a : Act} {w : World} (hs : RS B c0 n s a w) (hle : LeX m0 s s') (hm : m0 ≤ s'.nr) : RS B c0 n s' a w := by
  rcases hle with h | ⟨π, h⟩
  · exact hs.le h0 h hm
  · exact hs.leR h0 h hm

/-! ### Code -/
inductive EX where
  | n
  | x (id : Nat)
  | r

def EX.ex : EX → Exit
  | .n => .normal
  | .x id => .exit id
  | .r => .ret

def seqQ (k : St → Prop) (Q : EX → St → Prop) : EX → St → Prop
  | .n, s => k s
  | e, s => Q e s
def blkQ (id : Nat) (Q : EX → St → Prop) : EX → St → Prop
  | .x i, s => if i = id then Q .n s else Q (.x i) s
  | e, s => Q e s

def wpC (P : Program) (m0 : Nat) : AC → (EX → St → Prop) → St → Prop
  | .skip, Q, s => Q .n s
  | .reg ops, Q, s => wpO P ops s (Q .n)
  | .dreg ops A, Q, s => wpD P ops A s (Q .n) ∨ (∃ k, wpB P A ops k s (Q .n)) ∨ ∃ k, wpF P A ops k s (Q .n)
  | .seq a b, Q, s => wpC P m0 a (seqQ (wpC P m0 b Q) Q) s
  | .cond c x y, Q, s => match s.get c with
    | .bool t => if t = true then wpC P m0 x Q s else wpC P m0 y Q s
    | _ => False
  | .blk id b, Q, s => wpC P m0 b (blkQ id Q) s
  | .loop b, Q, s => ∃ (α : Type) (S : α → St) (I : α → Prop) (μ : α → Nat) (x0 : α) (R : St → St → Prop), (∀ a b, R a b → LeX m0 a b) ∧ I x0 ∧ R s (S x0) ∧ (∀ x, I x → m0 ≤ (S x).nr) ∧
      ∀ x, I x → wpC P m0 b (seqQ (fun s' => ∃ x', I x' ∧ μ x' < μ x ∧ R s' (S x')) Q) (S x)
  | .exit id, Q, s => Q (.x id) s
  | .ret, Q, s => Q .r s

section
variable {P : Program} {B : Nat} {c0 : Cx} {n m0 : Nat}

theorem wpC_bad {P : Program} {m0 : Nat} {Q : EX → St → Prop} {s : St} (h : wpC P m0 badC Q s) : False := by
  simp [badC, wpC, St.get] at h
theorem wpC_sound (hm : P.follows .mixedOrders = true) (h0 : ∀ r, c0.K r → r < m0) : ∀ (c : Code) (ac : AC), compC P n c = some ac → ∀ (Q : EX → St → Prop) (s : St) (a : Act) (w : World) (Q' : Exit → Act → World → Prop),
    wpC P m0 ac Q s → RS B c0 n s a w → (∀ e s a w, Q e s → RS B c0 n s a w → Q' e.ex a w) → c.wp P Q' a w := by
  intro c
  induction c with
  | skip =>
    intro ac hc Q s a w Q' hw hs hQ
    simp [compC] at hc; subst hc
    exact wp_skip (hQ .n s a w hw hs)
  | region id ops draw =>
    intro ac hc Q s a w Q' hw hs hQ
    simp only [compC] at hc
    cases hos : compOpers P n ops ops.toList with
    | none => simp only [hos, Option.some.injEq] at hc; subst hc; exact (wpC_bad hw).elim
    | some os =>
      simp only [hos] at hc
      cases draw with
      | true =>
        simp only [if_true] at hc
        split at hc
        · rename_i hck
          cases hc
          rw [Bool.and_eq_true] at hck
          rcases hw with hw | ⟨k, hw⟩ | ⟨k, hw⟩
          · exact wpD_sound hm hos hck.1 hck.2 hw hs (fun s a w h1 h2 => hQ .n s a w h1 h2)
          · exact wpB_sound hm hos hck.1 hck.2 hw hs (fun s a w h1 h2 => hQ .n s a w h1 h2)
          · exact wpF_sound hm hos hck.1 hck.2 hw hs (fun s a w h1 h2 => hQ .n s a w h1 h2)
        · simp only [Option.some.injEq] at hc; subst hc; exact (wpC_bad hw).elim
      | false =>
        simp at hc; subst hc
        obtain ⟨hlen, hget⟩ := compOpers_get ops.toList os hos
        refine wp_region ?_
        exact wpO_sound 0 _ os (by rw [List.range_eq_range']; simp) (fun i o _ ho => by simpa using hget i o (by simpa using ho)) (by simpa using hlen) s (Q .n) a w hw hs (fun s a w h1 h2 => hQ .n s a w h1 h2)
  | seq x y ihx ihy =>
    intro ac hc Q s a w Q' hw hs hQ
    simp only [compC] at hc
    cases h1 : compC P n x with
    | none => simp [h1] at hc
    | some p =>
      cases h2 : compC P n y with
      | none => simp [h1, h2] at hc
      | some q =>
        simp [h1, h2] at hc; subst hc
        refine wp_seq (ihx p h1 _ s a w _ hw hs (fun e s a w hq hr => ?_))
        cases e with
        | n => exact ihy q h2 Q s a w Q' hq hr hQ
        | x id => exact hQ (.x id) s a w hq hr
        | r => exact hQ .r s a w hq hr
  | cond x y z ihy ihz =>
    intro ac hc Q s a w Q' hw hs hQ
    simp only [compC] at hc
    cases h0' : cx x with
    | none => simp [h0'] at hc
    | some c =>
      cases h1 : compC P n y with
      | none => simp [h0', h1] at hc
      | some p =>
        cases h2 : compC P n z with
        | none => simp [h0', h1, h2] at hc
        | some q =>
          simp [h0', h1, h2] at hc; subst hc
          simp only [wpC] at hw
          cases hg0 : s.get c with
          | bool t =>
            rw [hg0] at hw
            simp only at hw
            obtain ⟨⟨cc, hcw, _, _, htm⟩, _, _⟩ := id hs
            have hval := gT_V htm x c h0'
            rw [← get_gT, hg0] at hval
            refine wp_cond (t := t) hval ?_
            cases t with
            | true => exact ihy p h1 Q s a w Q' (by simpa using hw) hs hQ
            | false => exact ihz q h2 Q s a w Q' (by simpa using hw) hs hQ
          | _ => rw [hg0] at hw; exact hw.elim
  | block id b ih =>
    intro ac hc Q s a w Q' hw hs hQ
    simp only [compC] at hc
    cases h1 : compC P n b with
    | none => simp [h1] at hc
    | some p =>
      simp [h1] at hc; subst hc
      refine wp_block (ih p h1 _ s a w _ hw hs (fun e s a w hq hr => ?_))
      cases e with
      | n => exact hQ .n s a w hq hr
      | x i =>
        simp only [EX.ex, Exit.inBlock]
        simp only [blkQ] at hq
        split
        · rename_i e; rw [if_pos e] at hq; exact hQ .n s a w hq hr
        · rename_i e; rw [if_neg e] at hq; exact hQ (.x i) s a w hq hr
      | r => exact hQ .r s a w hq hr
  | loop b ih =>
    intro ac hc Q s a w Q' hw hs hQ
    simp only [compC] at hc
    cases h1 : compC P n b with
    | none => simp [h1] at hc
    | some p =>
      simp [h1] at hc; subst hc
      obtain ⟨α, S, I, μ, x0, R, hR, hI, hle, hnr, hround⟩ := hw
      refine wp_loop_ghost (fun k a w => ∃ x, I x ∧ μ x = k ∧ RS B c0 n (S x) a w) (μ x0) ⟨x0, hI, rfl, hs.leX h0 (hR _ _ hle) (hnr x0 hI)⟩ ?_
      rintro k a w ⟨x, hIx, rfl, hsx⟩
      refine ih p h1 _ (S x) a w _ (hround x hIx) hsx (fun e s' a' w' hq hr => ?_)
      cases e with
      | n =>
        obtain ⟨x', hI', hlt, hle'⟩ := hq
        exact ⟨μ x', hlt, x', hI', rfl, hr.leX h0 (hR _ _ hle') (hnr x' hI')⟩
      | x id => exact hQ (.x id) s' a' w' hq hr
      | r => exact hQ .r s' a' w' hq hr
  | exit id =>
    intro ac hc Q s a w Q' hw hs hQ
    simp [compC] at hc; subst hc
    exact wp_exit (hQ (.x id) s a w hw hs)
  | ret =>
    intro ac hc Q s a w Q' hw hs hQ
    simp [compC] at hc; subst hc
    exact wp_ret (hQ .r s a w hw hs)
  | _ => intro ac hc Q s a w Q' hw; simp only [compC, Option.some.injEq] at hc; subst hc; exact (wpC_bad hw).elim
end
end Go.Proofs.Yteoonedddgiacaa.Ab
