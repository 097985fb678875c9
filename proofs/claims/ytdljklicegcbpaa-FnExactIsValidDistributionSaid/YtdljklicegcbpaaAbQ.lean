/- Code on abstract states: sequences, branches, blocks, loops; functions by their contracts. -/
import Derived.Test.YtdljklicegcbpaaAbP
namespace Go.Proofs.Ytdljklicegcbpaa.Ab
open Go Go.RowKit
set_option linter.unusedSimpArgs false
set_option linter.unusedVariables false

/-! ### Weaker states, as lists tell them -/
def leT (t : List (Nat × AV)) (nr : Nat) : List (Nat × AV) → Prop
  | [] => True
  | (k, v) :: l => (lk t k = v ∧ v.ltr nr = true) ∧ leT t nr l
def leH (h : List (Nat × Option Rows)) (nr : Nat) : List (Nat × Option Rows) → Prop
  | [] => True
  | (r, some rows) :: l => (hg h r = some rows ∧ r < nr ∧ ∀ row ∈ rows, ∀ x ∈ row, AV.ltr nr x = true) ∧ leH h nr l
  | (_, none) :: l => leH h nr l
def LeP (s s' : St) : Prop := leT s.t s'.nr s'.t ∧ leH s.h s'.nr s'.h

theorem leT_lk {t : List (Nat × AV)} {nr : Nat} : ∀ (l : List (Nat × AV)), leT t nr l → ∀ k, lk l k = .undef ∨ (lk l k = lk t k ∧ (lk l k).ltr nr = true)
  | [], _, _ => .inl rfl
  | (q, v) :: l, h, k => by
    simp only [lk]
    split
    · rename_i e; subst e; right; exact ⟨h.1.1.symm, h.1.2⟩
    · exact leT_lk l h.2 k
theorem leH_hg {h0 : List (Nat × Option Rows)} {nr : Nat} : ∀ (l : List (Nat × Option Rows)), leH h0 nr l → ∀ r rows, hg l r = some rows → hg h0 r = some rows ∧ r < nr ∧ ∀ row ∈ rows, ∀ x ∈ row, AV.ltr nr x = true
  | [], _, r, rows, h => by simp [hg, upd] at h
  | (q, x) :: l, hl, r, rows, h => by
    have e : hg ((q, x) :: l) r = if r = q then x else hg l r := rfl
    rw [e] at h
    cases x with
    | none =>
      split at h
      · cases h
      · exact leH_hg l hl r rows h
    | some rs =>
      split at h
      · rename_i e; subst e; cases h; exact hl.1
      · exact leH_hg l hl.2 r rows h
theorem LeP.le {s s' : St} (h : LeP s s') : Le s s' := ⟨leT_lk _ h.1, leH_hg _ h.2⟩

/-! ### Code -/
inductive EX where
  | n
  | x (id : Nat)
  | r

def EX.ex : EX → Exit
  | .n => .normal
  | .x id => .exit id
  | .r => .ret

def seqQ (k : St → Prop) (Q : EX → St → Prop) : EX → St → Prop
  | .n, s => k s
  | e, s => Q e s
def blkQ (id : Nat) (Q : EX → St → Prop) : EX → St → Prop
  | .x i, s => if i = id then Q .n s else Q (.x i) s
  | e, s => Q e s

def wpC (P : Program) (m0 : Nat) : AC → (EX → St → Prop) → St → Prop
  | .skip, Q, s => Q .n s
  | .reg ops, Q, s => wpO P ops s (Q .n)
  | .dreg ops A, Q, s => wpD P ops A s (Q .n)
  | .seq a b, Q, s => wpC P m0 a (seqQ (wpC P m0 b Q) Q) s
  | .cond c x y, Q, s => match s.get c with
    | .bool t => if t = true then wpC P m0 x Q s else wpC P m0 y Q s
    | _ => False
  | .blk id b, Q, s => wpC P m0 b (blkQ id Q) s
  | .loop b, Q, s => ∃ (α : Type) (S : α → St) (I : α → Prop) (μ : α → Nat) (x0 : α) (R : St → St → Prop), (∀ a b, R a b → Le a b) ∧ I x0 ∧ R s (S x0) ∧ (∀ x, I x → m0 ≤ (S x).nr) ∧
      ∀ x, I x → wpC P m0 b (seqQ (fun s' => ∃ x', I x' ∧ μ x' < μ x ∧ R s' (S x')) Q) (S x)
  | .exit id, Q, s => Q (.x id) s
  | .ret, Q, s => Q .r s

section
variable {P : Program} {B : Nat} {c0 : Cx} {n m0 : Nat}

theorem wpC_sound (hm : P.follows .mixedOrders = true) (h0 : ∀ r, c0.K r → r < m0) : ∀ (c : Code) (ac : AC), compC P n c = some ac → ∀ (Q : EX → St → Prop) (s : St) (a : Act) (w : World) (Q' : Exit → Act → World → Prop),
    wpC P m0 ac Q s → RS B c0 n s a w → (∀ e s a w, Q e s → RS B c0 n s a w → Q' e.ex a w) → c.wp P Q' a w := by
  intro c
  induction c with
  | skip =>
    intro ac hc Q s a w Q' hw hs hQ
    simp [compC] at hc; subst hc
    exact wp_skip (hQ .n s a w hw hs)
  | region id ops draw =>
    intro ac hc Q s a w Q' hw hs hQ
    simp only [compC] at hc
    cases hos : compOpers P n ops ops.toList with
    | none => simp [hos] at hc
    | some os =>
      simp only [hos] at hc
      cases draw with
      | true =>
        simp only [if_true] at hc
        split at hc
        · rename_i hck
          cases hc
          rw [Bool.and_eq_true] at hck
          exact wpD_sound hm hos hck.1 hck.2 hw hs (fun s a w h1 h2 => hQ .n s a w h1 h2)
        · simp at hc
      | false =>
        simp at hc; subst hc
        obtain ⟨hlen, hget⟩ := compOpers_get ops.toList os hos
        refine wp_region ?_
        exact wpO_sound 0 _ os (by rw [List.range_eq_range']; simp) (fun i o _ ho => by simpa using hget i o (by simpa using ho)) (by simpa using hlen) s (Q .n) a w hw hs (fun s a w h1 h2 => hQ .n s a w h1 h2)
  | seq x y ihx ihy =>
    intro ac hc Q s a w Q' hw hs hQ
    simp only [compC] at hc
    cases h1 : compC P n x with
    | none => simp [h1] at hc
    | some p =>
      cases h2 : compC P n y with
      | none => simp [h1, h2] at hc
      | some q =>
        simp [h1, h2] at hc; subst hc
        refine wp_seq (ihx p h1 _ s a w _ hw hs (fun e s a w hq hr => ?_))
        cases e with
        | n => exact ihy q h2 Q s a w Q' hq hr hQ
        | x id => exact hQ (.x id) s a w hq hr
        | r => exact hQ .r s a w hq hr
  | cond x y z ihy ihz =>
    intro ac hc Q s a w Q' hw hs hQ
    simp only [compC] at hc
    cases h0' : cx x with
    | none => simp [h0'] at hc
    | some c =>
      cases h1 : compC P n y with
      | none => simp [h0', h1] at hc
      | some p =>
        cases h2 : compC P n z with
        | none => simp [h0', h1, h2] at hc
        | some q =>
          simp [h0', h1, h2] at hc; subst hc
          simp only [wpC] at hw
          cases hg0 : s.get c with
          | bool t =>
            rw [hg0] at hw
            simp only at hw
            obtain ⟨⟨cc, hcw, _, _, htm⟩, _, _⟩ := id hs
            have hval := gT_V htm x c h0'
            rw [← get_gT, hg0] at hval
            refine wp_cond (t := t) hval ?_
            cases t with
            | true => exact ihy p h1 Q s a w Q' (by simpa using hw) hs hQ
            | false => exact ihz q h2 Q s a w Q' (by simpa using hw) hs hQ
          | _ => rw [hg0] at hw; exact hw.elim
  | block id b ih =>
    intro ac hc Q s a w Q' hw hs hQ
    simp only [compC] at hc
    cases h1 : compC P n b with
    | none => simp [h1] at hc
    | some p =>
      simp [h1] at hc; subst hc
      refine wp_block (ih p h1 _ s a w _ hw hs (fun e s a w hq hr => ?_))
      cases e with
      | n => exact hQ .n s a w hq hr
      | x i =>
        simp only [EX.ex, Exit.inBlock]
        simp only [blkQ] at hq
        split
        · rename_i e; rw [if_pos e] at hq; exact hQ .n s a w hq hr
        · rename_i e; rw [if_neg e] at hq; exact hQ (.x i) s a w hq hr
      | r => exact hQ .r s a w hq hr
  | loop b ih =>
    intro ac hc Q s a w Q' hw hs hQ
    simp only [compC] at hc
    cases h1 : compC P n b with
    | none => simp [h1] at hc
    | some p =>
      simp [h1] at hc; subst hc
      obtain ⟨α, S, I, μ, x0, R, hR, hI, hle, hnr, hround⟩ := hw
      refine wp_loop_ghost (fun k a w => ∃ x, I x ∧ μ x = k ∧ RS B c0 n (S x) a w) (μ x0) ⟨x0, hI, rfl, hs.le h0 (hR _ _ hle) (hnr x0 hI)⟩ ?_
      rintro k a w ⟨x, hIx, rfl, hsx⟩
      refine ih p h1 _ (S x) a w _ (hround x hIx) hsx (fun e s' a' w' hq hr => ?_)
      cases e with
      | n =>
        obtain ⟨x', hI', hlt, hle'⟩ := hq
        exact ⟨μ x', hlt, x', hI', rfl, hr.le h0 (hR _ _ hle') (hnr x' hI')⟩
      | x id => exact hQ (.x id) s' a' w' hq hr
      | r => exact hQ .r s' a' w' hq hr
  | exit id =>
    intro ac hc Q s a w Q' hw hs hQ
    simp [compC] at hc; subst hc
    exact wp_exit (hQ (.x id) s a w hw hs)
  | ret =>
    intro ac hc Q s a w Q' hw hs hQ
    simp [compC] at hc; subst hc
    exact wp_ret (hQ .r s a w hw hs)
  | _ => intro ac hc; simp [compC] at hc
end
end Go.Proofs.Ytdljklicegcbpaa.Ab
