/- Each operation of the machine, that the abstract view knows, gives what the abstract view says: the plain ones. -/
import Derived.Test.YteoonedddgiacaaAbC
namespace Go.Proofs.Yteoonedddgiacaa.Ab
open Go Go.RowKit
set_option linter.unusedSimpArgs false
set_option linter.unusedVariables false

/-- The machine carries out this operation with this result. -/
def Runs (P : Program) (a : Act) (op : Op) (B : Nat) (c : Cx) (H : Nat → Option Rows) (N : Nat → Prop) (nr : Nat) (v : AV) (u : List (Nat × Option Rows)) (k : Nat) : Prop :=
  ∀ o : Oper, o.op = op → ∃ nx v' w', (execOp a.eval o).run P c.w = .ok nx w' ∧ (nx = .value v' ∨ nx = .skip ∧ v' = undef) ∧ Out B c H N nr v u k v' w'

section
variable {P : Program} {B : Nat} {c : Cx} {H : Nat → Option Rows} {N : Nat → Prop} {nr : Nat} {g : AX → AV} {a : Act}

theorem runs_pure (h : Rel B c H N) {op : Op} {v : AV} (v' : Value) (hrun : ∀ o : Oper, o.op = op → (execOp a.eval o).run P c.w = .ok (.value v') c.w) (hv : V c v v') : Runs P a op B c H N nr v [] 0 :=
  fun o ho => ⟨_, v', c.w, hrun o ho, .inl rfl, out_pure h hv⟩

/-- What 'pureR' says. -/
theorem pureR_inv {v w : AV} {u : List (Nat × Option Rows)} {k : Nat} (h : pureR v = some (w, u, k)) : v = w ∧ u = [] ∧ k = 0 := by
  simp [pureR] at h; exact ⟨h.1, h.2.1, h.2.2.symm⟩

theorem cxs_V {hx : ∀ x y, cx x = some y → V c (g y) (a.eval x)} : ∀ (xs : List Operand) (ys : List AX), cxs xs = some ys → VL c (ys.map g) (xs.map a.eval)
  | [], ys, h => by simp [cxs] at h; subst h; rfl
  | x :: xs, ys, h => by
    unfold cxs at h
    cases h1 : cx x with
    | none => simp [h1] at h
    | some y =>
      cases h2 : cxs xs with
      | none => simp [h1, h2] at h
      | some zs =>
        simp [h1, h2] at h; subst h
        exact ⟨_, _, rfl, hx x y h1, cxs_V (hx := hx) xs zs h2⟩

theorem s_move (h : Rel B c H N) {x : Operand} {y : AX} (hv : V c (g y) (a.eval x)) (asg : Bool) : Runs P a (if asg then .assign x else .move x) B c H N nr (g y) [] 0 := by
  cases asg
  · exact runs_pure h (a.eval x) (fun o ho => by simp only [Bool.false_eq_true, if_false] at ho; simp [execOp, ho]) hv
  · exact runs_pure h (a.eval x) (fun o ho => by simp only [if_true] at ho; simp [execOp, ho]) hv

theorem s_pick (h : Rel B c H N) {x y z : Operand} {p q r : AX} {v u k} (h1 : V c (g p) (a.eval x)) (h2 : V c (g q) (a.eval y)) (h3 : V c (g r) (a.eval z)) (he : ev g H nr (.pick p q r) = some (v, u, k)) :
    Runs P a (.pick x y z) B c H N nr v u k := by
  simp only [ev] at he
  cases hp : g p with
  | bool t =>
    rw [hp] at he h1
    obtain ⟨rfl, rfl, rfl⟩ := pureR_inv he
    have e1 : a.eval x = .bool t := h1
    exact runs_pure h (if t then a.eval y else a.eval z) (fun o ho => by simp [execOp, ho, e1, asBool]) (by cases t <;> simp <;> assumption)
  | _ => simp [hp] at he

theorem s_nck (h : Rel B c H N) {x : Operand} {p : AX} {v u k} (h1 : V c (g p) (a.eval x)) (he : ev g H nr (.nck p) = some (v, u, k)) : Runs P a (.nilCheck x) B c H N nr v u k := by
  simp only [ev] at he
  cases hp : g p with
  | vp cs =>
    rw [hp] at he h1
    obtain ⟨rfl, rfl, rfl⟩ := pureR_inv he
    obtain ⟨ad, e1, h2⟩ := h1
    exact runs_pure h (.pointer (some ad)) (fun o ho => by simp [execOp, ho, e1]) ⟨ad, rfl, h2⟩
  | pt r i j =>
    rw [hp] at he h1
    obtain ⟨rfl, rfl, rfl⟩ := pureR_inv he
    obtain ⟨hk, e1⟩ := h1
    exact runs_pure h _ (fun o ho => by simp [execOp, ho, e1]) ⟨hk, rfl⟩
  | fn f caps =>
    rw [hp] at he h1
    obtain ⟨rfl, rfl, rfl⟩ := pureR_inv he
    obtain ⟨cs, e1, h2⟩ := h1
    exact runs_pure h _ (fun o ho => by simp [execOp, ho, e1]) ⟨cs, rfl, h2⟩
  | _ => simp [hp] at he

theorem s_un (h : Rel B c H N) {op : UnOp} {t : TypeId} {x : Operand} {p : AX} {v u k} (h1 : V c (g p) (a.eval x)) (he : ev g H nr (.un op p) = some (v, u, k)) : Runs P a (.unOp op t x) B c H N nr v u k := by
  simp only [ev] at he
  split at he
  · rename_i b hp
    rw [hp] at h1
    have e1 : a.eval x = .bool b := h1
    obtain ⟨rfl, rfl, rfl⟩ := pureR_inv he
    exact runs_pure h (.bool !b) (fun o ho => by simp [execOp, ho, e1, Op.unary]) rfl
  · rename_i kk n hp
    rw [hp] at h1
    have e1 : a.eval x = .int kk n := h1
    obtain ⟨rfl, rfl, rfl⟩ := pureR_inv he
    exact runs_pure h (.int kk (kk.wrap (0 - n))) (fun o ho => by simp [execOp, ho, e1, Op.unary, Op.intArith]) rfl
  · simp at he

theorem s_cv (h : Rel B c H N) {s t : TypeId} {k1 k2 : IntKind} (hs : P.underlying s = some (.int k1)) (ht : P.underlying t = some (.int k2)) {x : Operand} {p : AX} {v u k} (h1 : V c (g p) (a.eval x))
    (he : ev g H nr (.cv k2 p) = some (v, u, k)) : Runs P a (.convert s t x) B c H N nr v u k := by
  simp only [ev] at he
  cases hp : g p with
  | int kk n =>
    rw [hp] at he h1
    have e1 : a.eval x = .int kk n := h1
    obtain ⟨rfl, rfl, rfl⟩ := pureR_inv he
    exact runs_pure h (.int k2 (k2.wrap n)) (fun o ho => by simp [execOp, ho, e1, convert, run_underlying' hs, run_underlying' ht, Conv.intToInt]) rfl
  | _ => simp [hp] at he

theorem s_mkf (h : Rel B c H N) {f : Nat} {first caps : Array Operand} (hf : first.size = 0) {ys : List AX} (hys : VL c (ys.map g) (caps.toList.map a.eval)) : Runs P a (.makeFunc (.func f) first caps) B c H N nr (.fn f (ys.map g)) [] 0 := by
  have : first = #[] := Array.eq_empty_of_size_eq_zero hf
  subst this
  exact runs_pure h (.func (.func f) #[] (caps.map a.eval)) (fun o ho => by simp [execOp, ho, Instr.makeFunc]) ⟨_, rfl, by simpa using hys⟩

theorem s_fa (h : Rel B c H N) {t : TypeId} {fs : Array Field} {i : Nat} {f : Field} (ht : P.underlying t = some (.struct fs)) (hi : fs[i]? = some f) {s : Nat} (hs : size? P f.type = some s) (hs0 : s ≠ 0)
    {x : Operand} {p : AX} {v u k} (h1 : V c (g p) (a.eval x)) (he : ev g H nr (.fa f.offset p) = some (v, u, k)) : Runs P a (.fieldAddr t x i) B c H N nr v u k := by
  have run : ∀ (ad : Addr) (o : Oper), o.op = .fieldAddr t x i → a.eval x = .pointer (some ad) → (execOp a.eval o).run P c.w = .ok (.value (.pointer (some (ad.add f.offset)))) c.w := by
    intro ad o ho e1
    simp [execOp, ho, e1, Instr.fieldAt, run_underlying' ht, hi, Instr.sureAddr, fieldPlace, run_sizeOf' hs, hs0]
  simp only [ev] at he
  cases hp : g p with
  | vp cs =>
    rw [hp] at he h1
    obtain ⟨rfl, rfl, rfl⟩ := pureR_inv he
    obtain ⟨ad, e1, h2⟩ := h1
    refine runs_pure h _ (fun o ho => run ad o ho e1) ⟨_, rfl, ?_⟩
    have h3 := VC_drop f.offset h2
    rw [Nat.zero_add] at h3
    have : ∀ (xs : List AV) (k : Nat), VC c ad (f.offset + k) xs → VC c (ad.add f.offset) k xs := by
      intro xs
      induction xs with
      | nil => intro k _; trivial
      | cons x xs ih =>
        intro k hk
        obtain ⟨⟨g1, u, g2, g3, g4⟩, g5⟩ := hk
        refine ⟨⟨by rw [add_block]; exact g1, u, ?_, g3, g4⟩, ih (k + 1) g5⟩
        rw [← g2]; congr 1
        unfold Addr.add; split <;> split <;> split <;> simp_all [Nat.add_assoc] <;> omega
    exact this _ 0 h3
  | pt r i' j =>
    rw [hp] at he h1
    obtain ⟨rfl, rfl, rfl⟩ := pureR_inv he
    obtain ⟨hk, e1⟩ := h1
    refine runs_pure h _ (fun o ho => run _ o ho e1) ⟨hk, ?_⟩
    congr 2
    unfold Addr.add; split <;> simp_all [Nat.add_assoc]
  | _ => simp [hp] at he

theorem s_fld (h : Rel B c H N) {t : TypeId} {fs : Array Field} {i : Nat} {f : Field} (ht : P.underlying t = some (.struct fs)) (hi : fs[i]? = some f) {s : Nat} {ag : Bool} (hs : size? P f.type = some s) (hag : isAg P f.type = some ag)
    {x : Operand} {p : AX} {v u k} (h1 : V c (g p) (a.eval x)) (he : ev g H nr (.fld ag f.offset s p) = some (v, u, k)) : Runs P a (.field t x i) B c H N nr v u k := by
  simp only [ev] at he
  cases hp : g p with
  | agg cs =>
    rw [hp] at he h1
    obtain ⟨vs, e1, h2, h3⟩ := h1
    cases ag with
    | true =>
      simp only [if_true] at he
      split at he
      · rename_i hle
        obtain ⟨rfl, rfl, rfl⟩ := pureR_inv he
        refine runs_pure h (.agg (vs.extract f.offset (f.offset + s))) (fun o ho => ?_) ⟨_, rfl, ?_, ?_⟩
        · simp [execOp, ho, e1, Instr.field, run_underlying' ht, hi, asAgg, part, run_isAgg' hag, run_sizeOf' hs]
        · have := VL_take s (VL_drop f.offset h2)
          simpa [List.drop_take] using this
        · intro y hy
          simp at hy
          exact h3 y (List.mem_of_mem_drop (List.mem_of_mem_take (by simpa [List.drop_take] using hy)))
      · simp at he
    | false =>
      simp only [Bool.false_eq_true, if_false] at he
      split at he
      · rename_i y hy
        obtain ⟨rfl, rfl, rfl⟩ := pureR_inv he
        obtain ⟨w, hw, hv⟩ := VL_get h2 hy
        have hw' : vs[f.offset]? = some w := by simpa using hw
        exact runs_pure h w (fun o ho => by simp [execOp, ho, e1, Instr.field, run_underlying' ht, hi, asAgg, part, run_isAgg' hag, hw']) hv
      · simp at he
  | _ => simp [hp] at he

theorem s_ext (h : Rel B c H N) {i : Nat} {x : Operand} {p : AX} {v u k} (h1 : V c (g p) (a.eval x)) (he : ev g H nr (.ext p i) = some (v, u, k)) : Runs P a (.extract x i) B c H N nr v u k := by
  simp only [ev] at he
  cases hp : g p with
  | tup cs =>
    rw [hp] at he h1
    obtain ⟨vs, e1, h2⟩ := h1
    cases hi : cs[i]? with
    | none => simp [hi] at he
    | some y =>
      simp only [hi] at he
      obtain ⟨rfl, rfl, rfl⟩ := pureR_inv he
      obtain ⟨w, hw, hv⟩ := VL_get h2 hi
      have hw' : vs[i]? = some w := by simpa using hw
      exact runs_pure h w (fun o ho => by simp [execOp, ho, e1, Instr.extract, hw']) hv
  | _ => simp [hp] at he

theorem s_bin (h : Rel B c H N) {op : BinOp} {t ty : TypeId} {x y : Operand} {p q : AX} {v u k} (h1 : V c (g p) (a.eval x)) (h2 : V c (g q) (a.eval y)) (he : ev g H nr (.bin op p q) = some (v, u, k)) :
    Runs P a (.binOp op t x y ty) B c H N nr v u k := by
  simp only [ev] at he
  split at he
  · rename_i k1 n1 k2 n2 hp hq
    rw [hp] at h1; rw [hq] at h2
    have e1 : a.eval x = .int k1 n1 := h1
    have e2 : a.eval y = .int k2 n2 := h2
    have run : ∀ (w' : Value) (o : Oper), o.op = .binOp op t x y ty → (binOp op t (.int k1 n1) (.int k2 n2)).run P c.w = .ok w' c.w → (execOp a.eval o).run P c.w = .ok (.value w') c.w := by
      intro w' o ho hr
      simp [execOp, ho, e1, e2, eqGuard_at_int, hr]
    split at he
    · simp only [shI] at he
      split at he
      · simp at he
      · rename_i hb
        obtain ⟨rfl, rfl, rfl⟩ := pureR_inv (by simpa using he)
        exact runs_pure h _ (fun o ho => run _ o ho (by simp [binOp, Op.shift, hb])) rfl
    · simp only [shI] at he
      split at he
      · simp at he
      · rename_i hb
        obtain ⟨rfl, rfl, rfl⟩ := pureR_inv (by simpa using he)
        exact runs_pure h _ (fun o ho => run _ o ho (by simp [binOp, Op.shift, hb])) rfl
    · split at he
      · rename_i hk
        subst hk
        cases op <;> simp only [binI] at he
        case add => obtain ⟨rfl, rfl, rfl⟩ := pureR_inv (by simpa using he); exact runs_pure h _ (fun o ho => run _ o ho (by simp [binOp, Op.intArith])) rfl
        case sub => obtain ⟨rfl, rfl, rfl⟩ := pureR_inv (by simpa using he); exact runs_pure h _ (fun o ho => run _ o ho (by simp [binOp, Op.intArith])) rfl
        case mul => obtain ⟨rfl, rfl, rfl⟩ := pureR_inv (by simpa using he); exact runs_pure h _ (fun o ho => run _ o ho (by simp [binOp, Op.intArith])) rfl
        case quo =>
          split at he
          · simp at he
          · rename_i hb
            obtain ⟨rfl, rfl, rfl⟩ := pureR_inv (by simpa using he); exact runs_pure h _ (fun o ho => run _ o ho (by simp [binOp, Op.intDiv, hb])) rfl
        case rem =>
          split at he
          · simp at he
          · rename_i hb
            obtain ⟨rfl, rfl, rfl⟩ := pureR_inv (by simpa using he); exact runs_pure h _ (fun o ho => run _ o ho (by simp [binOp, Op.intDiv, hb])) rfl
        case and => obtain ⟨rfl, rfl, rfl⟩ := pureR_inv (by simpa using he); exact runs_pure h _ (fun o ho => run _ o ho (by simp [binOp, Op.intBits])) rfl
        case or => obtain ⟨rfl, rfl, rfl⟩ := pureR_inv (by simpa using he); exact runs_pure h _ (fun o ho => run _ o ho (by simp [binOp, Op.intBits])) rfl
        case andNot => obtain ⟨rfl, rfl, rfl⟩ := pureR_inv (by simpa using he); exact runs_pure h _ (fun o ho => run _ o ho (by simp [binOp, Op.intBits])) rfl
        case eql => obtain ⟨rfl, rfl, rfl⟩ := pureR_inv (by simpa using he); exact runs_pure h _ (fun o ho => run _ o ho (by simp [binOp, Op.intCmp])) rfl
        case neq => obtain ⟨rfl, rfl, rfl⟩ := pureR_inv (by simpa using he); exact runs_pure h _ (fun o ho => run _ o ho (by simp [binOp, Op.intCmp])) rfl
        case lss => obtain ⟨rfl, rfl, rfl⟩ := pureR_inv (by simpa using he); exact runs_pure h _ (fun o ho => run _ o ho (by simp [binOp, Op.intCmp])) rfl
        case leq => obtain ⟨rfl, rfl, rfl⟩ := pureR_inv (by simpa using he); exact runs_pure h _ (fun o ho => run _ o ho (by simp [binOp, Op.intCmp])) rfl
        case gtr => obtain ⟨rfl, rfl, rfl⟩ := pureR_inv (by simpa using he); exact runs_pure h _ (fun o ho => run _ o ho (by simp [binOp, Op.intCmp])) rfl
        case geq => obtain ⟨rfl, rfl, rfl⟩ := pureR_inv (by simpa using he); exact runs_pure h _ (fun o ho => run _ o ho (by simp [binOp, Op.intCmp])) rfl
        all_goals simp at he
      · simp at he
  · simp at he
end
end Go.Proofs.Yteoonedddgiacaa.Ab
