/- Each operation of the machine, that the abstract view knows, gives what the abstract view says: comparisons, indices, loads, stores, new variables. -/
import Derived.Test.YteoonedddgiacaaAbD
import Derived.Laws.StructEq
namespace Go.Proofs.Yteoonedddgiacaa.Ab
open Go Go.RowKit
set_option linter.unusedSimpArgs false
set_option linter.unusedVariables false

theorem add_add' (a : Addr) (i j : Nat) : (a.add i).add j = a.add (i + j) := by
  unfold Addr.add; split <;> split <;> split <;> simp_all [Nat.add_assoc] <;> omega
theorem add_lit' (b o n : Nat) : Addr.add ⟨b, o, none⟩ n = ⟨b, o + n, none⟩ := by
  unfold Addr.add; split <;> simp_all

theorem VC_shift {c : Cx} {ad : Addr} {k0 : Nat} : ∀ (xs : List AV) (k : Nat), VC c ad (k0 + k) xs → VC c (ad.add k0) k xs
  | [], _, _ => trivial
  | x :: xs, k, h => by
    obtain ⟨⟨g1, u, g2, g3, g4⟩, g5⟩ := h
    exact ⟨⟨by rw [add_block]; exact g1, u, by rw [add_add']; exact g2, g3, g4⟩, VC_shift xs (k + 1) g5⟩

theorem one_cell {c : Cx} {x : AV} {v : Value} (h : V c x v) (hx : cellsOf x = some [x]) : v.cells = #[v] ∧ v.oneCell' = true := by
  cases x with
  | undef => simp [cellsOf] at hx
  | tup _ => simp [cellsOf] at hx
  | agg cs => simp only [cellsOf, Option.some.injEq] at hx; have h2 := congrArg (fun l : List AV => SizeOf.sizeOf l) hx; simp at h2; omega
  | bool b => rw [show v = _ from h]; exact ⟨rfl, rfl⟩
  | int k n => rw [show v = _ from h]; exact ⟨rfl, rfl⟩
  | str s => rw [show v = _ from h]; exact ⟨rfl, rfl⟩
  | nilS => rw [show v = _ from h]; exact ⟨rfl, rfl⟩
  | nilP => rw [show v = _ from h]; exact ⟨rfl, rfl⟩
  | nilF => rw [show v = _ from h]; exact ⟨rfl, rfl⟩
  | fn f caps => obtain ⟨_, rfl, _⟩ := h; exact ⟨rfl, rfl⟩
  | vw nn es => obtain ⟨_, _, _, rfl, _⟩ := h; exact ⟨rfl, rfl⟩
  | vp cs => obtain ⟨_, rfl, _⟩ := h; exact ⟨rfl, rfl⟩
  | sl r s o l => obtain ⟨_, _, _, _, rfl, _⟩ := h; exact ⟨rfl, rfl⟩
  | pt r i j => obtain ⟨_, rfl⟩ := h; exact ⟨rfl, rfl⟩

theorem cells_V {c : Cx} {x : AV} {v : Value} (h : V c x v) {cs : List AV} (hx : cellsOf x = some cs) : VL c cs v.cells.toList ∧ (∀ u ∈ v.cells.toList, u.oneCell' = true) ∧ v.cells.size = cs.length := by
  by_cases hag : ∃ ys, x = .agg ys
  · obtain ⟨ys, rfl⟩ := hag
    simp [cellsOf] at hx; subst hx
    obtain ⟨ds, rfl, h1, h2⟩ := h
    exact ⟨h1, h2, by have := VL_length h1; simpa [Value.cells] using this⟩
  · have hx' : cellsOf x = some [x] := by
      cases x <;> simp_all [cellsOf]
    obtain ⟨h1, h2⟩ := one_cell h hx'
    rw [hx'] at hx; cases hx
    rw [h1]
    exact ⟨⟨v, [], rfl, h, rfl⟩, by intro u hu; simp at hu; subst hu; exact h2, rfl⟩

section
variable {P : Program} {B : Nat} {c : Cx} {H : Nat → Option Rows} {N : Nat → Prop} {nr : Nat} {g : AX → AV} {a : Act}

theorem run_equalIn_bool (d : Nat) {t : TypeId} (ht : P.underlying t = some .bool) (x y : Bool) (w : World) : (Op.equalIn (d + 1) t (.bool x) (.bool y)).run P w = .ok (x == y) w := by
  simp only [Op.equalIn, Sem.run_bind, run_underlying' ht, Result.andThen_ok]
  rfl
theorem run_equal_bool {t : TypeId} (ht : P.underlying t = some .bool) (x y : Bool) (w : World) : (Op.equal t (.bool x) (.bool y)).run P w = .ok (x == y) w := run_equalIn_bool 9999 ht x y w

theorem s_bool2 (h : Rel B c H N) {neg : Bool} {t ty : TypeId} (ht : P.underlying t = some .bool) {x y : Operand} {p q : AX} {v u k} (h1 : V c (g p) (a.eval x)) (h2 : V c (g q) (a.eval y)) (he : ev g H nr (.bool2 neg p q) = some (v, u, k)) :
    Runs P a (.binOp (if neg then .neq else .eql) t x y ty) B c H N nr v u k := by
  simp only [ev] at he
  split at he
  · rename_i n1 n2 hp hq
    rw [hp] at h1; rw [hq] at h2
    have e1 : a.eval x = .bool n1 := h1
    have e2 : a.eval y = .bool n2 := h2
    obtain ⟨rfl, rfl, rfl⟩ := pureR_inv he
    cases neg
    · exact runs_pure h (.bool (n1 == n2)) (fun o ho => by simp [execOp, ho, e1, e2, eqGuard_at_bool, binOp, run_equal_bool ht]) rfl
    · exact runs_pure h (.bool (n1 != n2)) (fun o ho => by simp [execOp, ho, e1, e2, eqGuard_at_bool, binOp, run_equal_bool ht, bne]) rfl
  · simp at he

theorem two_V {c : Cx} {k1 k2 : IntKind} {a1 a2 : Int} {v : Value} (h : V c (.agg [.int k1 a1, .int k2 a2]) v) : v = .agg #[.int k1 a1, .int k2 a2] := by
  obtain ⟨ds, rfl, h1, _⟩ := h
  obtain ⟨u1, us, e1, h2, u2, us2, e2, h3, h4⟩ := h1
  have q1 : u1 = .int k1 a1 := h2
  have q2 : u2 = .int k2 a2 := h3
  have q3 : us2 = [] := h4
  subst q1; subst q2; subst q3
  rw [e2] at e1
  congr 1
  exact Array.ext' e1
theorem twoF_run {t : TypeId} (ht : twoF P t = true) (k1 k2 : IntKind) (a1 a2 b1 b2 : Int) (w : World) : (Op.equalIn 10000 t (.agg #[.int k1 a1, .int k2 a2]) (.agg #[.int k1 b1, .int k2 b2])).run P w = .ok (a1 == b1 && a2 == b2) w ∧ P.eqGuardType P.depth t = false := by
  unfold twoF at ht
  split at ht
  · rename_i fs hu
    split at ht
    · rename_i f f' hf
      simp only [Bool.and_eq_true, Bool.not_eq_true', decide_eq_true_eq, beq_iff_eq] at ht
      obtain ⟨⟨⟨⟨⟨⟨⟨⟨t1, t2⟩, t3⟩, t4⟩, t5⟩, t6⟩, t7⟩, t8⟩, t9⟩ := ht
      have hF : P.fieldsOf t = fs := by simp [Program.fieldsOf, hu]
      split at t7
      · rename_i i1 i2 q1 q2
        refine ⟨?_, t2⟩
        rw [show (10000 : Nat) = 9999 + 1 from rfl, run_equalIn_agg w 9999 t _ _ (by rw [hF]; exact hu) t1, hF, hf]
        have p1 : ∀ (xs : Array Value) (v : Value) (w : World), xs[0]? = some v → (part f.type xs f.offset).run P w = .ok v w := fun xs v w hx => by
          rw [t5]
          simp [part, run_isAgg' t8, hx]
        have p2 : ∀ (xs : Array Value) (v : Value) (w : World), xs[1]? = some v → (part f'.type xs f'.offset).run P w = .ok v w := fun xs v w hx => by
          rw [t6]
          simp [part, run_isAgg' t9, hx]
        simp only [Op.eqFields, if_pos t3, if_pos t4, Sem.run_bind]
        rw [p1 _ (.int k1 a1) w rfl]
        simp only [Result.andThen_ok]
        rw [p1 _ (.int k1 b1) w rfl]
        simp only [Result.andThen_ok]
        rw [show (9999 : Nat) = 9998 + 1 from rfl, run_equalIn_int w 9998 f.type k1 i1 a1 b1 q1]
        simp only [Result.andThen_ok]
        by_cases h1 : a1 = b1
        · simp only [h1, beq_self_eq_true, Bool.not_true, Bool.false_eq_true, if_false, Sem.run_bind]
          rw [p2 _ (.int k2 a2) w rfl]
          simp only [Result.andThen_ok]
          rw [p2 _ (.int k2 b2) w rfl]
          simp only [Result.andThen_ok]
          rw [run_equalIn_int w 9998 f'.type k2 i2 a2 b2 q2]
          by_cases h2 : a2 = b2 <;> simp [h2]
        · simp [h1]
      · simp at t7
    · simp at ht
  · simp at ht
theorem s_eqg (h : Rel B c H N) {neg : Bool} {t ty : TypeId} (ht : twoF P t = true) {x y : Operand} {p q : AX} {v u k} (h1 : V c (g p) (a.eval x)) (h2 : V c (g q) (a.eval y)) (he : ev g H nr (.eqg neg 2 p q) = some (v, u, k)) :
    Runs P a (.binOp (if neg then .neq else .eql) t x y ty) B c H N nr v u k := by
  simp only [ev] at he
  split at he
  · rename_i k1 a1 k2 a2 k3 b1 k4 b2 hp hq
    split at he
    · rename_i hk
      obtain ⟨rfl, rfl⟩ := hk
      rw [hp] at h1; rw [hq] at h2
      have e1 := two_V h1
      have e2 := two_V h2
      obtain ⟨rfl, rfl, rfl⟩ := pureR_inv he
      obtain ⟨r1, r2⟩ := twoF_run ht k1 k2 a1 a2 b1 b2 c.w
      cases neg
      · exact runs_pure h (.bool (a1 == b1 && a2 == b2)) (fun o ho => by
          simp only [execOp, ho, e1, e2, Sem.run_bind, Bool.false_eq_true, if_false]
          rw [run_eqGuard_agg _ _ _ _ _ _ _ r2]
          simp only [Result.andThen_ok]
          rw [run_eql_struct, r1]
          rfl) rfl
      · exact runs_pure h (.bool (!(a1 == b1 && a2 == b2))) (fun o ho => by
          simp only [execOp, ho, e1, e2, Sem.run_bind, if_true]
          rw [run_eqGuard_agg _ _ _ _ _ _ _ r2]
          simp only [Result.andThen_ok]
          rw [run_neq_struct, r1]
          rfl) rfl
    · simp at he
  · simp at he

theorem s_str2 (h : Rel B c H N) {op : BinOp} {t ty : TypeId} {x y : Operand} {p q : AX} {v u k} (h1 : V c (g p) (a.eval x)) (h2 : V c (g q) (a.eval y)) (he : ev g H nr (.str2 op p q) = some (v, u, k)) :
    Runs P a (.binOp op t x y ty) B c H N nr v u k := by
  simp only [ev] at he
  split at he
  · rename_i n1 n2 hp hq
    rw [hp] at h1; rw [hq] at h2
    have e1 : a.eval x = .string n1 := h1
    have e2 : a.eval y = .string n2 := h2
    cases op <;> simp only [strO, Option.bind_none, Option.bind_some] at he
    case eql => obtain ⟨rfl, rfl, rfl⟩ := pureR_inv he; exact runs_pure h _ (fun o ho => by simp [execOp, ho, e1, e2, eqGuard_at_string, binOp, Op.stringOp]) rfl
    case neq => obtain ⟨rfl, rfl, rfl⟩ := pureR_inv he; exact runs_pure h _ (fun o ho => by simp [execOp, ho, e1, e2, eqGuard_at_string, binOp, Op.stringOp]) rfl
    case lss => obtain ⟨rfl, rfl, rfl⟩ := pureR_inv he; exact runs_pure h _ (fun o ho => by simp [execOp, ho, e1, e2, eqGuard_at_string, binOp, Op.stringOp]) rfl
    case leq => obtain ⟨rfl, rfl, rfl⟩ := pureR_inv he; exact runs_pure h _ (fun o ho => by simp [execOp, ho, e1, e2, eqGuard_at_string, binOp, Op.stringOp]) rfl
    case gtr => obtain ⟨rfl, rfl, rfl⟩ := pureR_inv he; exact runs_pure h _ (fun o ho => by simp [execOp, ho, e1, e2, eqGuard_at_string, binOp, Op.stringOp]) rfl
    case geq => obtain ⟨rfl, rfl, rfl⟩ := pureR_inv he; exact runs_pure h _ (fun o ho => by simp [execOp, ho, e1, e2, eqGuard_at_string, binOp, Op.stringOp]) rfl
    all_goals simp at he
  · simp at he

theorem s_istr (h : Rel B c H N) {t : TypeId} (ht : P.underlying t = some .string) {x y : Operand} {p q : AX} {v u k} (h1 : V c (g p) (a.eval x)) (h2 : V c (g q) (a.eval y)) (he : ev g H nr (.istr p q) = some (v, u, k)) :
    Runs P a (.index t x y) B c H N nr v u k := by
  simp only [ev] at he
  split at he
  · rename_i s k1 n hp hq
    rw [hp] at h1; rw [hq] at h2
    have e1 : a.eval x = .string s := h1
    have e2 : a.eval y = .int k1 n := h2
    split at he
    · rename_i hn
      cases hb : s[n.toNat]? with
      | none => simp [hb] at he
      | some b =>
        simp only [hb] at he
        obtain ⟨rfl, rfl, rfl⟩ := pureR_inv he
        exact runs_pure h (.int .u8 b.toNat) (fun o ho => by simp [execOp, ho, e1, e2, Instr.index, asIntOf, run_underlying' ht, hn, hb]) rfl
    · simp at he
  · simp at he

theorem len_run {cl : Call} {x : Operand} {t : TypeId} (hcal : cl.callee = .builtin .len) (hargs : cl.args = #[x]) (hty : cl.argTypes[0]? = some t) (o : Oper) (ho : o.op = .call cl) (w : World) (v : Value)
    (hr : (Builtin.len_ cl.argTypes o.type #[a.eval x]).run P w = .ok v w) : (execOp a.eval o).run P w = .ok (.value v) w := by
  simp [execOp, ho, resolve, hcal, hargs, invoke, builtin, hr]

theorem s_len_sl (h : Rel B c H N) {cl : Call} {x : Operand} {t e : TypeId} (hcal : cl.callee = .builtin .len) (hargs : cl.args = #[x]) (hty : cl.argTypes[0]? = some t) (ht : P.underlying t = some (.slice e))
    {p : AX} {v u k} (h1 : V c (g p) (a.eval x)) (he : ev g H nr (.len p) = some (v, u, k)) : Runs P a (.call cl) B c H N nr v u k := by
  have run : ∀ A n cap, a.eval x = .slice A n cap → ∀ o : Oper, o.op = .call cl → (execOp a.eval o).run P c.w = .ok (.value (.int .i64 n)) c.w := fun A n cap ex o ho =>
    len_run hcal hargs hty o ho c.w _ (by simp [Builtin.len_, hty, ex, run_underlying' ht, goInt])
  simp only [ev] at he
  split at he
  · rename_i hp; rw [hp] at h1; obtain ⟨rfl, rfl, rfl⟩ := pureR_inv he
    exact runs_pure h _ (run _ _ _ h1) rfl
  · rename_i nn es hp; rw [hp] at h1; obtain ⟨rfl, rfl, rfl⟩ := pureR_inv he
    obtain ⟨A, cap, sz, e1, _⟩ := h1
    exact runs_pure h _ (run _ _ _ e1) rfl
  · rename_i r s off len hp; rw [hp] at h1; obtain ⟨rfl, rfl, rfl⟩ := pureR_inv he
    obtain ⟨_, _, A, cap, e1, _⟩ := h1
    exact runs_pure h _ (run _ _ _ e1) rfl
  · simp at he

theorem s_len_str (h : Rel B c H N) {cl : Call} {x : Operand} {t : TypeId} (hcal : cl.callee = .builtin .len) (hargs : cl.args = #[x]) (hty : cl.argTypes[0]? = some t) (ht : P.underlying t = some .string)
    {p : AX} {v u k} (h1 : V c (g p) (a.eval x)) (he : ev g H nr (.slen p) = some (v, u, k)) : Runs P a (.call cl) B c H N nr v u k := by
  simp only [ev] at he
  split at he
  case h_2 => simp at he
  rename_i s hs
  obtain ⟨rfl, rfl, rfl⟩ := pureR_inv he
  rw [hs] at h1
  have e1 : a.eval x = .string s := h1
  exact runs_pure h _ (fun o ho => len_run hcal hargs hty o ho c.w _ (by simp [Builtin.len_, hty, e1, run_underlying' ht, goInt])) rfl

theorem s_mx (h : Rel B c H N) {cl : Call} {x y : Operand} (hcal : cl.callee = .builtin .max) (hargs : cl.args = #[x, y]) {p q : AX} {v u k} (h1 : V c (g p) (a.eval x)) (h2 : V c (g q) (a.eval y)) (he : ev g H nr (.mx p q) = some (v, u, k)) :
    Runs P a (.call cl) B c H N nr v u k := by
  simp only [ev] at he
  split at he
  · rename_i k1 n1 k2 n2 hp hq
    rw [hp] at h1; rw [hq] at h2
    have e1 : a.eval x = .int k1 n1 := h1
    have e2 : a.eval y = .int k2 n2 := h2
    obtain ⟨rfl, rfl, rfl⟩ := pureR_inv he
    exact runs_pure h (.int k1 (if n2 > n1 then n2 else n1)) (fun o ho => by simp [execOp, ho, resolve, hcal, hargs, invoke, builtin, Builtin.max_, Builtin.max2, e1, e2]) rfl
  · simp at he
theorem s_mn (h : Rel B c H N) {cl : Call} {x y : Operand} (hcal : cl.callee = .builtin .min) (hargs : cl.args = #[x, y]) {p q : AX} {v u k} (h1 : V c (g p) (a.eval x)) (h2 : V c (g q) (a.eval y)) (he : ev g H nr (.mn p q) = some (v, u, k)) :
    Runs P a (.call cl) B c H N nr v u k := by
  simp only [ev] at he
  split at he
  · rename_i k1 n1 k2 n2 hp hq
    rw [hp] at h1; rw [hq] at h2
    have e1 : a.eval x = .int k1 n1 := h1
    have e2 : a.eval y = .int k2 n2 := h2
    obtain ⟨rfl, rfl, rfl⟩ := pureR_inv he
    exact runs_pure h (.int k1 (if n2 < n1 then n2 else n1)) (fun o ho => by simp [execOp, ho, resolve, hcal, hargs, invoke, builtin, Builtin.min_, Builtin.min2, e1, e2]) rfl
  · simp at he

theorem s_ia (h : Rel B c H N) {t e : TypeId} (ht : P.underlying t = some (.slice e)) {sz : Nat} (hs : size? P e = some sz) {x y : Operand} {p q : AX} {v u k} (h1 : V c (g p) (a.eval x)) (h2 : V c (g q) (a.eval y))
    (he : ev g H nr (.ia sz p q) = some (v, u, k)) : Runs P a (.indexAddr t x y) B c H N nr v u k := by
  have run : ∀ (ad : Addr) (len cap : Nat) (k1 : IntKind) (n : Int), a.eval x = .slice (some ad) len cap → a.eval y = .int k1 n → 0 ≤ n → n < len → ∀ o : Oper, o.op = .indexAddr t x y →
      (execOp a.eval o).run P c.w = .ok (.value (.pointer (some (ad.add (n.toNat * sz))))) c.w := by
    intro ad len cap k1 n e1 e2 hn hl o ho
    simp [execOp, ho, e1, e2, Instr.indexAt, asIntOf, run_underlying' ht, hn, hl, run_sizeOf' hs]
  simp only [ev] at he
  split at he
  · rename_i k1 n hq
    rw [hq] at h2
    have e2 : a.eval y = .int k1 n := h2
    split at he
    · rename_i hn
      split at he
      · rename_i nn es hp
        rw [hp] at h1
        obtain ⟨A, cap, sz', e1, hle, hnn, hm⟩ := h1
        split at he
        · rename_i row hrow
          split at he
          · rename_i hlen
            obtain ⟨rfl, rfl, rfl⟩ := pureR_inv he
            obtain ⟨ad, rfl, hsz, hc⟩ := VM_get hm hrow
            have hlt : n.toNat < es.length := (List.getElem?_eq_some_iff.1 hrow).1
            refine runs_pure h _ (run ad _ _ k1 n e1 e2 hn (by omega)) ⟨_, rfl, ?_⟩
            rw [← hlen, hsz]
            refine VC_shift _ 0 ?_
            simpa using hc
          · simp at he
        · simp at he
      · rename_i r s off len hp
        rw [hp] at h1
        obtain ⟨hk, hsz, A, cap, e1, hA, hin, hcap, hlive⟩ := h1
        split at he
        · rename_i hlt
          obtain ⟨hlt, rfl⟩ := hlt
          obtain ⟨rfl, rfl, rfl⟩ := pureR_inv he
          have hA := hA (by omega)
          subst hA
          refine runs_pure h _ (run _ _ _ k1 n e1 e2 hn (by omega)) ⟨hk, ?_⟩
          rw [add_lit', hsz]
          congr 3
          rw [Nat.add_mul]; omega
        · simp at he
      · simp at he
    · simp at he
  · simp at he

theorem load_run {t : TypeId} {ag : Bool} {sz : Nat} (hag : isAg P t = some ag) (hsz : size? P t = some sz) {x : Operand} {ad : Addr} (e1 : a.eval x = .pointer (some ad)) (w : World) (us : List Value)
    (hl : if ag then us.length = sz else 0 < us.length) (hcell : ∀ (j : Nat) u, us[j]? = some u → w.cell? (ad.add j) = some u) (o : Oper) (ho : o.op = .load t x) :
    (execOp a.eval o).run P w = .ok (.value (if ag then .agg us.toArray else us.headD undef)) w := by
  cases ag with
  | true =>
    simp only [if_true] at hl
    subst hl
    have := run_loadCells_list (P := P) w ad us (fun j v hj => hcell j v hj)
    simp [execOp, ho, e1, Instr.loadAt, Instr.sureAddr, loadVar, run_isAgg' hag, run_sizeOf' hsz, this]
  | false =>
    simp only [Bool.false_eq_true, if_false] at hl
    cases us with
    | nil => simp at hl
    | cons u us =>
      have h0 := hcell 0 u rfl
      rw [Addr.add_zero'] at h0
      simp [execOp, ho, e1, Instr.loadAt, Instr.sureAddr, loadVar, run_isAgg' hag, h0]

theorem ld_intro {op : Op} {v : AV} (v' : Value) (hrun : ∀ o : Oper, o.op = op → (execOp a.eval o).run P c.w = .ok (.value v') c.w) (hv : V c v v') :
    ([] : List (Nat × Option Rows)) = [] ∧ (0 : Nat) = 0 ∧ ∃ v', (∀ o : Oper, o.op = op → (execOp a.eval o).run P c.w = .ok (.value v') c.w) ∧ V c v v' := ⟨rfl, rfl, v', hrun, hv⟩

theorem s_ld_p (h : Rel B c H N) {t : TypeId} {ag : Bool} {sz : Nat} (hag : isAg P t = some ag) (hsz : size? P t = some sz) {x : Operand} {p : AX} {v u k} (h1 : V c (g p) (a.eval x)) (he : ev g H nr (.ld ag sz p) = some (v, u, k)) :
    u = [] ∧ k = 0 ∧ ∃ v', (∀ o : Oper, o.op = .load t x → (execOp a.eval o).run P c.w = .ok (.value v') c.w) ∧ V c v v' := by
  simp only [ev] at he
  split at he
  · rename_i cs hp
    rw [hp] at h1
    obtain ⟨ad, e1, hc⟩ := h1
    obtain ⟨us, l1, l2, l3, l4⟩ := VC_list hc
    simp only [Nat.zero_add] at l4
    cases ag with
    | true =>
      simp only [if_true] at he
      split at he
      · rename_i hle
        obtain ⟨rfl, rfl, rfl⟩ := pureR_inv he
        refine ld_intro (.agg (us.take sz).toArray) (fun o ho => ?_) ⟨_, rfl, by simpa using VL_take sz l2, fun y hy => l3 y (List.mem_of_mem_take (by simpa using hy))⟩
        exact load_run hag hsz e1 c.w (us.take sz) (by simp; omega) (fun j w hj => l4 j w (by rw [List.getElem?_take] at hj; split at hj <;> simp_all)) o ho
      · simp at he
    | false =>
      simp only [Bool.false_eq_true, if_false] at he
      cases cs with
      | nil => simp at he
      | cons y ys =>
        obtain ⟨rfl, rfl, rfl⟩ := pureR_inv he
        obtain ⟨w0, ws, rfl, hv, _⟩ := l2
        exact ld_intro w0 (fun o ho => load_run hag hsz e1 c.w (w0 :: ws) (by simp) l4 o ho) hv
  · rename_i r i j hp
    rw [hp] at h1
    obtain ⟨hk, e1⟩ := h1
    cases hr : H r with
    | none => simp [hr] at he
    | some rows =>
      simp only [hr] at he
      cases hi : rows[i]? with
      | none => simp [hi] at he
      | some row =>
        simp only [hi] at he
        have hcells := h.hr.cells r rows hr i row hi
        cases ag with
        | true =>
          simp only [if_true] at he
          split at he
          · rename_i hle
            obtain ⟨rfl, rfl, rfl⟩ := pureR_inv he
            have key : ∀ (n j0 : Nat) (xs : List AV), (∀ (q : Nat) (x : AV), xs[q]? = some x → row[j0 + q]? = some x) → xs.length = n →
                ∃ us : List Value, us.length = n ∧ VL c xs us ∧ (∀ y ∈ us, y.oneCell' = true) ∧ ∀ (q : Nat) y, us[q]? = some y → c.w.cell? ⟨(c.ρ r).blk, (c.ρ r).st + i * (c.ρ r).sz + (j0 + q), none⟩ = some y := by
              intro n
              induction n with
              | zero => intro j0 xs _ hxs; rw [List.length_eq_zero_iff] at hxs; subst hxs; exact ⟨[], rfl, rfl, by simp, by simp⟩
              | succ n ih =>
                intro j0 xs hx hxs
                cases xs with
                | nil => simp at hxs
                | cons x xs =>
                  obtain ⟨y, g1, g2, g3⟩ := hcells j0 x (by simpa using hx 0 x rfl)
                  obtain ⟨us, f1, f2, f3, f4⟩ := ih (j0 + 1) xs (fun q z hz => by have := hx (q + 1) z (by simpa using hz); rwa [show j0 + (q + 1) = j0 + 1 + q by omega] at this) (by simpa using hxs)
                  refine ⟨y :: us, by simp [f1], ⟨y, us, rfl, g3, f2⟩, ?_, ?_⟩
                  · intro z hz; rcases List.mem_cons.1 hz with rfl | hz; exact g2; exact f3 z hz
                  · intro q z hz
                    cases q with
                    | zero => simp at hz; subst hz; exact g1
                    | succ q => simp at hz; have := f4 q z hz; rwa [show j0 + 1 + q = j0 + (q + 1) by omega] at this
            obtain ⟨us, f1, f2, f3, f4⟩ := key sz j ((row.drop j).take sz) (fun q z hz => by
              rw [List.getElem?_take] at hz
              split at hz
              · rwa [List.getElem?_drop] at hz
              · simp at hz) (by simp; omega)
            refine ld_intro (.agg us.toArray) (fun o ho => ?_) ⟨_, rfl, by simpa using f2, fun y hy => f3 y (by simpa using hy)⟩
            exact load_run hag hsz e1 c.w us (by simpa using f1) (fun q w hq => by rw [add_lit']; have := f4 q w hq; rwa [Nat.add_assoc] ) o ho
          · simp at he
        | false =>
          simp only [Bool.false_eq_true, if_false] at he
          cases hj : row[j]? with
          | none => simp [hj] at he
          | some y =>
            simp only [hj] at he
            obtain ⟨rfl, rfl, rfl⟩ := pureR_inv he
            obtain ⟨w0, g1, g2, g3⟩ := hcells j y hj
            exact ld_intro w0 (fun o ho => load_run hag hsz e1 c.w [w0] (by simp) (fun q w hq => by
              cases q with
              | zero => simp at hq; subst hq; rw [Addr.add_zero']; exact g1
              | succ q => simp at hq) o ho) g3
  · simp at he

theorem s_ld (h : Rel B c H N) {t : TypeId} {ag : Bool} {sz : Nat} (hag : isAg P t = some ag) (hsz : size? P t = some sz) {x : Operand} {p : AX} {v u k} (h1 : V c (g p) (a.eval x)) (he : ev g H nr (.ld ag sz p) = some (v, u, k)) :
    Runs P a (.load t x) B c H N nr v u k := by
  obtain ⟨rfl, rfl, v', h2, h3⟩ := s_ld_p h hag hsz h1 he
  exact runs_pure h v' h2 h3

end
end Go.Proofs.Yteoonedddgiacaa.Ab
