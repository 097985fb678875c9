/- Steps of a walk: one law for each form of code and each kind of operation. -/
import Derived.Test.YteoonedddgiacaaAbR
namespace Go.Proofs.Yteoonedddgiacaa.Ab
open Go Go.RowKit
set_option linter.unusedSimpArgs false
set_option linter.unusedVariables false

/-- An operation that leaves the own objects alone (a call may or may not). -/
def qOp : AOp → Bool
  | .alloc _ => false
  | .box _ _ _ => false
  | .build _ _ => true
  | .bsl _ _ _ _ => false
  | .st _ _ _ => false
  | .mks _ _ _ _ _ => false
  | .app _ _ _ _ _ => false
  | .cpy _ _ _ => false
  | .clr _ _ _ => false
  | _ => true

/-- Operations in the order of the text (q false), or quiet ones in any order (q true). -/
def wpG (P : Program) (q : Bool) (os : List AO) (s : St) (K : St → Prop) : Prop := match q with
  | true => wpQ P os s K
  | false => wpO P os s K

section
variable {q : Bool} {P : Program} {m0 : Nat} {t : List (Nat × AV)} {h : List (Nat × Option Rows)} {nr : Nat} {os : List AO} {Q : EX → St → Prop} {K : St → Prop}

/-! ### Code -/
theorem wC_skip {s : St} (hw : Q .n s) : wpC P m0 .skip Q s := hw
theorem wC_reg {s : St} (hw : wpG P false os s (Q .n)) : wpC P m0 (.reg os) Q s := hw
theorem wC_dreg {s : St} {A : List (List Nat)} (hw : wpG P true os s (Q .n)) : wpC P m0 (.dreg os A) Q s := .inl (wpQ_Dr os s [] rfl hw)
theorem wC_dregq {s : St} {A : List (List Nat)} (hq : (os.all fun o => qOp o.op) = true) (hw : wpG P true os s (Q .n)) : wpC P m0 (.dreg os A) Q s := .inl (wpQ_Dr os s [] rfl hw)
theorem wC_seq {s : St} {a b : AC} (hw : wpC P m0 a (seqQ (wpC P m0 b Q) Q) s) : wpC P m0 (.seq a b) Q s := hw
theorem wC_blk {s : St} {id : Nat} {b : AC} (hw : wpC P m0 b (blkQ id Q) s) : wpC P m0 (.blk id b) Q s := hw
theorem wC_exit {s : St} {id : Nat} (hw : Q (.x id) s) : wpC P m0 (.exit id) Q s := hw
theorem wC_ret {s : St} (hw : Q .r s) : wpC P m0 .ret Q s := hw
theorem wC_cond {x : AX} {a b : AC} {c : Bool} (hc : gT (lk t) x = .bool c) (h1 : c = true → wpC P m0 a Q ⟨t, h, nr⟩) (h2 : c = false → wpC P m0 b Q ⟨t, h, nr⟩) : wpC P m0 (.cond x a b) Q ⟨t, h, nr⟩ := by
  simp only [wpC, get_gT, hc]
  cases c with
  | true => simpa using h1 rfl
  | false => simpa using h2 rfl
theorem wC_loop {b : AC} {s : St} (α : Type) (S : α → St) (I : α → Prop) (μ : α → Nat) (x0 : α) (h1 : I x0) (h2 : LeP s (S x0)) (h3 : ∀ x, I x → m0 ≤ (S x).nr)
    (h4 : ∀ x, I x → wpC P m0 b (seqQ (fun s' => ∃ x', I x' ∧ μ x' < μ x ∧ LeP s' (S x')) Q) (S x)) : wpC P m0 (.loop b) Q s := ⟨α, S, I, μ, x0, LeP, fun _ _ h => .inl h.le, h1, h2, h3, h4⟩
theorem wC_loopS {b : AC} {s : St} (α : Type) (S : α → St) (I : α → Prop) (μ : α → Nat) (x0 : α) (h1 : I x0) (h2 : Le s (S x0)) (h3 : ∀ x, I x → m0 ≤ (S x).nr)
    (h4 : ∀ x, I x → wpC P m0 b (seqQ (fun s' => ∃ x', I x' ∧ μ x' < μ x ∧ Le s' (S x')) Q) (S x)) : wpC P m0 (.loop b) Q s := ⟨α, S, I, μ, x0, Le, fun _ _ h => .inl h, h1, h2, h3, h4⟩
/-- A loop whose own objects bear the same numbers in every round; the list tells which object stands for which. -/
theorem wC_loopR {b : AC} {s : St} (α : Type) (S : α → St) (I : α → Prop) (μ : α → Nat) (x0 : α) (h1 : I x0) (h2 : ∃ rs, LePR rs s (S x0))
    (h4 : ∀ x, I x → wpC P 0 b (seqQ (fun s' => ∃ x', I x' ∧ μ x' < μ x ∧ ∃ rs, LePR rs s' (S x')) Q) (S x)) : wpC P 0 (.loop b) Q s :=
  ⟨α, S, I, μ, x0, fun a b => ∃ rs, LePR rs a b, fun _ _ ⟨rs, h⟩ => .inr ⟨_, h.le⟩, h1, h2, fun _ _ => Nat.zero_le _, h4⟩
theorem rn_plain (π : Nat → Nat) : ∀ (l : List AV), (∀ v ∈ l, AV.plain v = true) → rnL π l = l
  | [], _ => rfl
  | x :: xs, h => by
    rw [rnL, rn_plain π xs (fun v hv => h v (List.mem_cons_of_mem _ hv))]
    have := h x List.mem_cons_self
    cases x <;> first | rfl | simp [AV.plain] at this
theorem rn_rows {π : Nat → Nat} {rows : Rows} (h : ∀ row ∈ rows, ∀ v ∈ row, AV.plain v = true) : rows = rows.map fun row => rnL π row := by
  induction rows with
  | nil => rfl
  | cons x xs ih =>
    rw [List.map_cons, ← ih (fun row hr => h row (List.mem_cons_of_mem _ hr)), rn_plain π x (h x List.mem_cons_self)]

theorem q_seq_n {k : St → Prop} {s : St} (hw : k s) : seqQ k Q .n s := hw
theorem q_seq_x {k : St → Prop} {s : St} {i : Nat} (hw : Q (.x i) s) : seqQ k Q (.x i) s := hw
theorem q_seq_r {k : St → Prop} {s : St} (hw : Q .r s) : seqQ k Q .r s := hw
theorem q_blk_n {s : St} {id : Nat} (hw : Q .n s) : blkQ id Q .n s := hw
theorem q_blk_r {s : St} {id : Nat} (hw : Q .r s) : blkQ id Q .r s := hw
theorem q_blk_x {s : St} {id : Nat} (hw : Q .n s) : blkQ id Q (.x id) s := by simpa [blkQ] using hw
theorem q_blk_o {s : St} {id i : Nat} (hi : (i == id) = false) (hw : Q (.x i) s) : blkQ id Q (.x i) s := by
  have : i ≠ id := by simpa using hi
  simpa [blkQ, this] using hw

/-! ### Operations -/
theorem step_ev {op : AOp} {s : St} {KK : AV → List (Nat × Option Rows) → Nat → Prop} {v : AV} {u : List (Nat × Option Rows)} {k : Nat} (he : ev (gT (lk s.t)) (hg s.h) s.nr op = some (v, u, k)) (hk : KK v (u ++ s.h) (s.nr + k)) : stepA P op s KK := by
  unfold stepA
  split
  · simp [ev] at he
  · simp [ev] at he
  · rw [get_gT, he]; exact hk

theorem step_evR {op : AOp} {s : St} {KK : AV → List (Nat × Option Rows) → Nat → Prop} {v : AV} {u : List (Nat × Option Rows)} {k : Nat} (he : ev (gT (lk s.t)) (hg s.h) s.nr op = some (v, u, k)) (hk : KK v u k) : stepR P op s KK := by
  unfold stepR
  split
  · simp [ev] at he
  · simp [ev] at he
  · rw [get_gT, he]; exact hk

theorem wG_nil (hw : K ⟨t, h, nr⟩) : wpG P q [] ⟨t, h, nr⟩ K := by cases q <;> exact hw
theorem wG_pure {d : Nat} {op : AOp} {v : AV} (he : ev (gT (lk t)) (hg h) nr op = some (v, [], 0)) (hw : wpG P q os ⟨(d, v) :: t, h, nr⟩ K) : wpG P q (⟨some d, none, op⟩ :: os) ⟨t, h, nr⟩ K := by
  cases q with
  | false =>
    simp only [wpG, wpO] at hw ⊢
    exact step_ev (s := ⟨t, h, nr⟩) he hw
  | true =>
    simp only [wpG, wpQ] at hw ⊢
    exact step_evR (s := ⟨t, h, nr⟩) he ⟨rfl, rfl, hw⟩
theorem wG_eff {d : Nat} {op : AOp} {v : AV} {u : List (Nat × Option Rows)} {k : Nat} (he : ev (gT (lk t)) (hg h) nr op = some (v, u, k)) (hw : wpG P false os ⟨(d, v) :: t, u ++ h, nr + k⟩ K) : wpG P false (⟨some d, none, op⟩ :: os) ⟨t, h, nr⟩ K := by
  simp only [wpG, wpO] at hw ⊢
  exact step_ev (s := ⟨t, h, nr⟩) he hw
theorem wG_none {op : AOp} {v : AV} {u : List (Nat × Option Rows)} {k : Nat} (he : ev (gT (lk t)) (hg h) nr op = some (v, u, k)) (hw : wpG P false os ⟨t, u ++ h, nr + k⟩ K) : wpG P false (⟨none, none, op⟩ :: os) ⟨t, h, nr⟩ K := by
  simp only [wpG, wpO] at hw ⊢
  exact step_ev (s := ⟨t, h, nr⟩) he hw
theorem wG_new {d : Nat} {op : AOp} {v : AV} {rows : Rows} (he : ev (gT (lk t)) (hg h) nr op = some (v, [(nr, some rows)], 1)) (hw : wpG P false os ⟨(d, v) :: t, (nr, some rows) :: h, nr + 1⟩ K) : wpG P false (⟨some d, none, op⟩ :: os) ⟨t, h, nr⟩ K := wG_eff he hw
theorem wG_upd {op : AOp} {v : AV} {r : Nat} {x : Option Rows} (he : ev (gT (lk t)) (hg h) nr op = some (v, [(r, x)], 0)) (hw : wpG P false os ⟨t, (r, x) :: h, nr⟩ K) : wpG P false (⟨none, none, op⟩ :: os) ⟨t, h, nr⟩ K := wG_none he hw
theorem wG_gy {d : Option Nat} {op : AOp} {g : Nat} {b : Bool} (hc : lk t g = .bool b) (h1 : wpG P q (⟨d, none, op⟩ :: os) ⟨t, h, nr⟩ K) : wpG P q (⟨d, some (g, b), op⟩ :: os) ⟨t, h, nr⟩ K := by
  cases q <;> simp only [wpG, wpO, wpQ, wnt, hc, beq_self_eq_true, if_true] at h1 ⊢ <;> exact h1
theorem wG_gn {d : Nat} {op : AOp} {g : Nat} {b c : Bool} (hc : lk t g = .bool c) (hb : (c == b) = false) (h1 : wpG P q os ⟨(d, .tup []) :: t, h, nr⟩ K) : wpG P q (⟨some d, some (g, b), op⟩ :: os) ⟨t, h, nr⟩ K := by
  cases q <;> simp only [wpG, wpO, wpQ, wnt, hc, hb, Bool.false_eq_true, if_false] at h1 ⊢ <;> exact h1
theorem wG_gu {d : Nat} {op : AOp} {g : Nat} {b : Bool} {vs : List AV} (hc : lk t g = .tup vs) (h1 : wpG P q os ⟨(d, .tup []) :: t, h, nr⟩ K) : wpG P q (⟨some d, some (g, b), op⟩ :: os) ⟨t, h, nr⟩ K := by
  cases q <;> simp only [wpG, wpO, wpQ, wnt, hc, Bool.false_eq_true, if_false] at h1 ⊢ <;> exact h1
theorem wG_gd {d : Option Nat} {op : AOp} {g : Nat} {b : Bool} {p : Prop} {ip : Decidable p} (hc : lk t g = .bool (decide p)) (h1 : p → wpG P q (⟨d, some (g, b), op⟩ :: os) ⟨t, h, nr⟩ K) (h2 : ¬ p → wpG P q (⟨d, some (g, b), op⟩ :: os) ⟨t, h, nr⟩ K) :
    wpG P q (⟨d, some (g, b), op⟩ :: os) ⟨t, h, nr⟩ K := by
  by_cases hp : p
  · exact h1 hp
  · exact h2 hp
/-- A call whose result holds no own objects. -/
theorem wG_call {d f : Nat} {args : List AX} {as : List AV} {v : AV} (hc : Con P f true as v []) (ha : (args.map (gT (lk t))).map (dr (hg h) 6) = as) (hv : sh nr v = v) (hw : wpG P q os ⟨(d, v) :: t, h, nr⟩ K) :
    wpG P q (⟨some d, none, .call f args⟩ :: os) ⟨t, h, nr⟩ K := by
  cases q with
  | false =>
    simp only [wpG, wpO, stepA, callA] at hw ⊢
    refine .inl ⟨true, v, [], ?_, .inl rfl, ?_⟩
    · rw [get_gT]; rw [← ha] at hc; exact hc.g
    · rw [hv]; exact hw
  | true =>
    simp only [wpG, wpQ, stepR] at hw ⊢
    refine ⟨true, v, [], ?_, .inl rfl, rfl, rfl, ?_⟩
    · rw [get_gT]; rw [← ha] at hc; exact hc.g
    · rw [hv]; exact hw
/-- A call of a function value. -/
theorem wG_callv {d f : Nat} {x : AX} {args : List AX} {caps as : List AV} {v : AV} (hx : gT (lk t) x = .fn f caps) (hc : Con P f true as v []) (ha : (args.map (gT (lk t)) ++ caps).map (dr (hg h) 6) = as) (hv : sh nr v = v) (hw : wpG P q os ⟨(d, v) :: t, h, nr⟩ K) :
    wpG P q (⟨some d, none, .callv x args⟩ :: os) ⟨t, h, nr⟩ K := by
  cases q with
  | false =>
    simp only [wpG, wpO, stepA, callA, get_gT, hx] at hw ⊢
    refine .inl ⟨true, v, [], ?_, .inl rfl, ?_⟩
    · rw [← ha] at hc; exact hc.g
    · rw [hv]; exact hw
  | true =>
    simp only [wpG, wpQ, stepR, get_gT, hx] at hw ⊢
    refine ⟨true, v, [], ?_, .inl rfl, rfl, rfl, ?_⟩
    · rw [← ha] at hc; exact hc.g
    · rw [hv]; exact hw
/-- A call that makes one new row. -/
theorem wG_call1 {d f : Nat} {args : List AX} {as : List AV} {v v' : AV} {rows : Rows} (hc : Con P f true as v [rows]) (ha : (args.map (gT (lk t))).map (dr (hg h) 6) = as) (hv : sh nr v = v') (hw : wpG P false os ⟨(d, v') :: t, (nr, some rows) :: h, nr + 1⟩ K) :
    wpG P false (⟨some d, none, .call f args⟩ :: os) ⟨t, h, nr⟩ K := by
  simp only [wpG, wpO, stepA, callA] at hw ⊢
  have hp := shO_plain (n := nr) hc.2.1
  refine .inl ⟨true, v, [rows], ?_, .inl rfl, ?_⟩
  · rw [get_gT]; rw [← ha] at hc; exact hc.g
  · rw [hv, hp]; exact hw
/-- A call that makes new objects which may hold one another. -/
theorem wG_callG {d f : Nat} {args : List AX} {as : List AV} {v v' : AV} {objs objs' : List Rows} (hc : ConG P f true as v objs) (ha : (args.map (gT (lk t))).map (dr (hg h) 6) = as) (hv : sh nr v = v') (ho : objs.map (shR nr) = objs') (hw : wpG P false os ⟨(d, v') :: t, mkh nr objs' ++ h, nr + objs.length⟩ K) :
    wpG P false (⟨some d, none, .call f args⟩ :: os) ⟨t, h, nr⟩ K := by
  simp only [wpG, wpO, stepA, callA] at hw ⊢
  refine .inl ⟨true, v, objs, ?_, .inl rfl, ?_⟩
  · rw [get_gT]; rw [← ha] at hc; exact hc
  · rw [hv, ho]; exact hw

/-- A call of a function that works on the caller's own objects. -/
theorem wG_callS {d f : Nat} {args : List AX} {as : List AV} {v : AV} {h' : List (Nat × Option Rows)} {nr' : Nat} (hc : Sh P f as h nr v h' nr') (ha : args.map (gT (lk t)) = as) (hw : wpG P false os ⟨(d, v) :: t, h', nr'⟩ K) :
    wpG P false (⟨some d, none, .call f args⟩ :: os) ⟨t, h, nr⟩ K := by
  simp only [wpG, wpO, stepA, callA] at hw ⊢
  refine .inr ⟨v, h', nr', ?_, hw⟩
  rw [get_gT, ha]; exact hc

/-- All that stands in the own objects is known. -/
def wfH (h : List (Nat × Option Rows)) (nr : Nat) : Prop := ∀ r rows, hg h r = some rows → r < nr ∧ ∀ row ∈ rows, ∀ x ∈ row, AV.ltr nr x = true
theorem wfH_nil : wfH [] nr := fun r rows h => by simp [hg, upd] at h
theorem wfH_cons {r : Nat} {rows : Rows} {h : List (Nat × Option Rows)} (h1 : r < nr) (h2 : ∀ row ∈ rows, ∀ x ∈ row, AV.ltr nr x = true) (h3 : wfH h nr) : wfH ((r, some rows) :: h) nr := by
  intro q rs hq
  have e : hg ((r, some rows) :: h) q = if q = r then some rows else hg h q := rfl
  rw [e] at hq
  split at hq
  · rename_i e; subst e; cases hq; exact ⟨h1, h2⟩
  · exact h3 q rs hq
theorem Le_of {s s' : St} (h1 : leT s.t s'.nr s'.t) (h2 : ∀ r rows, hg s'.h r = some rows → hg s.h r = some rows) (h3 : wfH s'.h s'.nr) : Le s s' :=
  ⟨leT_lk _ h1, fun r rows h => ⟨h2 r rows h, h3 r rows h⟩⟩

/-! ### Operations on whole numbers that stay in their range -/
theorem e_add {x y : AX} {a b : Int} {T : Nat → AV} {H : Nat → Option Rows} (h1 : gT T x = .int .i64 a) (h2 : gT T y = .int .i64 b) (h3 : -9223372036854775808 ≤ a + b) (h4 : a + b ≤ 9223372036854775807) : ev (gT T) H nr (.bin .add x y) = some (.int .i64 (a + b), [], 0) := by
  simp only [ev, h1, h2, binI, if_true, Option.bind_some, pureR]
  rw [IntWalk.i64_in _ ⟨h3, h4⟩]
theorem e_sub {x y : AX} {a b : Int} {T : Nat → AV} {H : Nat → Option Rows} (h1 : gT T x = .int .i64 a) (h2 : gT T y = .int .i64 b) (h3 : -9223372036854775808 ≤ a - b) (h4 : a - b ≤ 9223372036854775807) : ev (gT T) H nr (.bin .sub x y) = some (.int .i64 (a - b), [], 0) := by
  simp only [ev, h1, h2, binI, if_true, Option.bind_some, pureR]
  rw [IntWalk.i64_in _ ⟨h3, h4⟩]
theorem e_mul {x y : AX} {a b : Int} {T : Nat → AV} {H : Nat → Option Rows} (h1 : gT T x = .int .i64 a) (h2 : gT T y = .int .i64 b) (h3 : -9223372036854775808 ≤ a * b) (h4 : a * b ≤ 9223372036854775807) : ev (gT T) H nr (.bin .mul x y) = some (.int .i64 (a * b), [], 0) := by
  simp only [ev, h1, h2, binI, if_true, Option.bind_some, pureR]
  rw [IntWalk.i64_in _ ⟨h3, h4⟩]
theorem e_ia_vw {x i : AX} {n : Int} {k : IntKind} {sz : Nat} {nn : Bool} {es : Rows} {row : List AV} {T : Nat → AV} {H : Nat → Option Rows} (h1 : gT T x = .vw nn es) (h2 : gT T i = .int k n) (h0 : 0 ≤ n) (h3 : es[n.toNat]? = some row) (h4 : row.length = sz) : ev (gT T) H nr (.ia sz x i) = some (.vp row, [], 0) := by
  simp only [ev, h1, h2, h0, h3, h4, if_true, pureR]
/-- An element of a list that stands row by row in memory. -/
theorem e_ia_vwi {α : Type} [Inhabited α] {f : α → List AV} {xs : List α} {x i : AX} {n : Nat} {k : IntKind} {sz : Nat} {nn : Bool} {T : Nat → AV} {H : Nat → Option Rows} (h1 : gT T x = .vw nn (xs.map f)) (h2 : gT T i = .int k (n : Int)) (h3 : n < xs.length) (h4 : (f (xs.getD n default)).length = sz) :
    ev (gT T) H nr (.ia sz x i) = some (.vp (f (xs.getD n default)), [], 0) := by
  refine e_ia_vw h1 h2 (by omega) ?_ h4
  simp [List.getElem?_map, List.getElem?_eq_getElem h3, List.getD_eq_getElem?_getD]
theorem e_ia_vwn {α : Type} [Inhabited α] {f : α → List AV} {xs : List α} {x i : AX} {n : Int} {k : IntKind} {sz : Nat} {nn : Bool} {T : Nat → AV} {H : Nat → Option Rows} (h1 : gT T x = .vw nn (xs.map f)) (h2 : gT T i = .int k n) (h0 : 0 ≤ n) (h3 : n.toNat < xs.length) (h4 : (f (xs.getD n.toNat default)).length = sz) :
    ev (gT T) H nr (.ia sz x i) = some (.vp (f (xs.getD n.toNat default)), [], 0) := by
  refine e_ia_vw h1 h2 h0 ?_ h4
  simp [List.getElem?_map, List.getElem?_eq_getElem h3, List.getD_eq_getElem?_getD]
theorem e_ia_sl {x i : AX} {n : Int} {k : IntKind} {sz r off len : Nat} {T : Nat → AV} {H : Nat → Option Rows} (h1 : gT T x = .sl r sz off len) (h2 : gT T i = .int k n) (h0 : 0 ≤ n) (h3 : n.toNat < len) : ev (gT T) H nr (.ia sz x i) = some (.pt r (off + n.toNat) 0, [], 0) := by
  simp only [ev, h1, h2, h0, h3, and_self, if_true, pureR]

/-! ### Results -/
theorem ret_val {ro : AOp} {v v' : AV} {s : St} {e : EX} (he : e = .n ∨ e = .r) (hv : retV s ro = some v') (h0 : v' = v) (h1 : retL (πof []) v = [v]) (h2 : notOne v) (h3 : v.ltr 0 = true) : Ret [ro] [] v [] e s := by
  subst h0
  have : Ret [ro] [] v' [] .r s := by
    refine ⟨?_, h2, h3, rfl, List.nodup_nil, fun i rows h => by simp at h⟩
    simp only [retVs, hv, h1]
  rcases he with rfl | rfl
  · exact this
  · exact this
theorem retV_mv {x : AX} {v : AV} (h1 : gT (lk t) x = v) : retV ⟨t, h, nr⟩ (.mv x) = some v := by simp only [retV, ev, get_gT, h1, pureR, Option.map_some]
theorem retV_ldt {sz r i j : Nat} {x : AX} {rows : Rows} {row cs : List AV} (h1 : gT (lk t) x = .pt r i j) (h2 : hg h r = some rows) (h3 : rows[i]? = some row) (h4 : Nat.ble (j + sz) row.length = true) (h5 : (row.drop j).take sz = cs) : retV ⟨t, h, nr⟩ (.ld true sz x) = some (.agg cs) := by
  have h4 := Nat.le_of_ble_eq_true h4
  simp only [retV, ev, get_gT, h1, h2, h3, h4, h5, if_true, pureR, Option.map_some]
theorem retV_ldf {sz r i j : Nat} {x : AX} {rows : Rows} {row : List AV} {v : AV} (h1 : gT (lk t) x = .pt r i j) (h2 : hg h r = some rows) (h3 : rows[i]? = some row) (h4 : row[j]? = some v) : retV ⟨t, h, nr⟩ (.ld false sz x) = some v := by
  simp only [retV, ev, get_gT, h1, h2, h3, h4, pureR, Option.map_some]
  rfl
theorem ret_boolE {ro : AOp} {b : Bool} {s : St} {e : EX} (he : e = .n ∨ e = .r) (h0 : ∃ b', retV s ro = some (.bool b') ∧ b' = b) : Ret [ro] [] (.bool b) [] e s := by
  obtain ⟨b', hv, rfl⟩ := h0
  exact ret_val he hv rfl rfl trivial rfl
theorem ret_intE {ro : AOp} {k : IntKind} {b : Int} {s : St} {e : EX} (he : e = .n ∨ e = .r) (h0 : ∃ b', retV s ro = some (.int k b') ∧ b' = b) : Ret [ro] [] (.int k b) [] e s := by
  obtain ⟨b', hv, rfl⟩ := h0
  exact ret_val he hv rfl rfl trivial rfl
theorem ret_valE {ro : AOp} {v : AV} {s : St} {e : EX} (he : e = .n ∨ e = .r) (h1 : retL (πof []) v = [v]) (h2 : notOne v) (h3 : v.ltr 0 = true) (h0 : ∃ v', retV s ro = some v' ∧ v' = v) : Ret [ro] [] v [] e s := by
  obtain ⟨b', hv, rfl⟩ := h0
  exact ret_val he hv rfl h1 h2 h3
theorem ret_bool {ro : AOp} {b b' : Bool} {s : St} {e : EX} (he : e = .n ∨ e = .r) (hv : retV s ro = some (.bool b')) (h0 : b' = b) : Ret [ro] [] (.bool b) [] e s := ret_val he hv (by rw [h0]) rfl trivial rfl
theorem ret_int {ro : AOp} {k : IntKind} {b b' : Int} {s : St} {e : EX} (he : e = .n ∨ e = .r) (hv : retV s ro = some (.int k b')) (h0 : b' = b) : Ret [ro] [] (.int k b) [] e s := ret_val he hv (by rw [h0]) rfl trivial rfl
theorem ret_plain {ro : AOp} {v : AV} {s : St} (hv : retV s ro = some v) (hp : v.plain = true) : Ret [ro] [] v [] .r s := by
  have h1 : retL (πof []) v = [v] := by cases v <;> first | rfl | simp [AV.plain] at hp
  have h2 : notOne v := by cases v <;> first | trivial | simp [AV.plain] at hp
  have h3 : v.ltr ([] : List Rows).length = true := by cases v <;> first | rfl | simp [AV.plain] at hp
  refine ⟨?_, h2, h3, rfl, List.nodup_nil, fun i rows h => by simp at h⟩
  simp only [retVs, hv, h1]
theorem plain_nil : PlainObjs [] := fun _ h => by simp at h
end
end Go.Proofs.Yteoonedddgiacaa.Ab
