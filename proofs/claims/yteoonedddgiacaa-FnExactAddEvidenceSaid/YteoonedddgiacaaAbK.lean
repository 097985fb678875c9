/- Contracts: what a call gives on values by content; how a caller uses one. -/
import Derived.Test.YteoonedddgiacaaAbJ
namespace Go.Proofs.Yteoonedddgiacaa.Ab
open Go Go.RowKit
set_option linter.unusedSimpArgs false
set_option linter.unusedVariables false

def AV.plain : AV → Bool
  | .bool _ | .int _ _ | .str _ | .nilS | .nilP | .nilF => true
  | _ => false
mutual
/-- No own objects at the top. -/
def AV.nrf : AV → Bool
  | .sl _ _ _ _ | .pt _ _ _ => false
  | .agg cs => nrfL cs
  | .tup cs => nrfL cs
  | .fn _ cs => nrfL cs
  | _ => true
def nrfL : List AV → Bool
  | [] => true
  | x :: xs => x.nrf && nrfL xs
end
mutual
/-- No views. -/
def AV.nvf : AV → Bool
  | .vw _ _ | .vp _ => false
  | .agg cs => nvfL cs
  | .tup cs => nvfL cs
  | .fn _ cs => nvfL cs
  | _ => true
def nvfL : List AV → Bool
  | [] => true
  | x :: xs => x.nvf && nvfL xs
end
mutual
/-- Own objects under higher numbers. -/
def sh (n : Nat) : AV → AV
  | .sl r s o l => .sl (n + r) s o l
  | .pt r i j => .pt (n + r) i j
  | .agg cs => .agg (shL n cs)
  | .tup cs => .tup (shL n cs)
  | .fn f cs => .fn f (shL n cs)
  | x => x
def shL (n : Nat) : List AV → List AV
  | [] => []
  | x :: xs => sh n x :: shL n xs
end

/-- Own objects by content. -/
def dr (H : Nat → Option Rows) : Nat → AV → AV
  | 0, _ => .undef
  | n + 1, .sl r s off len => match H r with
    | some rows => .vw true (((rows.drop off).take len).map fun row => row.map (dr H n))
    | none => .undef
  | n + 1, .pt r i j => match H r with
    | some rows => match rows[i]? with
      | some row => .vp ((row.drop j).map (dr H n))
      | none => .undef
    | none => .undef
  | n + 1, .agg cs => .agg (cs.map (dr H n))
  | n + 1, .tup cs => .tup (cs.map (dr H n))
  | n + 1, .fn f cs => .fn f (cs.map (dr H n))
  | _ + 1, x => x

def mkh : Nat → List Rows → List (Nat × Option Rows)
  | _, [] => []
  | n, x :: xs => (n, some x) :: mkh (n + 1) xs

def hl (objs : List Rows) : Nat → Option Rows := fun r => objs[r]?

theorem V_plain {c c' : Cx} {x : AV} {v : Value} (hx : x.plain = true) (h : V c x v) : V c' x v := by
  cases x <;> first | (simp [AV.plain] at hx; done) | exact h

theorem VM_cl {c : Cx} {A : Option Addr} {sz : Nat} {es : List (List AV)} {i : Nat} (h : VM c A sz i es) : VM c.cl A sz i es := by
  refine VM_of es i (fun q row hq => ?_)
  obtain ⟨a, h1, h2, h3⟩ := VM_get h hq
  refine ⟨a, h1, h2, ?_⟩
  have : ∀ (xs : List AV) (k : Nat), VC c a k xs → VC c.cl a k xs := by
    intro xs
    induction xs with
    | nil => intro k _; trivial
    | cons x xs ih => intro k hk; exact ⟨hk.1, ih _ hk.2⟩
  exact this _ _ h3
theorem VC_cl {c : Cx} {a : Addr} : ∀ {xs : List AV} {k : Nat}, VC c a k xs → VC c.cl a k xs
  | [], _, _ => trivial
  | x :: xs, k, h => ⟨h.1, VC_cl h.2⟩

/-- As seen by a callee that gets all by content. -/
def dcx (c : Cx) (H : Nat → Option Rows) : Cx := { F := fun k => c.F k ∨ ∃ r rows, H r = some rows ∧ (c.ρ r).blk = k, K := fun _ => False, ρ := c.ρ, w := c.w }

theorem ext_dcx (c : Cx) (H : Nat → Option Rows) : Ext c.cl (dcx c H) := ⟨fun k hk => ⟨.inl hk, rfl⟩, fun _ h => h.elim, fun _ _ h => h⟩

section
variable {P : Program} {B : Nat} {c : Cx} {H : Nat → Option Rows} {N : Nat → Prop} {nr : Nat}

theorem VL_map {c c' : Cx} {f : AV → AV} : ∀ {xs : List AV} {vs : List Value}, (∀ x v, x ∈ xs → V c x v → V c' (f x) v) → VL c xs vs → VL c' (xs.map f) vs
  | [], _, _, h => h
  | x :: xs, vs, hf, h => by
    obtain ⟨u, us, rfl, h1, h2⟩ := h
    exact ⟨u, us, rfl, hf x u (List.mem_cons_self ..) h1, VL_map (fun x v hx => hf x v (List.mem_cons_of_mem _ hx)) h2⟩

theorem V_dr (h : Rel B c H N) : ∀ (n : Nat) (x : AV) (v : Value), V c x v → V (dcx c H) (dr H n x) v
  | 0, x, v, _ => trivial
  | n + 1, .undef, v, _ => trivial
  | n + 1, .bool _, v, hv => hv
  | n + 1, .int _ _, v, hv => hv
  | n + 1, .str _, v, hv => hv
  | n + 1, .nilS, v, hv => hv
  | n + 1, .nilP, v, hv => hv
  | n + 1, .nilF, v, hv => hv
  | n + 1, .fn f cs, v, hv => by
    obtain ⟨ds, h1, h2⟩ := hv
    exact ⟨ds, h1, VL_map (fun x v _ hx => V_dr h n x v hx) h2⟩
  | n + 1, .agg cs, v, hv => by
    obtain ⟨ds, h1, h2, h3⟩ := hv
    exact ⟨ds, h1, VL_map (fun x v _ hx => V_dr h n x v hx) h2, h3⟩
  | n + 1, .tup cs, v, hv => by
    obtain ⟨ds, h1, h2⟩ := hv
    exact ⟨ds, h1, VL_map (fun x v _ hx => V_dr h n x v hx) h2⟩
  | n + 1, .vw nn es, v, hv => by
    obtain ⟨A, cap, sz, h1, h2, h3, h4⟩ := hv
    exact ⟨A, cap, sz, h1, h2, h3, VM_mono (ext_dcx c H) A sz 0 es (VM_cl h4)⟩
  | n + 1, .vp cs, v, hv => by
    obtain ⟨a, h1, h2⟩ := hv
    exact ⟨a, h1, VC_mono (ext_dcx c H) a 0 cs (VC_cl h2)⟩
  | n + 1, .sl r s off len, v, hv => by
    simp only [dr]
    cases hr : H r with
    | none => trivial
    | some rows =>
      obtain ⟨hk, hsz, A, cap, h1, hA, hin, hcap, hlive⟩ := hv
      have hn := h.hr.len r rows hr
      have hlen : (((rows.drop off).take len).map fun row => row.map (dr H n)).length = len := by simp; omega
      refine ⟨some A, cap, s, by rw [hlen]; exact h1, by rw [hlen]; omega, by simp, VM_of _ 0 (fun i row hi => ?_)⟩
      simp only [List.getElem?_map, Option.map_eq_some_iff] at hi
      obtain ⟨row0, hi, rfl⟩ := hi
      rw [List.getElem?_take] at hi
      split at hi
      · rename_i hil
        rw [List.getElem?_drop] at hi
        have hA := hA (by omega)
        subst hA
        have hrl := h.hr.rowlen r rows hr row0 (List.mem_of_getElem? hi)
        refine ⟨_, rfl, by simp; omega, ?_⟩
        have hcells := h.hr.cells r rows hr _ row0 hi
        have key : ∀ (xs : List AV) (j0 : Nat), (∀ (q : Nat) (x : AV), xs[q]? = some x → row0[j0 + q]? = some x) → VC (dcx c H) ⟨(c.ρ r).blk, (c.ρ r).st + off * s, none⟩ (i * s + j0) (xs.map (dr H n)) := by
          intro xs
          induction xs with
          | nil => intro _ _; trivial
          | cons x xs ih =>
            intro j0 hx
            obtain ⟨u, g1, g2, g3⟩ := hcells j0 x (by simpa using hx 0 x rfl)
            refine ⟨⟨.inr ⟨r, rows, hr, rfl⟩, u, ?_, g2, V_dr h n x u g3⟩, ?_⟩
            · rw [add_lit', ← g1]
              show c.w.cell? _ = c.w.cell? _
              congr 2
              rw [hsz, Nat.add_mul]; omega
            · have := ih (j0 + 1) (fun q z hz => by have := hx (q + 1) z (by simpa using hz); rwa [show j0 + (q + 1) = j0 + 1 + q by omega] at this)
              rwa [show i * s + (j0 + 1) = i * s + j0 + 1 by omega] at this
        have := key row0 0 (fun q x hq => by simpa using hq)
        simpa using this
      · simp at hi
  | n + 1, .pt r i j, v, hv => by
    simp only [dr]
    cases hr : H r with
    | none => trivial
    | some rows =>
      dsimp only
      cases hi : rows[i]? with
      | none => trivial
      | some row =>
        obtain ⟨hk, h1⟩ := hv
        refine ⟨_, h1, ?_⟩
        have hcells := h.hr.cells r rows hr _ row hi
        have key : ∀ (xs : List AV) (j0 : Nat), (∀ (q : Nat) (x : AV), xs[q]? = some x → row[j + j0 + q]? = some x) → VC (dcx c H) ⟨(c.ρ r).blk, (c.ρ r).st + i * (c.ρ r).sz + j, none⟩ j0 (xs.map (dr H n)) := by
          intro xs
          induction xs with
          | nil => intro _ _; trivial
          | cons x xs ih =>
            intro j0 hx
            obtain ⟨u, g1, g2, g3⟩ := hcells (j + j0) x (by simpa using hx 0 x rfl)
            refine ⟨⟨.inr ⟨r, rows, hr, rfl⟩, u, ?_, g2, V_dr h n x u g3⟩, ?_⟩
            · rw [add_lit', ← g1]
              show c.w.cell? _ = c.w.cell? _
              congr 2
              omega
            · exact ih (j0 + 1) (fun q z hz => by have := hx (q + 1) z (by simpa using hz); rwa [show j + j0 + (q + 1) = j + (j0 + 1) + q by omega] at this)
        exact key (row.drop j) 0 (fun q x hq => by rw [List.getElem?_drop] at hq; simpa using hq)

mutual
theorem V_nrf : ∀ (x : AV) (c : Cx) (v : Value), x.nrf = true → V c x v → V c.cl x v
  | .undef, _, _, _, _ => trivial
  | .bool _, _, _, _, h => h
  | .int _ _, _, _, _, h => h
  | .str _, _, _, _, h => h
  | .nilS, _, _, _, h => h
  | .nilP, _, _, _, h => h
  | .nilF, _, _, _, h => h
  | .fn f cs, c, v, hx, h => by obtain ⟨ds, h1, h2⟩ := h; exact ⟨ds, h1, VL_nrf cs c _ hx h2⟩
  | .agg cs, c, v, hx, h => by obtain ⟨ds, h1, h2, h3⟩ := h; exact ⟨ds, h1, VL_nrf cs c _ hx h2, h3⟩
  | .tup cs, c, v, hx, h => by obtain ⟨ds, h1, h2⟩ := h; exact ⟨ds, h1, VL_nrf cs c _ hx h2⟩
  | .vw nn es, c, v, _, h => by obtain ⟨A, cap, sz, h1, h2, h3, h4⟩ := h; exact ⟨A, cap, sz, h1, h2, h3, VM_cl h4⟩
  | .vp cs, c, v, _, h => by obtain ⟨a, h1, h2⟩ := h; exact ⟨a, h1, VC_cl h2⟩
  | .sl _ _ _ _, _, _, hx, _ => by simp [AV.nrf] at hx
  | .pt _ _ _, _, _, hx, _ => by simp [AV.nrf] at hx
theorem VL_nrf : ∀ (xs : List AV) (c : Cx) (vs : List Value), nrfL xs = true → VL c xs vs → VL c.cl xs vs
  | [], _, _, _, h => h
  | x :: xs, c, vs, hx, h => by
    simp only [nrfL, Bool.and_eq_true] at hx
    obtain ⟨u, us, h1, h2, h3⟩ := h
    exact ⟨u, us, h1, V_nrf x c u hx.1 h2, VL_nrf xs c us hx.2 h3⟩
end
theorem V_dr_nrf : ∀ (n : Nat) (x : AV) (v : Value), x.nrf = true → V c x v → V c.cl (dr H n x) v
  | 0, x, v, _, _ => trivial
  | n + 1, .undef, v, _, _ => trivial
  | n + 1, .bool _, v, _, hv => hv
  | n + 1, .int _ _, v, _, hv => hv
  | n + 1, .str _, v, _, hv => hv
  | n + 1, .nilS, v, _, hv => hv
  | n + 1, .nilP, v, _, hv => hv
  | n + 1, .nilF, v, _, hv => hv
  | n + 1, .fn f cs, v, hx, hv => by
    obtain ⟨ds, h1, h2⟩ := hv
    exact ⟨ds, h1, drL_nrf n cs _ hx h2⟩
  | n + 1, .agg cs, v, hx, hv => by
    obtain ⟨ds, h1, h2, h3⟩ := hv
    exact ⟨ds, h1, drL_nrf n cs _ hx h2, h3⟩
  | n + 1, .tup cs, v, hx, hv => by
    obtain ⟨ds, h1, h2⟩ := hv
    exact ⟨ds, h1, drL_nrf n cs _ hx h2⟩
  | n + 1, .vw nn es, v, hx, hv => V_nrf (.vw nn es) c v hx hv
  | n + 1, .vp cs, v, hx, hv => V_nrf (.vp cs) c v hx hv
  | n + 1, .sl _ _ _ _, _, hx, _ => by simp [AV.nrf] at hx
  | n + 1, .pt _ _ _, _, hx, _ => by simp [AV.nrf] at hx
where drL_nrf (n : Nat) : ∀ (xs : List AV) (vs : List Value), nrfL xs = true → VL c xs vs → VL c.cl (xs.map (dr H n)) vs
  | [], _, _, h => h
  | x :: xs, vs, hx, h => by
    simp only [nrfL, Bool.and_eq_true] at hx
    obtain ⟨u, us, h1, h2, h3⟩ := h
    exact ⟨u, us, h1, V_dr_nrf n x u hx.1 h2, drL_nrf n xs us hx.2 h3⟩
end

/-- All numbers from n on are free. -/
def frm (n : Nat) : Nat → Prop := fun r => n ≤ r

/-! ### Contracts -/
def Enters (P : Program) (f : Nat) : Prop := ∀ (args : Array Value) (w : World), (callFunc f args).run P w = .ok (.enter f args) w

def ρ0 : Nat → Info := fun _ => ⟨0, 0, 0, 0⟩
def cx0 (F : Nat → Prop) (w : World) : Cx := ⟨F, fun _ => False, ρ0, w⟩
def Cx.nv (c : Cx) (nv : Bool) : Cx := if nv then { c with F := fun _ => False } else c
def PlainObjs (objs : List Rows) : Prop := ∀ rows ∈ objs, ∀ row ∈ rows, ∀ x ∈ row, AV.plain x = true

mutual
theorem V_nvf : ∀ (x : AV) (c : Cx) (v : Value), x.nvf = true → V c x v → V { c with F := fun _ => False } x v
  | .undef, _, _, _, _ => trivial
  | .bool _, _, _, _, h => h
  | .int _ _, _, _, _, h => h
  | .str _, _, _, _, h => h
  | .nilS, _, _, _, h => h
  | .nilP, _, _, _, h => h
  | .nilF, _, _, _, h => h
  | .fn f cs, c, v, hx, h => by obtain ⟨ds, h1, h2⟩ := h; exact ⟨ds, h1, VL_nvf cs c _ hx h2⟩
  | .agg cs, c, v, hx, h => by obtain ⟨ds, h1, h2, h3⟩ := h; exact ⟨ds, h1, VL_nvf cs c _ hx h2, h3⟩
  | .tup cs, c, v, hx, h => by obtain ⟨ds, h1, h2⟩ := h; exact ⟨ds, h1, VL_nvf cs c _ hx h2⟩
  | .vw _ _, _, _, hx, _ => by simp [AV.nvf] at hx
  | .vp _, _, _, hx, _ => by simp [AV.nvf] at hx
  | .sl r s o l, c, v, _, h => h
  | .pt r i j, c, v, _, h => h
theorem VL_nvf : ∀ (xs : List AV) (c : Cx) (vs : List Value), nvfL xs = true → VL c xs vs → VL { c with F := fun _ => False } xs vs
  | [], _, _, _, h => h
  | x :: xs, c, vs, hx, h => by
    simp only [nvfL, Bool.and_eq_true] at hx
    obtain ⟨u, us, h1, h2, h3⟩ := h
    exact ⟨u, us, h1, V_nvf x c u hx.1 h2, VL_nvf xs c us hx.2 h3⟩
end

def shR (n : Nat) (rows : Rows) : Rows := rows.map (shL n)
theorem sh_plain {n : Nat} {x : AV} (h : x.plain = true) : sh n x = x := by cases x <;> first | rfl | simp [AV.plain] at h
theorem shL_plain {n : Nat} : ∀ {row : List AV}, (∀ x ∈ row, AV.plain x = true) → shL n row = row
  | [], _ => rfl
  | x :: xs, h => by rw [shL, sh_plain (h x List.mem_cons_self), shL_plain (fun y hy => h y (List.mem_cons_of_mem _ hy))]
theorem shR_plain {n : Nat} : ∀ {rows : Rows}, (∀ row ∈ rows, ∀ x ∈ row, AV.plain x = true) → shR n rows = rows
  | [], _ => rfl
  | row :: rows, h => by
    have := shR_plain (n := n) (rows := rows) (fun r hr => h r (List.mem_cons_of_mem _ hr))
    unfold shR at this ⊢
    rw [List.map_cons, this, shL_plain (h row List.mem_cons_self)]
theorem shO_plain {n : Nat} : ∀ {objs : List Rows}, PlainObjs objs → objs.map (shR n) = objs
  | [], _ => rfl
  | rows :: objs, h => by rw [List.map_cons, shO_plain (objs := objs) (fun r hr => h r (List.mem_cons_of_mem _ hr)), shR_plain (h rows List.mem_cons_self)]
theorem shL_get {n : Nat} : ∀ {row : List AV} {j : Nat} {x : AV}, (shL n row)[j]? = some x → ∃ y, row[j]? = some y ∧ x = sh n y
  | [], j, x, h => by simp [shL] at h
  | y :: ys, j, x, h => by
    cases j with
    | zero => simp [shL] at h; exact ⟨y, rfl, h.symm⟩
    | succ j => simp [shL] at h; obtain ⟨z, h1, h2⟩ := shL_get h; exact ⟨z, by simpa using h1, h2⟩
theorem shL_len {n : Nat} : ∀ {row : List AV}, (shL n row).length = row.length
  | [] => rfl
  | y :: ys => by simp [shL, shL_len (row := ys)]

/-- The same for new objects that hold one another: numbers from 0 on. -/
def ConG (P : Program) (f : Nat) (nv : Bool) (args : List AV) (v : AV) (objs : List Rows) : Prop :=
  Enters P f ∧ (∀ rows ∈ objs, ∀ row ∈ rows, ∀ x ∈ row, AV.nvf x = true) ∧ ∀ (F : Nat → Prop) (w : World) (cargs : Array Value), (∀ k, F k → k < w.heap.size) → VL (cx0 F w) args cargs.toList →
    Calls P f cargs w fun e w' => ∃ c cv, e = .returned cv ∧ c.w = w' ∧ Later w.heap.size (cx0 F w) c ∧ Rel w.heap.size c (hl objs) (frm objs.length) ∧ V (c.nv nv) v cv
/-- All goes in and out by content; what comes out new is told as own objects. -/
def Con (P : Program) (f : Nat) (nv : Bool) (args : List AV) (v : AV) (objs : List Rows) : Prop :=
  Enters P f ∧ PlainObjs objs ∧ ∀ (F : Nat → Prop) (w : World) (cargs : Array Value), (∀ k, F k → k < w.heap.size) → VL (cx0 F w) args cargs.toList →
    Calls P f cargs w fun e w' => ∃ c cv, e = .returned cv ∧ c.w = w' ∧ Later w.heap.size (cx0 F w) c ∧ Rel w.heap.size c (hl objs) (frm objs.length) ∧ V (c.nv nv) v cv

theorem Con.g {P : Program} {f : Nat} {nv : Bool} {args : List AV} {v : AV} {objs : List Rows} (h : Con P f nv args v objs) : ConG P f nv args v objs :=
  ⟨h.1, fun rows hr row hw x hx => by have := h.2.1 rows hr row hw x hx; cases x <;> first | rfl | simp [AV.plain] at this, h.2.2⟩

/-- The callee works on the caller's own objects. -/
def Sh (P : Program) (f : Nat) (args : List AV) (h : List (Nat × Option Rows)) (nr : Nat) (v : AV) (h' : List (Nat × Option Rows)) (nr' : Nat) : Prop :=
  Enters P f ∧ ∀ (B : Nat) (c0 : Cx) (cargs : Array Value), Rel B c0 (hg h) (frm nr) → VL c0 args cargs.toList →
    Calls P f cargs c0.w fun e w' => ∃ c cv, e = .returned cv ∧ c.w = w' ∧ Later B c0 c ∧ Rel B c (hg h') (frm nr') ∧ V c v cv

theorem mkh_get (H : Nat → Option Rows) : ∀ (objs : List Rows) (n r : Nat), upd H (mkh n objs) r = if n ≤ r ∧ r < n + objs.length then objs[r - n]? else H r
  | [], n, r => by simp [mkh, upd]; intro h1 h2; omega
  | x :: xs, n, r => by
    simp only [mkh, upd]
    split
    · rename_i e; subst e; simp
    · rename_i e
      rw [mkh_get H xs (n + 1) r]
      by_cases h1 : n + 1 ≤ r ∧ r < n + 1 + xs.length
      · rw [if_pos h1, if_pos (by simp; omega), show r - n = (r - (n + 1)) + 1 by omega]; simp
      · rw [if_neg h1, if_neg (by simp; omega)]

mutual
theorem V_sh {cq c' : Cx} {n : Nat} (hK : ∀ r, cq.K r → c'.K (n + r) ∧ c'.ρ (n + r) = cq.ρ r) (hF : Ext cq.cl c') (hw : cq.w = c'.w) : ∀ (x : AV) (v : Value), V cq x v → V c' (sh n x) v
  | .undef, _, _ => trivial
  | .bool _, _, h => h
  | .int _ _, _, h => h
  | .str _, _, h => h
  | .nilS, _, h => h
  | .nilP, _, h => h
  | .nilF, _, h => h
  | .fn f cs, v, h => by obtain ⟨ds, h1, h2⟩ := h; exact ⟨ds, h1, VL_sh hK hF hw cs _ h2⟩
  | .agg cs, v, h => by obtain ⟨ds, h1, h2, h3⟩ := h; exact ⟨ds, h1, VL_sh hK hF hw cs _ h2, h3⟩
  | .tup cs, v, h => by obtain ⟨ds, h1, h2⟩ := h; exact ⟨ds, h1, VL_sh hK hF hw cs _ h2⟩
  | .vw nn es, v, h => by obtain ⟨A, cap, sz, h1, h2, h3, h4⟩ := h; exact ⟨A, cap, sz, h1, h2, h3, VM_mono hF A sz 0 es (VM_cl h4)⟩
  | .vp cs, v, h => by obtain ⟨a, h1, h2⟩ := h; exact ⟨a, h1, VC_mono hF a 0 cs (VC_cl h2)⟩
  | .sl r s o l, v, h => by
    obtain ⟨h1, h2, A, cap, h3, h4, h5, h6, h7⟩ := h
    obtain ⟨k1, k2⟩ := hK r h1
    exact ⟨k1, by rw [k2]; exact h2, A, cap, h3, by rw [k2]; exact h4, by rw [k2]; exact h5, by rw [k2]; exact h6, by rw [k2, ← hw]; exact h7⟩
  | .pt r i j, v, h => by
    obtain ⟨h1, h2⟩ := h
    obtain ⟨k1, k2⟩ := hK r h1
    exact ⟨k1, by rw [k2]; exact h2⟩
theorem VL_sh {cq c' : Cx} {n : Nat} (hK : ∀ r, cq.K r → c'.K (n + r) ∧ c'.ρ (n + r) = cq.ρ r) (hF : Ext cq.cl c') (hw : cq.w = c'.w) : ∀ (xs : List AV) (vs : List Value), VL cq xs vs → VL c' (shL n xs) vs
  | [], _, h => h
  | x :: xs, vs, h => by obtain ⟨u, us, h1, h2, h3⟩ := h; exact ⟨u, us, h1, V_sh hK hF hw x u h2, VL_sh hK hF hw xs us h3⟩
end

section
variable {P : Program} {B : Nat} {c : Cx} {H : Nat → Option Rows} {N : Nat → Prop} {nr : Nat}

theorem con_call (h : Rel B c H N) {f n : Nat} {nv : Bool} {args : List AV} {v : AV} {objs : List Rows} (hc : ConG P f nv (args.map (dr H n)) v objs) (hn : nv = true ∨ nrfL args = true) {cargs : Array Value} (ha : VL c args cargs.toList) (hN : ∀ r, nr ≤ r → r < nr + objs.length → N r) :
    Calls P f cargs c.w fun e w' => ∃ c' cv, e = .returned cv ∧ c'.w = w' ∧ Later B c c' ∧ Rel B c' (upd H (mkh nr (objs.map (shR nr)))) (less N nr objs.length) ∧ V c' (sh nr v) cv := by
  obtain ⟨_, hnvf, hcall⟩ := hc
  -- the callee's set of what is only read
  obtain ⟨F, hF1, hF2, hF3⟩ : ∃ F : Nat → Prop, (∀ k, F k → k < c.w.heap.size) ∧ VL (cx0 F c.w) (args.map (dr H n)) cargs.toList ∧ (nv = false → F = c.F) := by
    cases nv with
    | true =>
      refine ⟨(dcx c H).F, ?_, ?_, by simp⟩
      · rintro k (hk | ⟨r, rows, hr, rfl⟩)
        · exact h.fb k hk
        · exact (h.hr.live r rows hr).lt
      · have h1 : VL (dcx c H) (args.map (dr H n)) cargs.toList := VL_map (fun x v _ hx => V_dr h n x v hx) ha
        exact VL_mono (c := dcx c H) (c' := cx0 (dcx c H).F c.w) ⟨fun k hk => ⟨hk, rfl⟩, fun _ hk => hk.elim, fun _ _ hl => hl⟩ _ _ h1
    | false =>
      refine ⟨c.F, h.fb, ?_, fun _ => rfl⟩
      have h1 : VL c.cl (args.map (dr H n)) cargs.toList := by
        rcases hn with hn | hn
        · cases hn
        · exact V_dr_nrf.drL_nrf n args _ hn ha
      exact VL_mono (c := c.cl) (c' := cx0 c.F c.w) ⟨fun k hk => ⟨hk, rfl⟩, fun _ hk => hk.elim, fun _ _ hl => hl⟩ _ _ h1
  refine (hcall F c.w cargs hF1 hF2).mono ?_
  rintro e w' ⟨cc, cv, rfl, rfl, hlater, hrel, hv⟩
  have hold : ∀ k, k < c.w.heap.size → cc.w.heap[k]? = c.w.heap[k]? := fun k hk => hlater.below.block k hk
  let c' : Cx := { F := if nv then c.F else cc.F, K := fun r => c.K r ∨ (nr ≤ r ∧ cc.K (r - nr)), ρ := fun r => if nr ≤ r ∧ r < nr + objs.length then cc.ρ (r - nr) else c.ρ r, w := cc.w }
  have hout : ∀ r, c.K r → ¬ (nr ≤ r ∧ r < nr + objs.length) := fun r hr hh => h.kn r hr (hN r hh.1 hh.2)
  have hin : ∀ r, cc.K r → r < objs.length := fun r hr => Nat.lt_of_not_le (hrel.kn r hr)
  have hFsub : ∀ k, c.F k → c'.F k := by
    intro k hk
    cases nv with
    | true => exact hk
    | false => exact (hlater.ext.F k (by rw [show (cx0 F c.w).F = F from rfl, hF3 rfl]; exact hk)).1
  have hFnew : ∀ k, c'.F k → c.F k ∨ (nv = false ∧ cc.F k ∧ c.w.heap.size ≤ k ∧ k < cc.w.heap.size) := by
    intro k hk
    cases nv with
    | true => exact .inl hk
    | false =>
      rcases hlater.fresh k hk with h' | h'
      · rw [show (cx0 F c.w).F = F from rfl, hF3 rfl] at h'; exact .inl h'
      · exact .inr ⟨rfl, hk, h'.1, h'.2⟩
  have hext : Ext c c' := ⟨fun k hk => ⟨hFsub k hk, hold k (h.fb k hk)⟩, fun r hr => ⟨.inl hr, by simp only [c', if_neg (hout r hr)]⟩, fun g m hl => hl.of_block (hold g hl.lt)⟩
  have hlat : Later B c c' := ⟨hext, hlater.below.mono h.bb, fun k hk => by
    rcases hFnew k hk with h' | h'
    · exact .inl h'
    · exact .inr ⟨Nat.le_trans h.bb h'.2.2.1, h'.2.2.2⟩⟩
  have hHold : HR B c' H := h.hr.mono_same hext (fun k hk => by
    rcases hFnew k hk with h' | h'
    · exact .inl h'
    · exact .inr (fun r rows hr => by have := (h.hr.live r rows hr).lt; omega)) (fun r rows hr => hold _ (h.hr.live r rows hr).lt)
  have hKn : ∀ r rows, H r = some rows → ¬ (nr ≤ r ∧ r < nr + objs.length) := fun r rows hr => hout r (h.hr.known r rows hr)
  have inv : ∀ r rs, upd H (mkh nr (objs.map (shR nr))) r = some rs → (nr ≤ r ∧ r < nr + objs.length ∧ ∃ rs0, hl objs (r - nr) = some rs0 ∧ rs = shR nr rs0) ∨ (¬ (nr ≤ r ∧ r < nr + objs.length) ∧ H r = some rs) := by
    intro r rs hr
    rw [mkh_get] at hr
    simp only [List.length_map] at hr
    split at hr
    · rename_i hc
      rw [List.getElem?_map, Option.map_eq_some_iff] at hr
      obtain ⟨rs0, h1, h2⟩ := hr
      exact .inl ⟨hc.1, hc.2, rs0, h1, h2.symm⟩
    · exact .inr ⟨hKn r rs hr, hr⟩
  have hρ : ∀ r, nr ≤ r → r < nr + objs.length → c'.ρ r = cc.ρ (r - nr) := fun r hr hr2 => by simp only [c', if_pos (And.intro hr hr2)]
  refine ⟨c', cv, rfl, rfl, hlat, ⟨⟨?_, ?_, ?_, ?_, ?_, ?_, ?_⟩, ?_, ?_, ?_⟩, ?_⟩
  · intro r rs hr
    rcases inv r rs hr with ⟨h1, h2, rs0, h3, h3'⟩ | ⟨h1, h2⟩
    · exact .inr ⟨h1, hrel.hr.known _ rs0 h3⟩
    · exact hHold.known r rs h2
  · intro r rs hr
    rcases inv r rs hr with ⟨h1, h2, rs0, h3, h3'⟩ | ⟨h1, h2⟩
    · rw [hρ r h1 h2, h3']; simp only [shR, List.length_map]; exact hrel.hr.len _ rs0 h3
    · exact hHold.len r rs h2
  · intro r rs hr
    rcases inv r rs hr with ⟨h1, h2, rs0, h3, h3'⟩ | ⟨h1, h2⟩
    · rw [hρ r h1 h2, h3']
      intro row hrow
      obtain ⟨row0, hm, rfl⟩ := List.mem_map.1 hrow
      rw [shL_len]; exact hrel.hr.rowlen _ rs0 h3 row0 hm
    · exact hHold.rowlen r rs h2
  · intro r rs hr
    rcases inv r rs hr with ⟨h1, h2, rs0, h3, h3'⟩ | ⟨h1, h2⟩
    · rw [hρ r h1 h2]
      intro i row hi j x hx
      rw [h3', shR, List.getElem?_map, Option.map_eq_some_iff] at hi
      obtain ⟨row0, hi0, rfl⟩ := hi
      obtain ⟨y, hy, rfl⟩ := shL_get hx
      obtain ⟨u, g1, g2, g3⟩ := hrel.hr.cells _ rs0 h3 i row0 hi0 j y hy
      refine ⟨u, g1, g2, ?_⟩
      have g4 := V_nvf y cc u (hnvf rs0 (List.mem_of_getElem? h3) row0 (List.mem_of_getElem? hi0) y (List.mem_of_getElem? hy)) g3
      refine V_sh (cq := { cc with F := fun _ => False }) (c' := c') (n := nr) ?_ ⟨fun k hk => hk.elim, fun _ hk => hk.elim, fun _ _ hl => hl⟩ rfl y u g4
      intro q hq
      refine ⟨.inr ⟨by omega, by rw [Nat.add_sub_cancel_left]; exact hq⟩, ?_⟩
      rw [hρ _ (by omega) (by have := hin q hq; omega), Nat.add_sub_cancel_left]
    · exact hHold.cells r rs h2
  · intro r rs hr
    rcases inv r rs hr with ⟨h1, h2, rs0, h3, h3'⟩ | ⟨h1, h2⟩
    · rw [hρ r h1 h2]; exact hrel.hr.live _ rs0 h3
    · exact hHold.live r rs h2
  · intro r rs hr
    rcases inv r rs hr with ⟨h1, h2, rs0, h3, h3'⟩ | ⟨h1, h2⟩
    · rw [hρ r h1 h2]
      have hb := hrel.hr.base _ rs0 h3
      refine ⟨Nat.le_trans h.bb hb.1, fun hf => ?_⟩
      rcases hFnew _ hf with h' | h'
      · have := h.fb _ h'; omega
      · exact hb.2 h'.2.1
    · exact hHold.base r rs h2
  · intro r r' rs rs' hr hr' hne
    rcases inv r rs hr with ⟨h1, h2, rs0, h3, h3'⟩ | ⟨h1, h2⟩ <;> rcases inv r' rs' hr' with ⟨k1, k2, rs0', k3, k3'⟩ | ⟨k1, k2⟩
    · rw [hρ r h1 h2, hρ r' k1 k2]; exact hrel.hr.inj _ _ rs0 rs0' h3 k3 (by omega)
    · rw [hρ r h1 h2]
      have e : c'.ρ r' = c.ρ r' := by simp only [c', if_neg k1]
      rw [e]
      have := (h.hr.live r' rs' k2).lt
      have := (hrel.hr.base _ rs0 h3).1
      omega
    · rw [hρ r' k1 k2]
      have e : c'.ρ r = c.ρ r := by simp only [c', if_neg h1]
      rw [e]
      have := (h.hr.live r rs h2).lt
      have := (hrel.hr.base _ rs0' k3).1
      omega
    · exact hHold.inj r r' rs rs' h2 k2 hne
  · rintro r (hr | ⟨h1, h2⟩)
    · exact fun q => h.kn r hr q.1
    · have := hin _ h2; exact fun q => q.2 (by omega)
  · intro k hk
    rcases hFnew k hk with h' | h'
    · have := h.fb k h'; have := hlater.below.size; simp only [cx0] at this; show k < cc.w.heap.size; omega
    · exact h'.2.2.2
  · have := h.bb; have := hlater.below.size; simp only [cx0] at this; show B ≤ cc.w.heap.size; omega
  · refine V_sh (cq := cc.nv nv) ?_ ?_ ?_ v cv hv
    · intro r hr
      have hr' : cc.K r := by cases nv <;> exact hr
      refine ⟨.inr ⟨by omega, by rw [Nat.add_sub_cancel_left]; exact hr'⟩, ?_⟩
      rw [hρ _ (by omega) (by have := hin r hr'; omega), Nat.add_sub_cancel_left]
      cases nv <;> rfl
    · cases nv with
      | true => exact ⟨fun k hk => hk.elim, fun _ hk => hk.elim, fun _ _ hl => hl⟩
      | false => exact ⟨fun k hk => ⟨hk, rfl⟩, fun _ hk => hk.elim, fun _ _ hl => hl⟩
    · cases nv <;> rfl
end
end Go.Proofs.Yteoonedddgiacaa.Ab
