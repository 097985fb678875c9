/- Growing lists in drawn regions; results that are a struct with a list. -/
import Derived.Test.YteoonedddgiacaaAbX
namespace Go.Proofs.Yteoonedddgiacaa.Ab
open Go Go.RowKit
set_option linter.unusedSimpArgs false
set_option linter.unusedVariables false

section
variable {T : Nat → AV} {H : Nat → Option Rows} {nr : Nat} {x : AX}
theorem ltrL_mem {n : Nat} : ∀ {row : List AV}, ltrL n row = true → ∀ x ∈ row, AV.ltr n x = true
  | [], _, x, hx => (List.not_mem_nil hx).elim
  | y :: ys, h, x, hx => by
    simp only [ltrL, Bool.and_eq_true] at h
    rcases List.mem_cons.1 hx with rfl | h2
    · exact h.1
    · exact ltrL_mem h.2 x h2
theorem ltr_dec {rows : Rows} {n : Nat} (h : (rows.all fun row => ltrL n row) = true) : ∀ row ∈ rows, ∀ x ∈ row, AV.ltr n x = true :=
  fun row hr => ltrL_mem (List.all_eq_true.1 h row hr)
theorem bd_i {k : IntKind} {n d : Nat} (h : gT T x = .int k (n : Int)) : bound (gT T) d (some x) = some n := by simp [bound, h]
theorem bd_n {d : Nat} : bound (gT T) d none = some d := rfl
theorem o_mkf {f : Nat} {caps : List AX} {vs : List AV} (h : caps.map (gT T) = vs) : ev (gT T) H nr (.mkf f caps) = some (.fn f vs, [], 0) := by simp only [ev, h, pureR]
/-- A part of a list that stands row by row. -/
theorem o_slc_m {α : Type} {f : α → List AV} {xs : List α} {sz l h : Nat} {lo hi : Option AX} {nn : Bool} (h1 : gT T x = .vw nn (xs.map f)) (h2 : bound (gT T) 0 lo = some l) (h3 : bound (gT T) xs.length hi = some h) (h4 : l ≤ h) (h5 : h ≤ xs.length) (h6 : okRows sz (xs.map f) = true) :
    ev (gT T) H nr (.slc sz x lo hi) = some (.vw nn (((xs.drop l).take (h - l)).map f), [], 0) := by
  rw [List.map_take, List.map_drop]
  exact o_slc_vw h1 h2 (by rw [List.length_map]; exact h3) h4 (by rw [List.length_map]; exact h5) h6
end
section
variable {P : Program} {t : List (Nat × AV)} {h : List (Nat × Option Rows)} {nr : Nat} {os : List AO} {K : St → Prop} {A : List (List Nat)} {acc : List (List Nat × List Nat)}
theorem wE_app {d sz bytes r n : Nat} {z : List AV} {rows new : Rows} {x y : AX} {rd : List Nat} (h1 : gT (lk t) x = .sl r sz 0 n) (h2 : hg h r = some rows) (h3 : n = rows.length) (h4 : rowsOf (hg h) sz (gT (lk t) y) = some new) (h5 : 0 < new.length) (h6 : n + new.length ≤ 4294967296) (h7 : bytes ≤ 4096)
    (hr : rds (.app sz bytes z x y) (gT (lk t)) (hg h) = rd) (hw : wpE P A os ⟨(d, .sl nr sz 0 (n + new.length)) :: t, (r, none) :: (nr, some (rows ++ new)) :: h, nr + 1⟩ (([r, nr], rd) :: acc) K) : wpE P A (⟨some d, none, .app sz bytes z x y⟩ :: os) ⟨t, h, nr⟩ acc K :=
  wE_some (o_app1 h1 h2 h3 h4 h5 h6 h7) hr hw
theorem wE_appn {d sz bytes : Nat} {z : List AV} {new : Rows} {x y : AX} {rd : List Nat} (h1 : gT (lk t) x = .nilS) (h4 : rowsOf (hg h) sz (gT (lk t) y) = some new) (h5 : 0 < new.length) (h6 : new.length ≤ 4294967296) (h7 : bytes ≤ 4096)
    (hr : rds (.app sz bytes z x y) (gT (lk t)) (hg h) = rd) (hw : wpE P A os ⟨(d, .sl nr sz 0 new.length) :: t, (nr, some new) :: h, nr + 1⟩ (([nr], rd) :: acc) K) : wpE P A (⟨some d, none, .app sz bytes z x y⟩ :: os) ⟨t, h, nr⟩ acc K :=
  wE_some (o_appn h1 h4 h5 h6 h7) hr hw
/-- A struct of a whole number and a new list, and a plain result. -/
theorem ret_db {r1 r2 : AOp} {k : IntKind} {a : Int} {sz n r : Nat} {rows : Rows} {v2 : AV} {s : St} {e : EX} (he : e = .n ∨ e = .r) (p2 : v2.plain = true) (g1 : retV s r1 = some (.agg [.int k a, .sl r sz 0 n])) (g2 : retV s r2 = some v2) (h1 : hg s.h r = some rows) :
    Ret [r1, r2] [r] (.tup [.agg [.int k a, .sl 0 sz 0 n], v2]) [rows] e s := by
  have q : ∀ v : AV, v.plain = true → rn (πof [r]) v = v ∧ v.ltr 1 = true := by intro v hv; cases v <;> first | exact ⟨rfl, rfl⟩ | simp [AV.plain] at hv
  refine ret_gen he (retVs_2 g1 g2) ?_ (by simp [notOne]) ?_ rfl (by simp) (fun i rows' h => ?_)
  · simp only [retL, rnL, rn, (q _ p2).1]; rfl
  · simp only [List.length_cons, List.length_nil, AV.ltr, ltrL, (q _ p2).2, Bool.and_self]; rfl
  · cases i with
    | zero => simp at h; subst h; exact h1
    | succ i => simp at h
/-- The same without a list. -/
theorem ret_d0 {r1 r2 : AOp} {k : IntKind} {a : Int} {v2 : AV} {s : St} {e : EX} (he : e = .n ∨ e = .r) (p2 : v2.plain = true) (g1 : retV s r1 = some (.agg [.int k a, .nilS])) (g2 : retV s r2 = some v2) :
    Ret [r1, r2] [] (.tup [.agg [.int k a, .nilS], v2]) [] e s := by
  have q : ∀ v : AV, v.plain = true → rn (πof []) v = v ∧ v.ltr 0 = true := by intro v hv; cases v <;> first | exact ⟨rfl, rfl⟩ | simp [AV.plain] at hv
  refine ret_gen he (retVs_2 g1 g2) ?_ (by simp [notOne]) ?_ rfl List.nodup_nil (fun i rows h => by simp at h)
  · simp only [retL, rnL, rn, (q _ p2).1]
  · simp only [List.length_nil, AV.ltr, ltrL, (q _ p2).2, Bool.and_self]
/-- A struct whose list is nil, by content. -/
theorem con_dnil {f : Nat} {nv : Bool} {k : IntKind} {a : Int} {as : List AV} {v : AV} {objs : List Rows} (h : Con P f nv (.agg [.int k a, .vw false []] :: as) v objs) : Con P f nv (.agg [.int k a, .nilS] :: as) v objs := by
  refine ⟨h.1, h.2.1, fun F w cargs hF ha => h.2.2 F w cargs hF ?_⟩
  obtain ⟨u, us, e1, ⟨cs, q1, ⟨u1, us1, q2, q3, ⟨u2, us2, q4, q5, q6⟩⟩, q7⟩, e3⟩ := ha
  exact ⟨u, us, e1, ⟨cs, q1, ⟨u1, us1, q2, q3, ⟨u2, us2, q4, V_nil q5, q6⟩⟩, q7⟩, e3⟩
theorem con_dnil2 {f : Nat} {nv : Bool} {b : AV} {k : IntKind} {a : Int} {as : List AV} {v : AV} {objs : List Rows} (h : Con P f nv (b :: .agg [.int k a, .vw false []] :: as) v objs) : Con P f nv (b :: .agg [.int k a, .nilS] :: as) v objs := by
  refine ⟨h.1, h.2.1, fun F w cargs hF ha => h.2.2 F w cargs hF ?_⟩
  obtain ⟨u0, us0, e0, e00, ⟨u, us, e1, ⟨cs, q1, ⟨u1, us1, q2, q3, ⟨u2, us2, q4, q5, q6⟩⟩, q7⟩, e3⟩⟩ := ha
  exact ⟨u0, us0, e0, e00, ⟨u, us, e1, ⟨cs, q1, ⟨u1, us1, q2, q3, ⟨u2, us2, q4, V_nil q5, q6⟩⟩, q7⟩, e3⟩⟩
end
end Go.Proofs.Yteoonedddgiacaa.Ab
