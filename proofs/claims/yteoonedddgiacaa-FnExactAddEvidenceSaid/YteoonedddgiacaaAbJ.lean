/- Every operation that the abstract view knows is carried out by the machine as the abstract view says. -/
import Derived.Test.YteoonedddgiacaaAbI
namespace Go.Proofs.Yteoonedddgiacaa.Ab
open Go Go.RowKit
set_option linter.unusedSimpArgs false
set_option linter.unusedVariables false

section
variable {P : Program} {B : Nat} {c : Cx} {H : Nat → Option Rows} {N : Nat → Prop} {nr : Nat} {g : AX → AV} {a : Act}

theorem cxs_get : ∀ (xs : List Operand) (ys : List AX), cxs xs = some ys → ys.length = xs.length ∧ ∀ (k : Nat) y, ys[k]? = some y → ∃ x, xs[k]? = some x ∧ cx x = some y
  | [], ys, h => by simp [cxs] at h; subst h; simp
  | x :: xs, ys, h => by
    unfold cxs at h
    cases h1 : cx x with
    | none => simp [h1] at h
    | some y =>
      cases h2 : cxs xs with
      | none => simp [h1, h2] at h
      | some zs =>
        simp [h1, h2] at h; subst h
        obtain ⟨i1, i2⟩ := cxs_get xs zs h2
        refine ⟨by simp [i1], ?_⟩
        intro k y' hk
        cases k with
        | zero => simp at hk; subst hk; exact ⟨x, rfl, h1⟩
        | succ k => simp at hk; simpa using i2 k y' hk

theorem mapM_get {α β : Type} {f : α → Option β} : ∀ (xs : List α) (ys : List β), xs.mapM f = some ys → ys.length = xs.length ∧ ∀ (k : Nat) y, ys[k]? = some y → ∃ x, xs[k]? = some x ∧ f x = some y
  | [], ys, h => by simp at h; subst h; simp
  | x :: xs, ys, h => by
    rw [List.mapM_cons] at h
    cases h1 : f x with
    | none => simp [h1] at h
    | some y =>
      cases h2 : xs.mapM f with
      | none => simp [h1, h2] at h
      | some zs =>
        simp [h1, h2] at h; subst h
        obtain ⟨i1, i2⟩ := mapM_get xs zs h2
        refine ⟨by simp [i1], ?_⟩
        intro k y' hk
        cases k with
        | zero => simp at hk; subst hk; exact ⟨x, rfl, h1⟩
        | succ k => simp at hk; simpa using i2 k y' hk

theorem toList2 {α : Type} {xs : Array α} {a b : α} (h : xs.toList = [a, b]) : xs = #[a, b] := by
  rw [← Array.toList_inj]; exact h
theorem toList1 {α : Type} {xs : Array α} {a : α} (h : xs.toList = [a]) : xs = #[a] := by
  rw [← Array.toList_inj]; exact h

theorem size_isSome {t : TypeId} {d : TypeDesc} (h : P.underlying t = some d) : (size? P t).isSome := by
  unfold Program.underlying at h
  unfold size?
  cases hi : P.info? t with
  | none => simp [hi] at h
  | some i => simp

theorem op_sound (h : Rel B c H N) (hx : ∀ x y, cx x = some y → V c (g y) (a.eval x)) {op : Op} {ao : AOp} (hc : compOp P op = some ao) {v : AV} {u : List (Nat × Option Rows)} {k : Nat} (he : ev g H nr ao = some (v, u, k)) (hN : ∀ r, nr ≤ r → r < nr + k → N r)
    : Runs P a op B c H N nr v u k := by
  cases op with
  | move x =>
    simp only [compOp, Option.bind_eq_bind, Option.bind_eq_some_iff, Option.some.injEq] at hc
    obtain ⟨y, hy, rfl⟩ := hc
    simp only [ev] at he
    obtain ⟨rfl, rfl, rfl⟩ := pureR_inv he
    exact s_move h (hx x y hy) false
  | assign x =>
    simp only [compOp, Option.bind_eq_bind, Option.bind_eq_some_iff, Option.some.injEq] at hc
    obtain ⟨y, hy, rfl⟩ := hc
    simp only [ev] at he
    obtain ⟨rfl, rfl, rfl⟩ := pureR_inv he
    exact s_move h (hx x y hy) true
  | pick x y z =>
    simp only [compOp, Option.bind_eq_bind, Option.bind_eq_some_iff, Option.some.injEq] at hc
    obtain ⟨p, hp, q, hq, r, hr, rfl⟩ := hc
    exact s_pick h (hx _ _ hp) (hx _ _ hq) (hx _ _ hr) he
  | alloc t =>
    simp only [compOp, Option.bind_eq_bind, Option.bind_eq_some_iff, Option.some.injEq] at hc
    obtain ⟨z, hz, rfl⟩ := hc
    simp only [ev, Option.some.injEq, Prod.mk.injEq] at he
    obtain ⟨rfl, rfl, rfl⟩ := he
    exact s_alloc h (hN nr (Nat.le_refl _) (by omega)) hz
  | box t x =>
    simp only [compOp, Option.bind_eq_bind, Option.bind_eq_some_iff, Option.some.injEq] at hc
    obtain ⟨s, hs, ag, hag, p, hp, rfl⟩ := hc
    exact s_box h (hx _ _ hp) he (fun hk => hN nr (Nat.le_refl _) (by omega))
  | load t x =>
    simp only [compOp, Option.bind_eq_bind, Option.bind_eq_some_iff, Option.some.injEq] at hc
    obtain ⟨ag, hag, s, hs, p, hp, rfl⟩ := hc
    exact s_ld h hag hs (hx _ _ hp) he
  | store t x y =>
    simp only [compOp, Option.bind_eq_bind, Option.bind_eq_some_iff, Option.some.injEq] at hc
    obtain ⟨s, hs, p, hp, q, hq, rfl⟩ := hc
    exact s_st h hs (hx _ _ hp) (hx _ _ hq) he
  | nilCheck x =>
    simp only [compOp, Option.bind_eq_bind, Option.bind_eq_some_iff, Option.some.injEq] at hc
    obtain ⟨p, hp, rfl⟩ := hc
    exact s_nck h (hx _ _ hp) he
  | binOp op t x y ty =>
    simp only [compOp] at hc
    split at hc
    · simp only [Option.bind_eq_bind, Option.bind_eq_some_iff, Option.some.injEq] at hc
      obtain ⟨p, hp, q, hq, rfl⟩ := hc
      exact s_bin h (hx _ _ hp) (hx _ _ hq) he
    · rename_i ht
      split at hc
      · simp only [Option.bind_eq_bind, Option.bind_eq_some_iff, Option.some.injEq] at hc
        obtain ⟨p, hp, q, hq, rfl⟩ := hc
        exact s_bool2 (neg := false) h ht (hx _ _ hp) (hx _ _ hq) he
      · simp only [Option.bind_eq_bind, Option.bind_eq_some_iff, Option.some.injEq] at hc
        obtain ⟨p, hp, q, hq, rfl⟩ := hc
        exact s_bool2 (neg := true) h ht (hx _ _ hp) (hx _ _ hq) he
      · simp at hc
    · simp only [Option.bind_eq_bind, Option.bind_eq_some_iff, Option.some.injEq] at hc
      obtain ⟨p, hp, q, hq, rfl⟩ := hc
      exact s_str2 h (hx _ _ hp) (hx _ _ hq) he
    · rename_i e ht
      split at hc
      · simp only [Option.bind_eq_bind, Option.bind_eq_some_iff, Option.some.injEq] at hc
        obtain ⟨p, hp, q, hq, rfl⟩ := hc
        exact s_nil2 (ptr := false) (neg := false) (e := e) h ht (hx _ _ hp) (hx _ _ hq) he
      · simp only [Option.bind_eq_bind, Option.bind_eq_some_iff, Option.some.injEq] at hc
        obtain ⟨p, hp, q, hq, rfl⟩ := hc
        exact s_nil2 (ptr := false) (neg := true) (e := e) h ht (hx _ _ hp) (hx _ _ hq) he
      · simp at hc
    · rename_i e ht
      split at hc
      · simp only [Option.bind_eq_bind, Option.bind_eq_some_iff, Option.some.injEq] at hc
        obtain ⟨p, hp, q, hq, rfl⟩ := hc
        exact s_nil2 (ptr := true) (neg := false) (e := e) h ht (hx _ _ hp) (hx _ _ hq) he
      · simp only [Option.bind_eq_bind, Option.bind_eq_some_iff, Option.some.injEq] at hc
        obtain ⟨p, hp, q, hq, rfl⟩ := hc
        exact s_nil2 (ptr := true) (neg := true) (e := e) h ht (hx _ _ hp) (hx _ _ hq) he
      · simp at hc
    · split at hc
      · rename_i ht
        split at hc
        · simp only [Option.bind_eq_bind, Option.bind_eq_some_iff, Option.some.injEq] at hc
          obtain ⟨p, hp, q, hq, rfl⟩ := hc
          exact s_eqg (neg := false) h ht (hx _ _ hp) (hx _ _ hq) he
        · simp only [Option.bind_eq_bind, Option.bind_eq_some_iff, Option.some.injEq] at hc
          obtain ⟨p, hp, q, hq, rfl⟩ := hc
          exact s_eqg (neg := true) h ht (hx _ _ hp) (hx _ _ hq) he
        · simp at hc
      · simp at hc
    · simp at hc
  | unOp op t x =>
    simp only [compOp, Option.bind_eq_bind, Option.bind_eq_some_iff, Option.some.injEq] at hc
    obtain ⟨p, hp, rfl⟩ := hc
    exact s_un h (hx _ _ hp) he
  | convert s t x =>
    simp only [compOp] at hc
    split at hc
    · rename_i hs ht
      simp only [Option.bind_eq_bind, Option.bind_eq_some_iff, Option.some.injEq] at hc
      obtain ⟨p, hp, rfl⟩ := hc
      exact s_cv h hs ht (hx _ _ hp) he
    · simp at hc
  | makeFunc fn first caps =>
    cases fn with
    | func f =>
      simp only [compOp] at hc
      split at hc
      · rename_i hf
        simp only [Option.bind_eq_bind, Option.bind_eq_some_iff, Option.some.injEq] at hc
        obtain ⟨ys, hys, rfl⟩ := hc
        simp only [ev] at he
        obtain ⟨rfl, rfl, rfl⟩ := pureR_inv he
        exact s_mkf h hf (cxs_V (hx := hx) _ _ hys)
      · simp at hc
    | _ => simp [compOp] at hc
  | makeSlice t l cc =>
    simp only [compOp, Option.bind_eq_bind, Option.bind_eq_some_iff, Option.some.injEq] at hc
    obtain ⟨e, hel, s, hs, b, hb, z, hz, p, hp, q, hq, rfl⟩ := hc
    exact s_mks h (elem_of hel) hs hb hz (hx _ _ hp) (hx _ _ hq) he (fun hk => hN nr (Nat.le_refl _) (by omega))
  | slice t x lo hi mx =>
    cases mx with
    | some m =>
      cases hi with
      | none => simp [compOp] at hc
      | some hi =>
        simp only [compOp, Option.bind_eq_bind, Option.bind_eq_some_iff, Option.some.injEq] at hc
        obtain ⟨e, hel, s, hs, p, hp, lo', hlo, hi', hhi, m', hm, rfl⟩ := hc
        refine s_slc3 h (elem_of hel) hs (hx _ _ hp) (hx _ _ hhi) (hx _ _ hm) ?_ he
        cases lo with
        | none => simp [cxo] at hlo; exact .inl ⟨rfl, hlo.symm⟩
        | some x0 =>
          simp only [cxo, Option.map_eq_some_iff] at hlo
          obtain ⟨y0, h0, rfl⟩ := hlo
          exact .inr ⟨x0, y0, rfl, rfl, hx _ _ h0⟩
    | none =>
      simp only [compOp, Option.bind_eq_bind, Option.bind_eq_some_iff, Option.some.injEq] at hc
      obtain ⟨e, hel, s, hs, p, hp, lo', hlo, hi', hhi, rfl⟩ := hc
      have inv : ∀ (o : Option Operand) (o' : Option AX), cxo o = some o' → (o = none ∧ o' = none) ∨ ∃ x y, o = some x ∧ o' = some y ∧ V c (g y) (a.eval x) := by
        intro o o' ho
        cases o with
        | none => simp [cxo] at ho; exact .inl ⟨rfl, ho.symm⟩
        | some x0 =>
          simp only [cxo, Option.map_eq_some_iff] at ho
          obtain ⟨y0, h0, rfl⟩ := ho
          exact .inr ⟨x0, y0, rfl, rfl, hx _ _ h0⟩
      exact s_slc h (elem_of hel) hs (hx _ _ hp) (inv _ _ hlo) (inv _ _ hhi) he
  | fieldAddr t x i =>
    simp only [compOp] at hc
    split at hc
    · rename_i fs ht
      split at hc
      · rename_i f hi
        split at hc
        · simp at hc
        · rename_i hs0
          simp only [Option.bind_eq_bind, Option.bind_eq_some_iff, Option.some.injEq] at hc
          obtain ⟨p, hp, rfl⟩ := hc
          cases hs : size? P f.type with
          | none => simp [hs] at hs0
          | some s => exact s_fa h ht hi hs (by rw [hs] at hs0; simpa using hs0) (hx _ _ hp) he
      · simp at hc
    · simp at hc
  | field t x i =>
    simp only [compOp] at hc
    split at hc
    · rename_i fs ht
      split at hc
      · rename_i f hi
        simp only [Option.bind_eq_bind, Option.bind_eq_some_iff, Option.some.injEq] at hc
        obtain ⟨ag, hag, s, hs, p, hp, rfl⟩ := hc
        exact s_fld h ht hi hs hag (hx _ _ hp) he
      · simp at hc
    · simp at hc
  | indexAddr t x i =>
    simp only [compOp, Option.bind_eq_bind, Option.bind_eq_some_iff, Option.some.injEq] at hc
    obtain ⟨e, hel, s, hs, p, hp, q, hq, rfl⟩ := hc
    exact s_ia h (elem_of hel) hs (hx _ _ hp) (hx _ _ hq) he
  | index t x i =>
    simp only [compOp] at hc
    split at hc
    · rename_i ht
      simp only [Option.bind_eq_bind, Option.bind_eq_some_iff, Option.some.injEq] at hc
      obtain ⟨p, hp, q, hq, rfl⟩ := hc
      exact s_istr h ht (hx _ _ hp) (hx _ _ hq) he
    · simp at hc
  | extract x i =>
    simp only [compOp, Option.bind_eq_bind, Option.bind_eq_some_iff, Option.some.injEq] at hc
    obtain ⟨p, hp, rfl⟩ := hc
    exact s_ext h (hx _ _ hp) he
  | buildSlice t n parts =>
    simp only [compOp, Option.bind_eq_bind, Option.bind_eq_some_iff] at hc
    obtain ⟨e, hel, s, hs, hc⟩ := hc
    split at hc
    · simp at hc
    · rename_i hn
      simp only [Option.bind_eq_some_iff, Option.some.injEq] at hc
      obtain ⟨ps, hps, z, hz, rfl⟩ := hc
      obtain ⟨g1, g2⟩ := cxs_get _ _ hps
      refine s_bsl h (elem_of hel) hs hz (by omega) ?_ ?_ he (fun hk => hN nr (Nat.le_refl _) (by omega))
      · simp [g1]
      · intro k i x hk
        rw [List.getElem?_zip_eq_some] at hk
        obtain ⟨k1, k2⟩ := hk
        obtain ⟨y, f1, f2⟩ := g2 k _ k2
        simp only [List.getElem?_map, Option.map_eq_some_iff, Array.getElem?_toList] at k1 f1
        obtain ⟨pr, hpr, rfl⟩ := k1
        rw [hpr] at f1
        obtain ⟨pr', e1, rfl⟩ := f1
        cases e1
        exact ⟨pr.2, hpr, hx _ _ f2⟩
  | build t parts =>
    simp only [compOp] at hc
    split at hc
    · rename_i fs ht
      split at hc
      case isFalse => simp at hc
      rename_i hall
      simp only [Option.bind_eq_bind, Option.bind_eq_some_iff, Option.some.injEq] at hc
      obtain ⟨ps, hps, os, hos, z, hz, rfl⟩ := hc
      obtain ⟨g1, g2⟩ := cxs_get _ _ hps
      obtain ⟨g3, g4⟩ := mapM_get _ _ hos
      refine s_build h ht hz ?_ ?_ (fun f hf => List.all_eq_true.1 hall f hf) he
      · simp [g1, g3]
      · intro k o s x hk
        simp only [List.getElem?_map, Option.map_eq_some_iff] at hk
        obtain ⟨⟨⟨o', s'⟩, x'⟩, hk, e0⟩ := hk
        cases e0
        rw [List.getElem?_zip_eq_some] at hk
        obtain ⟨k1, k2⟩ := hk
        obtain ⟨y, f1, f2⟩ := g2 k _ k2
        obtain ⟨i, f3, f4⟩ := g4 k _ k1
        simp only [List.getElem?_map, Option.map_eq_some_iff, Array.getElem?_toList] at f1 f3
        obtain ⟨pr, hpr, rfl⟩ := f1
        rw [hpr] at f3
        obtain ⟨pr', e1, rfl⟩ := f3
        cases e1
        split at f4
        · rename_i f hf
          simp only [Option.map_eq_some_iff, Prod.mk.injEq] at f4
          obtain ⟨s0, hs0, e2, e3⟩ := f4
          exact ⟨pr.1, pr.2, f, hpr, hf, e2, by rw [hs0, e3], hx _ _ f2⟩
        · simp at f4
    · simp at hc
  | call cl =>
    simp only [compOp] at hc
    split at hc
    · simp only [Option.bind_eq_bind, Option.bind_eq_some_iff, Option.some.injEq] at hc
      obtain ⟨ys, _, rfl⟩ := hc
      simp [ev] at he
    · simp only [Option.bind_eq_bind, Option.bind_eq_some_iff, Option.some.injEq] at hc
      obtain ⟨p, _, ys, _, rfl⟩ := hc
      simp [ev] at he
    · rename_i hcal
      split at hc
      · rename_i x e hargs hty
        simp only [Option.bind_eq_bind, Option.bind_eq_some_iff, Option.some.injEq] at hc
        obtain ⟨p, hp, rfl⟩ := hc
        simp only [Option.bind_eq_some_iff] at hty
        obtain ⟨t, ht1, ht2⟩ := hty
        exact s_len_sl h hcal (toList1 hargs) ht1 ht2 (hx _ _ hp) he
      · rename_i x hargs hty
        simp only [Option.bind_eq_bind, Option.bind_eq_some_iff, Option.some.injEq] at hc
        obtain ⟨p, hp, rfl⟩ := hc
        simp only [Option.bind_eq_some_iff] at hty
        obtain ⟨t, ht1, ht2⟩ := hty
        exact s_len_str h hcal (toList1 hargs) ht1 ht2 (hx _ _ hp) he
      · simp at hc
    · rename_i hcal
      split at hc
      · rename_i x y s t hargs hty
        simp only [Option.bind_eq_bind, Option.bind_eq_some_iff] at hc
        obtain ⟨e, hel, hc⟩ := hc
        split at hc
        · rename_i hel2
          simp only [Option.bind_eq_some_iff, Option.some.injEq] at hc
          obtain ⟨sz, hs, b, hb, z, hz, p, hp, q, hq, rfl⟩ := hc
          exact s_app h hcal (toList2 hargs) (toList2 hty) (elem_of hel) (elem_of hel2) hs hb hz (hx _ _ hp) (hx _ _ hq) he (fun hk => hN nr (Nat.le_refl _) (by omega))
        · simp at hc
      · simp at hc
    · rename_i hcal
      split at hc
      · rename_i x y s t hargs hty
        simp only [Option.bind_eq_bind, Option.bind_eq_some_iff] at hc
        obtain ⟨e, hel, hc⟩ := hc
        split at hc
        · rename_i hel2
          simp only [Option.bind_eq_some_iff, Option.some.injEq] at hc
          obtain ⟨sz, hs, p, hp, q, hq, rfl⟩ := hc
          exact s_cpy h hcal (toList2 hargs) (toList2 hty) (elem_of hel) hs (hx _ _ hp) (hx _ _ hq) he
        · simp at hc
      · simp at hc
    · rename_i hcal
      split at hc
      · rename_i x s hargs hty
        simp only [Option.bind_eq_bind, Option.bind_eq_some_iff, Option.some.injEq] at hc
        obtain ⟨e, hel, sz, hs, z, hz, p, hp, rfl⟩ := hc
        exact s_clr h hcal (toList1 hargs) (toList1 hty) (elem_of hel) hs hz (hx _ _ hp) he
      · simp at hc
    · rename_i hcal
      split at hc
      · rename_i x y hargs
        simp only [Option.bind_eq_bind, Option.bind_eq_some_iff, Option.some.injEq] at hc
        obtain ⟨p, hp, q, hq, rfl⟩ := hc
        exact s_mx h hcal (toList2 hargs) (hx _ _ hp) (hx _ _ hq) he
      · simp at hc
    · rename_i hcal
      split at hc
      · rename_i x y hargs
        simp only [Option.bind_eq_bind, Option.bind_eq_some_iff, Option.some.injEq] at hc
        obtain ⟨p, hp, q, hq, rfl⟩ := hc
        exact s_mn h hcal (toList2 hargs) (hx _ _ hp) (hx _ _ hq) he
      · simp at hc
    · simp at hc
  | _ => simp [compOp] at hc
end
end Go.Proofs.Yteoonedddgiacaa.Ab
