/- One law for each kind of step: what an operation gives is found by evaluation, what it asks for stands beside it. -/
import Derived.Test.YteoonedddgiacaaAbZ
namespace Go.Proofs.Yteoonedddgiacaa.Ab
open Go Go.RowKit
set_option linter.unusedSimpArgs false
set_option linter.unusedVariables false

/-! ### Values laid open -/
def spN : List AV → Option (List AV)
  | [] => some []
  | x :: xs => match nf x with
    | some v => match spN xs with
      | some vs => some (v :: vs)
      | none => none
    | none => none
theorem spN_eq : ∀ {l m : List AV}, spN l = some m → l = m
  | [], m, h => by simp only [spN, Option.some.injEq] at h; exact h
  | x :: xs, m, h => by
    simp only [spN] at h
    split at h
    · rename_i v hv
      split at h
      · rename_i vs hvs
        simp only [Option.some.injEq] at h
        rw [← h, nf_eq hv, spN_eq hvs]
      · cases h
    · cases h
def spR : Rows → Option Rows
  | [] => some []
  | x :: xs => match spN x with
    | some v => match spR xs with
      | some vs => some (v :: vs)
      | none => none
    | none => none
theorem spR_eq : ∀ {l m : Rows}, spR l = some m → l = m
  | [], m, h => by simp only [spR, Option.some.injEq] at h; exact h
  | x :: xs, m, h => by
    simp only [spR] at h
    split at h
    · rename_i v hv
      split at h
      · rename_i vs hvs
        simp only [Option.some.injEq] at h
        rw [← h, spN_eq hv, spR_eq hvs]
      · cases h
    · cases h
def nfp (a : AV) : Option (AV × Prop) := match nf a with
  | some v => some (v, 0 = 0)
  | none => none
theorem nfp_eq {a v : AV} {p : Prop} (h : nfp a = some (v, p)) : a = v := by
  unfold nfp at h
  split at h
  · rename_i u hu; simp only [Option.some.injEq, Prod.mk.injEq] at h; rw [nf_eq hu, h.1]
  · cases h
def agp (l : List AV) (p : Prop) : Option (AV × Prop) := match spN l with
  | some v => some (.agg v, p)
  | none => none
theorem agp_eq {l : List AV} {v : AV} {p p' : Prop} (h : agp l p = some (v, p')) : .agg l = v ∧ p = p' := by
  unfold agp at h
  split at h
  · rename_i u hu; simp only [Option.some.injEq, Prod.mk.injEq] at h; rw [spN_eq hu]; exact h
  · cases h
/-- The cells of a value, laid open. -/
def clN (a : AV) : Option (List AV) := match nf a with
  | some .undef => none
  | some (.tup _) => none
  | some (.agg cs) => spN cs
  | some v => some [v]
  | none => none
theorem clN_eq {a : AV} {cs : List AV} (h : clN a = some cs) : cellsOf a = some cs := by
  unfold clN at h
  split at h
  · cases h
  · cases h
  · rename_i ds e; rw [nf_eq e]; simp only [cellsOf]; rw [spN_eq h]
  · rename_i e1 e2 e3 e4
    have := nf_eq e4
    subst this
    simp only [Option.some.injEq] at h
    subst h
    cases a <;> first | rfl | exact (e1 rfl).elim | exact (e2 _ rfl).elim | exact (e3 _ rfl).elim
  · cases h
def flA (g : AX → AV) : List AV → List (Nat × Nat × AX) → Option (List AV)
  | z, [] => spN z
  | z, (o, s, x) :: ps => match clN (g x) with
    | some cs => match Nat.beq cs.length s && Nat.ble (o + s) z.length with
      | true => flA g (put z o cs) ps
      | false => none
    | none => none
theorem flA_eq {g : AX → AV} : ∀ {ps : List (Nat × Nat × AX)} {z cs : List AV}, flA g z ps = some cs → fillA g z ps = some cs
  | [], z, cs, h => by simp only [flA] at h; simp only [fillA]; rw [spN_eq h]
  | (o, s, x) :: ps, z, cs, h => by
    simp only [flA] at h
    split at h
    · rename_i ds hd
      split at h
      · rename_i hb
        simp only [Bool.and_eq_true] at hb
        have h1 := Nat.eq_of_beq_eq_true hb.1
        have h2 := Nat.le_of_ble_eq_true hb.2
        simp only [fillA, clN_eq hd]
        rw [if_pos ⟨h1, h2⟩]
        exact flA_eq h
      · cases h
    · cases h
def flS (g : AX → AV) (sz : Nat) : Rows → List (Nat × AX) → Option Rows
  | z, [] => spR z
  | z, (i, x) :: ps => match clN (g x) with
    | some cs => match Nat.beq cs.length sz && Nat.ble (i + 1) z.length with
      | true => flS g sz (z.set i cs) ps
      | false => none
    | none => none
theorem flS_eq {g : AX → AV} {sz : Nat} : ∀ {ps : List (Nat × AX)} {z rows : Rows}, flS g sz z ps = some rows → fillS g sz z ps = some rows
  | [], z, cs, h => by simp only [flS] at h; simp only [fillS]; rw [spR_eq h]
  | (i, x) :: ps, z, cs, h => by
    simp only [flS] at h
    split at h
    · rename_i ds hd
      split at h
      · rename_i hb
        simp only [Bool.and_eq_true] at hb
        have h1 := Nat.eq_of_beq_eq_true hb.1
        have h2 := Nat.le_of_ble_eq_true hb.2
        simp only [fillS, clN_eq hd]
        rw [if_pos ⟨h1, h2⟩]
        exact flS_eq h
      · cases h
    · cases h
def mpN (g : AX → AV) : List AX → Option (List AV)
  | [] => some []
  | x :: xs => match nf (g x) with
    | some v => match mpN g xs with
      | some vs => some (v :: vs)
      | none => none
    | none => none
theorem mpN_eq {g : AX → AV} : ∀ {l : List AX} {m : List AV}, mpN g l = some m → l.map g = m
  | [], m, h => by simp only [mpN, Option.some.injEq] at h; exact h
  | x :: xs, m, h => by
    simp only [mpN] at h
    split at h
    · rename_i v hv
      split at h
      · rename_i vs hvs
        simp only [Option.some.injEq] at h
        rw [← h, List.map_cons, nf_eq hv, mpN_eq hvs]
      · cases h
    · cases h

/-! ### Operations that leave the own objects alone -/
abbrev inR (n : Int) : Prop := -9223372036854775808 ≤ n ∧ n ≤ 9223372036854775807

def evI (op : BinOp) (k k' : IntKind) (a b : Int) : Option (AV × Prop) := match op with
  | .add => match k, k' with
    | .i64, .i64 => some (.int .i64 (a + b), inR (a + b))
    | _, _ => none
  | .sub => match k, k' with
    | .i64, .i64 => some (.int .i64 (a - b), inR (a - b))
    | _, _ => none
  | .mul => match k, k' with
    | .i64, .i64 => some (.int .i64 (a * b), inR (a * b))
    | _, _ => none
  | .quo => match k, k' with
    | .i64, .i64 => some (.int .i64 (a.tdiv b), b ≠ 0 ∧ inR (a.tdiv b))
    | _, _ => none
  | .rem => match k, k' with
    | .i64, .i64 => some (.int .i64 (a.tmod b), b ≠ 0)
    | _, _ => none
  | .eql => some (.bool (decide (a = b)), k = k')
  | .neq => some (.bool (decide (a ≠ b)), k = k')
  | .lss => some (.bool (decide (a < b)), k = k')
  | .leq => some (.bool (decide (a ≤ b)), k = k')
  | .gtr => some (.bool (decide (a > b)), k = k')
  | .geq => some (.bool (decide (a ≥ b)), k = k')
  | _ => none
theorem evI_eq {op : BinOp} {k k' : IntKind} {a b : Int} {v : AV} {p : Prop} (h : evI op k k' a b = some (v, p)) (hp : p) : k = k' ∧ binI op k a b = some v ∧ op ≠ .shl ∧ op ≠ .shr := by
  unfold evI at h
  split at h
  · split at h
    · simp only [Option.some.injEq, Prod.mk.injEq] at h; obtain ⟨rfl, rfl⟩ := h; exact ⟨rfl, by simp only [binI]; rw [IntWalk.i64_in _ hp], by simp, by simp⟩
    · cases h
  · split at h
    · simp only [Option.some.injEq, Prod.mk.injEq] at h; obtain ⟨rfl, rfl⟩ := h; exact ⟨rfl, by simp only [binI]; rw [IntWalk.i64_in _ hp], by simp, by simp⟩
    · cases h
  · split at h
    · simp only [Option.some.injEq, Prod.mk.injEq] at h; obtain ⟨rfl, rfl⟩ := h; exact ⟨rfl, by simp only [binI]; rw [IntWalk.i64_in _ hp], by simp, by simp⟩
    · cases h
  · split at h
    · simp only [Option.some.injEq, Prod.mk.injEq] at h; obtain ⟨rfl, rfl⟩ := h; exact ⟨rfl, by simp only [binI]; rw [if_neg hp.1, IntWalk.i64_in _ hp.2], by simp, by simp⟩
    · cases h
  · split at h
    · simp only [Option.some.injEq, Prod.mk.injEq] at h; obtain ⟨rfl, rfl⟩ := h; exact ⟨rfl, by simp only [binI]; rw [if_neg hp], by simp, by simp⟩
    · cases h
  · simp only [Option.some.injEq, Prod.mk.injEq] at h; obtain ⟨rfl, rfl⟩ := h; exact ⟨hp, by simp only [binI]; by_cases q : a = b <;> simp [q], by simp, by simp⟩
  · simp only [Option.some.injEq, Prod.mk.injEq] at h; obtain ⟨rfl, rfl⟩ := h; exact ⟨hp, by simp only [binI]; by_cases q : a = b <;> simp [q], by simp, by simp⟩
  · simp only [Option.some.injEq, Prod.mk.injEq] at h; obtain ⟨rfl, rfl⟩ := h; exact ⟨hp, by simp only [binI], by simp, by simp⟩
  · simp only [Option.some.injEq, Prod.mk.injEq] at h; obtain ⟨rfl, rfl⟩ := h; exact ⟨hp, by simp only [binI], by simp, by simp⟩
  · simp only [Option.some.injEq, Prod.mk.injEq] at h; obtain ⟨rfl, rfl⟩ := h; exact ⟨hp, by simp only [binI], by simp, by simp⟩
  · simp only [Option.some.injEq, Prod.mk.injEq] at h; obtain ⟨rfl, rfl⟩ := h; exact ⟨hp, by simp only [binI], by simp, by simp⟩
  · cases h

def evp (g : AX → AV) (H : Nat → Option Rows) : AOp → Option (AV × Prop)
  | .mv x => nfp (g x)
  | .pick c a b => match g c with
    | .bool true => nfp (g a)
    | .bool false => nfp (g b)
    | _ => none
  | .build z parts => match flA g z parts with
    | some cs => some (.agg cs, 0 = 0)
    | none => none
  | .ld ag sz x => match g x with
    | .vp cs => match ag with
      | true => agp (cs.take sz) (Nat.ble sz cs.length = true)
      | false => match cs with
        | v :: _ => some (v, 0 = 0)
        | [] => none
    | .pt r i j => match H r with
      | some rows => match rows[i]? with
        | some row => match ag with
          | true => agp ((row.drop j).take sz) (Nat.ble (j + sz) row.length = true)
          | false => match row[j]? with
            | some v => some (v, 0 = 0)
            | none => none
        | none => none
      | none => none
    | _ => none
  | .nck x => match g x with
    | .vp cs => some (.vp cs, 0 = 0)
    | .pt r i j => some (.pt r i j, 0 = 0)
    | .fn f caps => some (.fn f caps, 0 = 0)
    | _ => none
  | .bin op x y => match g x with
    | .int k a => match g y with
      | .int k' b => evI op k k' a b
      | _ => none
    | _ => none
  | .bool2 neg x y => match g x with
    | .bool a => match g y with
      | .bool b => match neg with
        | true => some (.bool (decide (a ≠ b)), 0 = 0)
        | false => some (.bool (decide (a = b)), 0 = 0)
      | _ => none
    | _ => none
  | .nil2 ptr neg x y => match isNil ptr (g x) with
    | some a => match isNil ptr (g y) with
      | some b => match a, b, neg with
        | true, true, true => some (.bool false, 0 = 0)
        | true, true, false => some (.bool true, 0 = 0)
        | true, false, true => some (.bool true, 0 = 0)
        | true, false, false => some (.bool false, 0 = 0)
        | false, true, true => some (.bool true, 0 = 0)
        | false, true, false => some (.bool false, 0 = 0)
        | _, _, _ => none
      | none => none
    | none => none
  | .un op x => match op with
    | .neg => match g x with
      | .int .i64 n => some (.int .i64 (-n), inR (-n))
      | _ => none
    | _ => none
  | .cv k x => match k with
    | .i64 => match g x with
      | .int _ n => some (.int .i64 n, inR n)
      | _ => none
    | _ => none
  | .mkf f caps => match mpN g caps with
    | some vs => some (.fn f vs, 0 = 0)
    | none => none
  | .fa off x => match g x with
    | .vp cs => some (.vp (cs.drop off), 0 = 0)
    | .pt r i j => some (.pt r i (j + off), 0 = 0)
    | _ => none
  | .fld ag off sz x => match g x with
    | .agg cs => match ag with
      | true => agp ((cs.drop off).take sz) (Nat.ble (off + sz) cs.length = true)
      | false => match cs[off]? with
        | some v => nfp v
        | none => none
    | _ => none
  | .ext x i => match g x with
    | .tup vs => match vs[i]? with
      | some v => some (v, 0 = 0)
      | none => none
    | _ => none
  | .len x => match g x with
    | .nilS => some (.int .i64 0, 0 = 0)
    | .vw _ es => some (.int .i64 (es.length : Int), 0 = 0)
    | .sl _ _ _ l => some (.int .i64 (l : Int), 0 = 0)
    | _ => none
  | .slen x => match g x with
    | .str s => some (.int .i64 (s.size : Int), 0 = 0)
    | _ => none
  | .mx x y => match g x with
    | .int k a => match g y with
      | .int _ b => some (.int k (max a b), 0 = 0)
      | _ => none
    | _ => none
  | .mn x y => match g x with
    | .int k a => match g y with
      | .int _ b => some (.int k (min a b), 0 = 0)
      | _ => none
    | _ => none
  | _ => none

section
variable {T : Nat → AV} {H : Nat → Option Rows} {nr : Nat}
theorem evp_ev {op : AOp} {v : AV} {p : Prop} (h : evp (gT T) H op = some (v, p)) (hp : p) : ev (gT T) H nr op = some (v, [], 0) := by
  cases op <;> simp only [evp] at h
  case mv x => simp only [ev, pureR, nfp_eq h]
  case pick c a b =>
    split at h
    · rename_i e; simp only [ev, e, pureR, nfp_eq h, if_true]
    · rename_i e; simp only [ev, e, pureR, nfp_eq h]; rfl
    · cases h
  case build z parts =>
    split at h
    · rename_i cs e; simp only [Option.some.injEq, Prod.mk.injEq] at h; obtain ⟨rfl, rfl⟩ := h; exact o_build (flA_eq e)
    · cases h
  case ld ag sz x =>
    split at h
    · rename_i cs e
      split at h
      · obtain ⟨rfl, rfl⟩ := agp_eq h; exact o_ldt_vp e hp rfl
      · split at h
        · simp only [Option.some.injEq, Prod.mk.injEq] at h; obtain ⟨rfl, rfl⟩ := h; exact o_ldf_vp e
        · cases h
    · rename_i r i j e
      split at h
      · rename_i rows e2
        split at h
        · rename_i row e3
          split at h
          · obtain ⟨rfl, rfl⟩ := agp_eq h; exact o_ldt_pt e e2 e3 hp rfl
          · split at h
            · rename_i e4; simp only [Option.some.injEq, Prod.mk.injEq] at h; obtain ⟨rfl, rfl⟩ := h; exact o_ldf_pt e e2 e3 e4
            · cases h
        · cases h
      · cases h
    · cases h
  case nck x =>
    split at h
    · rename_i e; simp only [Option.some.injEq, Prod.mk.injEq] at h; obtain ⟨rfl, rfl⟩ := h; exact o_nck_vp e
    · rename_i e; simp only [Option.some.injEq, Prod.mk.injEq] at h; obtain ⟨rfl, rfl⟩ := h; exact o_nck_pt e
    · rename_i e; simp only [Option.some.injEq, Prod.mk.injEq] at h; obtain ⟨rfl, rfl⟩ := h; exact o_nck_fn e
    · cases h
  case bin op x y =>
    split at h
    · rename_i k a e
      split at h
      · rename_i k' b e2
        obtain ⟨q1, q2, q3, q4⟩ := evI_eq h hp
        subst q1
        simp only [ev, e, e2]
        cases op <;> first | exact absurd rfl q3 | exact absurd rfl q4 | simp only [if_true, q2, Option.bind_some, pureR]
      · cases h
    · cases h
  case bool2 neg x y =>
    split at h
    · rename_i a e
      split at h
      · rename_i b e2
        split at h
        · simp only [Option.some.injEq, Prod.mk.injEq] at h; obtain ⟨rfl, rfl⟩ := h; exact o_bne e e2
        · simp only [Option.some.injEq, Prod.mk.injEq] at h; obtain ⟨rfl, rfl⟩ := h; exact o_beq e e2
      · cases h
    · cases h
  case nil2 ptr neg x y =>
    split at h
    · rename_i a e
      split at h
      · rename_i b e2
        split at h <;> first | (simp only [Option.some.injEq, Prod.mk.injEq] at h; obtain ⟨rfl, rfl⟩ := h; simp only [ev, e, e2, pureR]; rfl) | cases h
      · cases h
    · cases h
  case un op x =>
    split at h
    · split at h
      · rename_i e; simp only [Option.some.injEq, Prod.mk.injEq] at h; obtain ⟨rfl, rfl⟩ := h; exact o_neg e hp.1 hp.2
      · cases h
    · cases h
  case cv k x =>
    split at h
    · split at h
      · rename_i e; simp only [Option.some.injEq, Prod.mk.injEq] at h; obtain ⟨rfl, rfl⟩ := h; simp only [ev, e, pureR]; rw [IntWalk.i64_in _ hp]
      · cases h
    · cases h
  case mkf f caps =>
    split at h
    · rename_i e; simp only [Option.some.injEq, Prod.mk.injEq] at h; obtain ⟨rfl, rfl⟩ := h; exact o_mkf (mpN_eq e)
    · cases h
  case fa off x =>
    split at h
    · rename_i e; simp only [Option.some.injEq, Prod.mk.injEq] at h; obtain ⟨rfl, rfl⟩ := h; exact o_fa_vp e rfl
    · rename_i e; simp only [Option.some.injEq, Prod.mk.injEq] at h; obtain ⟨rfl, rfl⟩ := h; exact o_fa_pt e
    · cases h
  case fld ag off sz x =>
    split at h
    · rename_i cs e
      split at h
      · obtain ⟨rfl, rfl⟩ := agp_eq h; exact o_fldt e hp rfl
      · split at h
        · rename_i e4; have := nfp_eq h; subst this; exact o_fldf e e4
        · cases h
    · cases h
  case ext x i =>
    split at h
    · rename_i e
      split at h
      · rename_i e2; simp only [Option.some.injEq, Prod.mk.injEq] at h; obtain ⟨rfl, rfl⟩ := h; exact o_ext e e2
      · cases h
    · cases h
  case len x =>
    split at h
    · rename_i e; simp only [Option.some.injEq, Prod.mk.injEq] at h; obtain ⟨rfl, rfl⟩ := h; exact o_len_nil e
    · rename_i e; simp only [Option.some.injEq, Prod.mk.injEq] at h; obtain ⟨rfl, rfl⟩ := h; exact o_len_vw e
    · rename_i e; simp only [Option.some.injEq, Prod.mk.injEq] at h; obtain ⟨rfl, rfl⟩ := h; exact o_len_sl e
    · cases h
  case slen x =>
    split at h
    · rename_i e; simp only [Option.some.injEq, Prod.mk.injEq] at h; obtain ⟨rfl, rfl⟩ := h; exact o_slen e
    · cases h
  case mx x y =>
    split at h
    · rename_i e
      split at h
      · rename_i e2; simp only [Option.some.injEq, Prod.mk.injEq] at h; obtain ⟨rfl, rfl⟩ := h; exact o_mx e e2
      · cases h
    · cases h
  case mn x y =>
    split at h
    · rename_i e
      split at h
      · rename_i e2; simp only [Option.some.injEq, Prod.mk.injEq] at h; obtain ⟨rfl, rfl⟩ := h; exact o_mn e e2
      · cases h
    · cases h
  all_goals cases h

/-! ### Operations that make or write one own object -/
def evn (g : AX → AV) (nr : Nat) : AOp → Option (AV × Rows × Prop)
  | .alloc z => some (.pt nr 0 0, [z], 0 = 0)
  | .box sz ag x => match ag with
    | true => match g x with
      | .agg cs => match spN cs with
        | some ds => some (.pt nr 0 0, [ds], Nat.beq ds.length sz = true)
        | none => none
      | _ => none
    | false => match nf1 (g x) with
      | some v => match sz with
        | 1 => some (.pt nr 0 0, [[v]], 0 = 0)
        | _ => none
      | none => none
  | .bsl sz z n parts => match flS g sz (List.replicate n z) parts with
    | some rows => some (.sl nr sz 0 n, rows, 0 = 0)
    | none => none
  | _ => none
theorem evn_ev {op : AOp} {v : AV} {rows : Rows} {p : Prop} (h : evn (gT T) nr op = some (v, rows, p)) (hp : p) : ev (gT T) H nr op = some (v, [(nr, some rows)], 1) := by
  cases op <;> simp only [evn] at h
  case alloc z => simp only [Option.some.injEq, Prod.mk.injEq] at h; obtain ⟨rfl, rfl, rfl⟩ := h; exact o_alloc
  case box sz ag x =>
    split at h
    · split at h
      · rename_i cs e
        split at h
        · rename_i ds e2; simp only [Option.some.injEq, Prod.mk.injEq] at h; obtain ⟨rfl, rfl, rfl⟩ := h
          have := spN_eq e2; subst this
          exact o_box_agg e (Nat.eq_of_beq_eq_true hp)
        · cases h
      · cases h
    · split at h
      · rename_i u e
        split at h
        · simp only [Option.some.injEq, Prod.mk.injEq] at h; obtain ⟨rfl, rfl, rfl⟩ := h; exact o_box1 e
        · cases h
      · cases h
  case bsl sz z n parts =>
    split at h
    · rename_i rs e; simp only [Option.some.injEq, Prod.mk.injEq] at h; obtain ⟨rfl, rfl, rfl⟩ := h; exact o_bsl (flS_eq e)
    · cases h
  all_goals cases h
def evu (g : AX → AV) (H : Nat → Option Rows) : AOp → Option (Nat × Rows × Prop)
  | .st sz p x => match g p with
    | .pt r i j => match H r with
      | some rows => match rows[i]? with
        | some row => match clN (g x) with
          | some cs => match spR (rows.set i (put row j cs)) with
            | some rows' => some (r, rows', (Nat.beq cs.length sz && Nat.ble (j + sz) row.length) = true)
            | none => none
          | none => none
        | none => none
      | none => none
    | _ => none
  | _ => none
theorem evu_ev {op : AOp} {r : Nat} {rows : Rows} {p : Prop} (h : evu (gT T) H op = some (r, rows, p)) (hp : p) : ev (gT T) H nr op = some (.undef, [(r, some rows)], 0) := by
  cases op <;> simp only [evu] at h
  case st sz p x =>
    split at h
    · rename_i r i j e
      split at h
      · rename_i rows e2
        split at h
        · rename_i row e3
          split at h
          · rename_i cs e4
            split at h
            · rename_i rows' e5
              simp only [Option.some.injEq, Prod.mk.injEq] at h; obtain ⟨rfl, rfl, rfl⟩ := h
              have := spR_eq e5; subst this
              simp only [Bool.and_eq_true] at hp
              have h1 := Nat.eq_of_beq_eq_true hp.1
              have h2 := Nat.le_of_ble_eq_true hp.2
              simp only [ev, e, e2, e3, clN_eq e4]
              rw [if_pos ⟨h1, h2⟩]
            · cases h
          · cases h
        · cases h
      · cases h
    · cases h
  all_goals cases h
end

/-! ### The steps -/
section
variable {q : Bool} {P : Program} {m0 : Nat} {t : List (Nat × AV)} {h : List (Nat × Option Rows)} {nr : Nat} {os : List AO} {Q : EX → St → Prop} {K : St → Prop} {A : List (List Nat)} {acc : List (List Nat × List Nat)}
theorem wG_p {d : Nat} {op : AOp} {v : AV} {p : Prop} (he : evp (gT (lk t)) (hg h) op = some (v, p)) (hp : p) (hw : wpG P q os ⟨(d, v) :: t, h, nr⟩ K) : wpG P q (⟨some d, none, op⟩ :: os) ⟨t, h, nr⟩ K := wG_pure (evp_ev he hp) hw
theorem wG_n {d : Nat} {op : AOp} {v : AV} {rows : Rows} {p : Prop} (he : evn (gT (lk t)) nr op = some (v, rows, p)) (hp : p) (hw : wpG P false os ⟨(d, v) :: t, (nr, some rows) :: h, nr + 1⟩ K) : wpG P false (⟨some d, none, op⟩ :: os) ⟨t, h, nr⟩ K := wG_new (evn_ev he hp) hw
theorem wG_u {op : AOp} {r : Nat} {rows : Rows} {p : Prop} (he : evu (gT (lk t)) (hg h) op = some (r, rows, p)) (hp : p) (hw : wpG P false os ⟨t, (r, some rows) :: h, nr⟩ K) : wpG P false (⟨none, none, op⟩ :: os) ⟨t, h, nr⟩ K := wG_upd (evu_ev he hp) hw
/-- A guarded step whose guard is known. -/
def nxG (P : Program) (q : Bool) (d : Option Nat) (g : Nat) (b : Bool) (op : AOp) (os : List AO) (t : List (Nat × AV)) (h : List (Nat × Option Rows)) (nr : Nat) (K : St → Prop) : Option Prop := match lk t g with
  | .bool true => match b with
    | true => some (wpG P q (⟨d, none, op⟩ :: os) ⟨t, h, nr⟩ K)
    | false => match d with
      | some d => some (wpG P q os ⟨(d, .tup []) :: t, h, nr⟩ K)
      | none => some (wpG P q os ⟨t, h, nr⟩ K)
  | .bool false => match b with
    | false => some (wpG P q (⟨d, none, op⟩ :: os) ⟨t, h, nr⟩ K)
    | true => match d with
      | some d => some (wpG P q os ⟨(d, .tup []) :: t, h, nr⟩ K)
      | none => some (wpG P q os ⟨t, h, nr⟩ K)
  | .tup _ => match d with
    | some d => some (wpG P q os ⟨(d, .tup []) :: t, h, nr⟩ K)
    | none => some (wpG P q os ⟨t, h, nr⟩ K)
  | _ => none
theorem wG_gnn {op : AOp} {g : Nat} {b c : Bool} (hc : lk t g = .bool c) (hb : (c == b) = false) (h1 : wpG P q os ⟨t, h, nr⟩ K) : wpG P q (⟨none, some (g, b), op⟩ :: os) ⟨t, h, nr⟩ K := by
  cases q <;> simp only [wpG, wpO, wpQ, wnt, hc, hb, Bool.false_eq_true, if_false] at h1 ⊢ <;> exact h1
theorem wG_gun {op : AOp} {g : Nat} {b : Bool} {vs : List AV} (hc : lk t g = .tup vs) (h1 : wpG P q os ⟨t, h, nr⟩ K) : wpG P q (⟨none, some (g, b), op⟩ :: os) ⟨t, h, nr⟩ K := by
  cases q <;> simp only [wpG, wpO, wpQ, wnt, hc, Bool.false_eq_true, if_false] at h1 ⊢ <;> exact h1
theorem wG_g {d : Option Nat} {op : AOp} {g : Nat} {b : Bool} {G : Prop} (hn : nxG P q d g b op os t h nr K = some G) (hG : G) : wpG P q (⟨d, some (g, b), op⟩ :: os) ⟨t, h, nr⟩ K := by
  unfold nxG at hn
  split at hn
  · rename_i e
    split at hn
    · cases hn; exact wG_gy e hG
    · split at hn
      · cases hn; exact wG_gn e rfl hG
      · cases hn; exact wG_gnn e rfl hG
  · rename_i e
    split at hn
    · cases hn; exact wG_gy e hG
    · split at hn
      · cases hn; exact wG_gn e rfl hG
      · cases hn; exact wG_gnn e rfl hG
  · rename_i e
    split at hn
    · cases hn; exact wG_gu e hG
    · cases hn; exact wG_gun e hG
  · cases hn
/-- A step of the code. -/
def nxC (P : Program) (m0 : Nat) (Q : EX → St → Prop) (t : List (Nat × AV)) (h : List (Nat × Option Rows)) (nr : Nat) : AC → Option Prop
  | .seq a b => some (wpC P m0 a (seqQ (wpC P m0 b Q) Q) ⟨t, h, nr⟩)
  | .reg os => some (wpG P false os ⟨t, h, nr⟩ (Q .n))
  | .dreg os A => match os.all fun o => qOp o.op with
    | true => some (wpG P true os ⟨t, h, nr⟩ (Q .n))
    | false => some (wpE P A os ⟨t, h, nr⟩ [] (Q .n))
  | .skip => some (Q .n ⟨t, h, nr⟩)
  | .blk id b => some (wpC P m0 b (blkQ id Q) ⟨t, h, nr⟩)
  | .exit id => some (Q (.x id) ⟨t, h, nr⟩)
  | .ret => some (Q .r ⟨t, h, nr⟩)
  | .cond x a b => match gT (lk t) x with
    | .bool true => some (wpC P m0 a Q ⟨t, h, nr⟩)
    | .bool false => some (wpC P m0 b Q ⟨t, h, nr⟩)
    | _ => none
  | .loop _ => none
theorem wC_a {c : AC} {G : Prop} (hn : nxC P m0 Q t h nr c = some G) (hG : G) : wpC P m0 c Q ⟨t, h, nr⟩ := by
  unfold nxC at hn
  split at hn
  · cases hn; exact wC_seq hG
  · cases hn; exact wC_reg hG
  · split at hn
    · rename_i e; cases hn; exact wC_dregq e hG
    · cases hn; exact wC_dregE hG
  · cases hn; exact wC_skip hG
  · cases hn; exact wC_blk hG
  · cases hn; exact wC_exit hG
  · cases hn; exact wC_ret hG
  · split at hn
    · rename_i e; cases hn; exact wC_cond_t e hG
    · rename_i e; cases hn; exact wC_cond_f e hG
    · cases hn
  · cases hn
def nxS (k : St → Prop) (Q : EX → St → Prop) (e : EX) (s : St) : Option Prop := match e with
  | .n => some (k s)
  | .x i => some (Q (.x i) s)
  | .r => some (Q .r s)
theorem q_s {k : St → Prop} {e : EX} {s : St} {G : Prop} (hn : nxS k Q e s = some G) (hG : G) : seqQ k Q e s := by
  unfold nxS at hn
  split at hn <;> cases hn <;> exact hG
def nxB (id : Nat) (Q : EX → St → Prop) (e : EX) (s : St) : Option Prop := match e with
  | .n => some (Q .n s)
  | .r => some (Q .r s)
  | .x i => match Nat.beq i id with
    | true => some (Q .n s)
    | false => some (Q (.x i) s)
theorem q_b {id : Nat} {e : EX} {s : St} {G : Prop} (hn : nxB id Q e s = some G) (hG : G) : blkQ id Q e s := by
  unfold nxB at hn
  split at hn
  · cases hn; exact hG
  · cases hn; exact hG
  · split at hn
    · rename_i e; cases hn; have := Nat.eq_of_beq_eq_true e; subst this; exact q_blk_x hG
    · rename_i e; cases hn; exact q_blk_o (by simpa using Nat.ne_of_beq_eq_false e) hG

/-! ### The same in drawn regions that write -/
def spL : List Nat → Option (List Nat)
  | [] => some []
  | x :: xs => match spL xs with
    | some ys => some (x :: ys)
    | none => none
theorem spL_eq : ∀ {l m : List Nat}, spL l = some m → l = m
  | [], m, h => by simp only [spL, Option.some.injEq] at h; exact h
  | x :: xs, m, h => by
    simp only [spL] at h
    split at h
    · rename_i ys e; simp only [Option.some.injEq] at h; rw [← h, spL_eq e]
    · cases h
theorem wE_p {d : Nat} {op : AOp} {v : AV} {p : Prop} {rd : List Nat} (he : evp (gT (lk t)) (hg h) op = some (v, p)) (hp : p) (hr : spL (rds op (gT (lk t)) (hg h)) = some rd) (hw : wpE P A os ⟨(d, v) :: t, h, nr⟩ (([], rd) :: acc) K) : wpE P A (⟨some d, none, op⟩ :: os) ⟨t, h, nr⟩ acc K := wE_pure (evp_ev he hp) (spL_eq hr) hw
theorem wE_v {d : Nat} {op : AOp} {v : AV} {rd : List Nat} (he : ev (gT (lk t)) (hg h) nr op = some (v, [], 0)) (hr : spL (rds op (gT (lk t)) (hg h)) = some rd) (hw : wpE P A os ⟨(d, v) :: t, h, nr⟩ (([], rd) :: acc) K) : wpE P A (⟨some d, none, op⟩ :: os) ⟨t, h, nr⟩ acc K := wE_pure he (spL_eq hr) hw
theorem wE_n {d : Nat} {op : AOp} {v : AV} {rows : Rows} {p : Prop} {rd : List Nat} (he : evn (gT (lk t)) nr op = some (v, rows, p)) (hp : p) (hr : spL (rds op (gT (lk t)) (hg h)) = some rd) (hw : wpE P A os ⟨(d, v) :: t, (nr, some rows) :: h, nr + 1⟩ (([nr], rd) :: acc) K) : wpE P A (⟨some d, none, op⟩ :: os) ⟨t, h, nr⟩ acc K := wE_new (evn_ev he hp) (spL_eq hr) hw
theorem wE_u {op : AOp} {r : Nat} {rows : Rows} {p : Prop} {rd : List Nat} (he : evu (gT (lk t)) (hg h) op = some (r, rows, p)) (hp : p) (hr : spL (rds op (gT (lk t)) (hg h)) = some rd) (hw : wpE P A os ⟨t, (r, some rows) :: h, nr⟩ (([r], rd) :: acc) K) : wpE P A (⟨none, none, op⟩ :: os) ⟨t, h, nr⟩ acc K := wE_upd (evu_ev he hp) (spL_eq hr) hw
end
end Go.Proofs.Yteoonedddgiacaa.Ab
