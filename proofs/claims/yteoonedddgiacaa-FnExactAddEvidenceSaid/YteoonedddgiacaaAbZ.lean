/- What a call in a drawn region reads. -/
import Derived.Test.YteoonedddgiacaaAbY
namespace Go.Proofs.Yteoonedddgiacaa.Ab
open Go Go.RowKit
set_option linter.unusedSimpArgs false
set_option linter.unusedVariables false

section
variable {T : Nat → AV} {H : Nat → Option Rows} {x : AX} {xs : List AX} {rs : List Nat}
theorem o_mksZ {nr : Nat} {sz bytes n : Nat} {y : AX} {z : List AV} {a : Int} (ha : a = (n : Int)) (h1 : gT T x = .int .i64 a) (h2 : gT T y = .int .i64 a) (h3 : n ≤ 4294967296) (h4 : bytes ≤ 4096) : ev (gT T) H nr (.mks sz bytes z x y) = some (.sl nr sz 0 n, [(nr, some (List.replicate n z))], 1) := by
  subst ha; exact o_mks h1 h2 h3 h4
theorem reach_plain {n : Nat} {v : AV} (h : v.plain = true) : reach H n v = [] := by
  cases n with
  | zero => rfl
  | succ n => cases v <;> first | rfl | simp [AV.plain] at h
theorem reach_rows {n : Nat} : ∀ (rows : Rows), (∀ row ∈ rows, ∀ v ∈ row, AV.plain v = true) → (rows.flatMap fun row => row.flatMap (reach H n)) = []
  | [], _ => rfl
  | row :: rows, h => by
    rw [List.flatMap_cons, reach_rows rows (fun r hr => h r (List.mem_cons_of_mem _ hr)), List.append_nil]
    have : ∀ l : List AV, (∀ v ∈ l, AV.plain v = true) → l.flatMap (reach H n) = [] := by
      intro l
      induction l with
      | nil => intro _; rfl
      | cons b l ih =>
        intro hl
        rw [List.flatMap_cons, ih (fun v hv => hl v (List.mem_cons_of_mem _ hv)), reach_plain (hl b List.mem_cons_self)]
        rfl
    exact this row (h row List.mem_cons_self)
theorem reach_sl {α : Type} {f : α → List AV} {zs : List α} {r sz off n m : Nat} (h : H r = some (zs.map f)) (hp : ∀ x, ∀ v ∈ f x, AV.plain v = true) : reach H (m + 1) (.sl r sz off n) = [r] := by
  simp only [reach, h]
  rw [reach_rows]
  intro row hr v hv
  have hr2 := List.mem_of_mem_drop (List.mem_of_mem_take hr)
  obtain ⟨a, _, rfl⟩ := List.mem_map.1 hr2
  exact hp a v hv
theorem rd_nil {f : Nat} : rds (.call f []) (gT T) H = [] := rfl
theorem rd_any {f : Nat} {l : List Nat} (h1 : reach H 6 (gT T x) = l) (hr : rds (.call f xs) (gT T) H = rs) : rds (.call f (x :: xs)) (gT T) H = l ++ rs := by
  show (x :: xs).flatMap (fun x => reach H 6 (gT T x)) = _
  rw [List.flatMap_cons, h1]
  exact congrArg _ hr
theorem rd_pl {f : Nat} (h1 : (gT T x).plain = true) (hr : rds (.call f xs) (gT T) H = rs) : rds (.call f (x :: xs)) (gT T) H = rs := rd_any (l := []) (reach_plain h1) hr
theorem rd_sl {f : Nat} {α : Type} {g : α → List AV} {zs : List α} {r sz off n : Nat} (h1 : gT T x = .sl r sz off n) (h2 : H r = some (zs.map g)) (hp : ∀ x, ∀ v ∈ g x, AV.plain v = true) (hr : rds (.call f xs) (gT T) H = rs) : rds (.call f (x :: xs)) (gT T) H = r :: rs :=
  rd_any (l := [r]) (by rw [h1]; exact reach_sl (m := 5) h2 hp) hr
/-- A struct of a whole number and a list. -/
theorem rd_is {f : Nat} {α : Type} {g : α → List AV} {zs : List α} {k : IntKind} {a : Int} {r sz off n : Nat} (h1 : gT T x = .agg [.int k a, .sl r sz off n]) (h2 : H r = some (zs.map g)) (hp : ∀ x, ∀ v ∈ g x, AV.plain v = true) (hr : rds (.call f xs) (gT T) H = rs) : rds (.call f (x :: xs)) (gT T) H = r :: rs := by
  refine rd_any (l := [r]) ?_ hr
  rw [h1]
  show ([AV.int k a, .sl r sz off n].flatMap (reach H 5)) = [r]
  rw [List.flatMap_cons, List.flatMap_cons, reach_plain rfl, reach_sl (m := 4) h2 hp]
  rfl
end
end Go.Proofs.Yteoonedddgiacaa.Ab
