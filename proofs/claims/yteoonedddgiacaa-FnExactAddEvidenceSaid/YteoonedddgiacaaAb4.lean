/- Heaps with a number of objects that is not fixed: looking up, loops that renumber by any rule. -/
import Derived.Test.YteoonedddgiacaaAb3
namespace Go.Proofs.Yteoonedddgiacaa.Ab
open Go Go.RowKit
set_option linter.unusedSimpArgs false
set_option linter.unusedVariables false

section
variable {P : Program} {t : List (Nat × AV)} {h : List (Nat × Option Rows)} {nr : Nat} {Q : EX → St → Prop}
theorem wC_loopX {b : AC} {s : St} (α : Type) (S : α → St) (I : α → Prop) (μ : α → Nat) (x0 : α) (h1 : I x0) (h2 : LeX 0 s (S x0))
    (h4 : ∀ x, I x → wpC P 0 b (seqQ (fun s' => ∃ x', I x' ∧ μ x' < μ x ∧ LeX 0 s' (S x')) Q) (S x)) : wpC P 0 (.loop b) Q s :=
  ⟨α, S, I, μ, x0, LeX 0, fun _ _ h => h, h1, h2, fun _ _ => Nat.zero_le _, h4⟩
theorem hg_mkh (objs : List Rows) (b q : Nat) : hg (mkh b objs) q = if b ≤ q ∧ q < b + objs.length then objs[q - b]? else none := mkh_get _ objs b q
theorem hg_app (objs : List Rows) (b q : Nat) (h : List (Nat × Option Rows)) : hg (mkh b objs ++ h) q = if b ≤ q ∧ q < b + objs.length then objs[q - b]? else hg h q := by
  rw [hg_upd]; exact mkh_get _ objs b q
theorem hg_in {objs : List Rows} {b q : Nat} {h : List (Nat × Option Rows)} {rows : Rows} (h1 : b ≤ q) (h2 : objs[q - b]? = some rows) : hg (mkh b objs ++ h) q = some rows := by
  rw [hg_app, if_pos ⟨h1, by have := (List.getElem?_eq_some_iff.1 h2).1; omega⟩, h2]
theorem hg_out {objs : List Rows} {b q : Nat} {h : List (Nat × Option Rows)} {y : Option Rows} (h1 : ¬ (b ≤ q ∧ q < b + objs.length)) (h2 : hg h q = y) : hg (mkh b objs ++ h) q = y := by
  rw [hg_app, if_neg h1, h2]
theorem hg_in0 {objs : List Rows} {b q : Nat} {rows : Rows} (h1 : b ≤ q) (h2 : objs[q - b]? = some rows) : hg (mkh b objs) q = some rows := by
  rw [hg_mkh, if_pos ⟨h1, by have := (List.getElem?_eq_some_iff.1 h2).1; omega⟩, h2]
theorem LeR_of {s s' : St} {π : Nat → Nat} (h1 : leTR s.t π s'.nr s'.t) (h2 : ∀ r rows, hg s'.h r = some rows → hg s.h (π r) = some (rows.map fun row => rnL π row)) (h3 : wfH s'.h s'.nr) (h4 : ∀ r r', r < s'.nr → r' < s'.nr → π r = π r' → r = r') : LeR 0 π s s' :=
  ⟨leTR_lk _ h1, fun r rows h => ⟨⟨_, h2 r rows h, rfl⟩, h3 r rows h⟩, fun r hr => absurd hr (Nat.not_lt_zero _), h4⟩
theorem wfH_mkh {objs : List Rows} {b nr : Nat} (h1 : b + objs.length ≤ nr) (h2 : ∀ rows ∈ objs, ∀ row ∈ rows, ∀ x ∈ row, AV.ltr nr x = true) : wfH (mkh b objs) nr := by
  intro r rows hr
  rw [hg_mkh] at hr
  split at hr
  · rename_i hc
    exact ⟨by omega, h2 rows (List.mem_of_getElem? hr)⟩
  · cases hr
theorem retG_gen {ros : List AOp} {rs : List Nat} {v : AV} {objs : List Rows} {s : St} {e : EX} {ws : List AV} (he : e = .n ∨ e = .r) (hv : retVs s ros = some ws) (h1 : ws = retL (πof rs) v) (h2 : notOne v) (h3 : v.ltr objs.length = true) (h4 : rs.length = objs.length) (h5 : rs.Nodup)
    (h6 : ∀ (i : Nat) rows, objs[i]? = some rows → hg s.h (πof rs i) = some (rows.map fun row => rnL (πof rs) row)) : RetG ros rs v objs e s := by
  have : RetG ros rs v objs .r s := ⟨by rw [hv, h1], h2, h3, h4, h5, h6⟩
  rcases he with rfl | rfl
  · exact this
  · exact this
end
end Go.Proofs.Yteoonedddgiacaa.Ab
