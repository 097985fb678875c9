/- Calls of function values that work on the caller's own objects. -/
import Derived.Test.YtkkcplcgafndgaaIntA
import Derived.Test.YtkkcplcgafndgaaAb4
namespace Go.Proofs.Ytkkcplcgafndgaa.Ab
open Go Go.RowKit
set_option linter.unusedSimpArgs false
set_option linter.unusedVariables false
section
variable {P : Program} {t : List (Nat × AV)} {h : List (Nat × Option Rows)} {nr : Nat} {os : List AO} {K : St → Prop}
theorem wG_callSv {d f : Nat} {x : AX} {args : List AX} {caps vs : List AV} {v : AV} {h' : List (Nat × Option Rows)} {nr' : Nat} (hx : gT (lk t) x = .fn f caps) (hc : Sh P f vs h nr v h' nr') (ha : args.map (gT (lk t)) ++ caps = vs) (hw : wpG P false os ⟨(d, v) :: t, h', nr'⟩ K) :
    wpG P false (⟨some d, none, .callv x args⟩ :: os) ⟨t, h, nr⟩ K := by
  simp only [wpG, wpO, stepA, callA, get_gT, hx] at hw ⊢
  refine .inr ⟨v, h', nr', ?_, hw⟩
  rw [ha]; exact hc
end
/-- What the callee may know is what counts of a heap. -/
theorem Sh_hg {P : Program} {f : Nat} {args : List AV} {h h2 h' : List (Nat × Option Rows)} {nr nr' : Nat} {v : AV} (e : hg h = hg h2) (hs : Sh P f args h nr v h' nr') : Sh P f args h2 nr v h' nr' := by
  unfold Sh at hs ⊢
  rw [← e]; exact hs
theorem hg_two {r : Nat} {x y : Option Rows} {h : List (Nat × Option Rows)} : hg ((r, x) :: (r, y) :: h) = hg ((r, x) :: h) := by
  funext q
  simp only [hg, upd]
  split <;> rfl
end Go.Proofs.Ytkkcplcgafndgaa.Ab
