/-
  No cell of these rows narrows 'for every input' (looked for: loops, veiled, ifaces, maps, wideKeys, modest, calm, conditions, laid).
  DERIVED. THE GIVEN ROWS OF THIS SEAT. 6 by the template 'for every input the law returns true; each argument reads behind the call as it read before'; 0 by the template 'total and deterministic' (their statements: YtjfppdgomnjnmaaTotals.lean).
  GIVEN WITH THE SEED: the statements are not yours to turn. If you find one false, say at which input.
  Laid BY PROGRAM, IN A SANDBOX (cutbox-rows.mjs): the forced cells as the released guide's own fill.sh prints them over the translation 09ec4c3a524c6930… (all of the seat's roots in one cut). By AI agents, Wed Nov 11 2026. No macro, syntax, notation, axiom, sorry.
-/
import Derived.Test.YtjfppdgomnjnmaaChecked
import GoSem.Claim
import GoSem.ClaimJoined
import GoSem.ClaimMapViews
import Derived.JoinedTies
import Derived.KernelRfl
namespace Go.Proofs.Ytjfppdgomnjnmaa
/- THE CELL 'sum', in the pinned program and in every row, IS THE sha256 OF THE DUMP (.gsa) THAT YtjfppdgomnjnmaaProg.lean LOADS. Nothing in Lean hashes anything: it is a label: what it is worth is what the hold of that sum in a sandbox is worth. -/
noncomputable def Try.pinned : Pinned := { name := "ytjfppdgomnjnmaa", sum := "09ec4c3a524c693084f85a6ddd7114ccfa02ae3865dca22c68fe0c9b056625ae", checked := Try.checked }
namespace Rows
def none {H : Type} : Left H := { results := [], args := [] }

/-- 'laws.FnExactIsValidFinds': WHATEVER THE INPUT: true; the input reads as it did. -/
def fnExactIsValidFindsSpec : ChangeSpec := { name := "fnExactIsValidFinds", fn := fun _ => fun
  | [d] => { results := [.lit (.bool true)], args := [d] }
  | _ => none }
def fnExactIsValidFindsRow : OpenClaim := { program := "ytjfppdgomnjnmaa", sum := "09ec4c3a524c693084f85a6ddd7114ccfa02ae3865dca22c68fe0c9b056625ae", func := "loop.example/g00876/laws.FnExactIsValidFinds", spec := "fnExactIsValidFinds", apart := false }
def FnExactIsValidFindsSaid : Prop := fnExactIsValidFindsRow.holds Try.pinned (OpenSpec.ofChange fnExactIsValidFindsSpec)

/-- ITS FALSE NEIGHBOUR: 'it returns false'. Refute it at one input. -/
def fnExactIsValidFindsWrong : ChangeSpec := { name := "fnExactIsValidFinds", fn := fun _ => fun
  | [d] => { results := [.lit (.bool false)], args := [d] }
  | _ => none }
def FnExactIsValidFindsWrongFalsely : Prop := fnExactIsValidFindsRow.holds Try.pinned (OpenSpec.ofChange fnExactIsValidFindsWrong)

/-- 'laws.FnExactTypeTotals': WHATEVER THE INPUT: true; the input reads as it did. -/
def fnExactTypeTotalsSpec : ChangeSpec := { name := "fnExactTypeTotals", fn := fun _ => fun
  | [d1, d2] => { results := [.lit (.bool true)], args := [d1, d2] }
  | _ => none }
def fnExactTypeTotalsRow : OpenClaim := { program := "ytjfppdgomnjnmaa", sum := "09ec4c3a524c693084f85a6ddd7114ccfa02ae3865dca22c68fe0c9b056625ae", func := "loop.example/g00876/laws.FnExactTypeTotals", spec := "fnExactTypeTotals", apart := false }
def FnExactTypeTotalsSaid : Prop := fnExactTypeTotalsRow.holds Try.pinned (OpenSpec.ofChange fnExactTypeTotalsSpec)

/-- ITS FALSE NEIGHBOUR: 'it returns false'. Refute it at one input. -/
def fnExactTypeTotalsWrong : ChangeSpec := { name := "fnExactTypeTotals", fn := fun _ => fun
  | [d1, d2] => { results := [.lit (.bool false)], args := [d1, d2] }
  | _ => none }
def FnExactTypeTotalsWrongFalsely : Prop := fnExactTypeTotalsRow.holds Try.pinned (OpenSpec.ofChange fnExactTypeTotalsWrong)

/-- 'laws.FnExactBrokenness': WHATEVER THE INPUT: true; the input reads as it did. -/
def fnExactBrokennessSpec : ChangeSpec := { name := "fnExactBrokenness", fn := fun _ => fun
  | [d1, d2] => { results := [.lit (.bool true)], args := [d1, d2] }
  | _ => none }
def fnExactBrokennessRow : OpenClaim := { program := "ytjfppdgomnjnmaa", sum := "09ec4c3a524c693084f85a6ddd7114ccfa02ae3865dca22c68fe0c9b056625ae", func := "loop.example/g00876/laws.FnExactBrokenness", spec := "fnExactBrokenness", apart := false }
def FnExactBrokennessSaid : Prop := fnExactBrokennessRow.holds Try.pinned (OpenSpec.ofChange fnExactBrokennessSpec)

/-- ITS FALSE NEIGHBOUR: 'it returns false'. Refute it at one input. -/
def fnExactBrokennessWrong : ChangeSpec := { name := "fnExactBrokenness", fn := fun _ => fun
  | [d1, d2] => { results := [.lit (.bool false)], args := [d1, d2] }
  | _ => none }
def FnExactBrokennessWrongFalsely : Prop := fnExactBrokennessRow.holds Try.pinned (OpenSpec.ofChange fnExactBrokennessWrong)

/-- 'laws.FnExactVesselEstimate': WHATEVER THE INPUT: true; the input reads as it did. -/
def fnExactVesselEstimateSpec : ChangeSpec := { name := "fnExactVesselEstimate", fn := fun _ => fun
  | [d1, d2] => { results := [.lit (.bool true)], args := [d1, d2] }
  | _ => none }
def fnExactVesselEstimateRow : OpenClaim := { program := "ytjfppdgomnjnmaa", sum := "09ec4c3a524c693084f85a6ddd7114ccfa02ae3865dca22c68fe0c9b056625ae", func := "loop.example/g00876/laws.FnExactVesselEstimate", spec := "fnExactVesselEstimate", unfollowed := true, recurses := true, apart := false }
def FnExactVesselEstimateSaid : Prop := fnExactVesselEstimateRow.holds Try.pinned (OpenSpec.ofChange fnExactVesselEstimateSpec)

/-- ITS FALSE NEIGHBOUR: 'it returns false'. Refute it at one input. -/
def fnExactVesselEstimateWrong : ChangeSpec := { name := "fnExactVesselEstimate", fn := fun _ => fun
  | [d1, d2] => { results := [.lit (.bool false)], args := [d1, d2] }
  | _ => none }
def FnExactVesselEstimateWrongFalsely : Prop := fnExactVesselEstimateRow.holds Try.pinned (OpenSpec.ofChange fnExactVesselEstimateWrong)

/-- 'laws.FnExactDiversityOf': WHATEVER THE INPUT: true; the input reads as it did. -/
def fnExactDiversityOfSpec : ChangeSpec := { name := "fnExactDiversityOf", fn := fun _ => fun
  | [d1, d2] => { results := [.lit (.bool true)], args := [d1, d2] }
  | _ => none }
def fnExactDiversityOfRow : OpenClaim := { program := "ytjfppdgomnjnmaa", sum := "09ec4c3a524c693084f85a6ddd7114ccfa02ae3865dca22c68fe0c9b056625ae", func := "loop.example/g00876/laws.FnExactDiversityOf", spec := "fnExactDiversityOf", unfollowed := true, recurses := true, apart := false }
def FnExactDiversityOfSaid : Prop := fnExactDiversityOfRow.holds Try.pinned (OpenSpec.ofChange fnExactDiversityOfSpec)

/-- ITS FALSE NEIGHBOUR: 'it returns false'. Refute it at one input. -/
def fnExactDiversityOfWrong : ChangeSpec := { name := "fnExactDiversityOf", fn := fun _ => fun
  | [d1, d2] => { results := [.lit (.bool false)], args := [d1, d2] }
  | _ => none }
def FnExactDiversityOfWrongFalsely : Prop := fnExactDiversityOfRow.holds Try.pinned (OpenSpec.ofChange fnExactDiversityOfWrong)

/-- 'laws.FnExactResidualCount': WHATEVER THE INPUT: true; the input reads as it did. -/
def fnExactResidualCountSpec : ChangeSpec := { name := "fnExactResidualCount", fn := fun _ => fun
  | [d1, d2, d3, d4, d5] => { results := [.lit (.bool true)], args := [d1, d2, d3, d4, d5] }
  | _ => none }
def fnExactResidualCountRow : OpenClaim := { program := "ytjfppdgomnjnmaa", sum := "09ec4c3a524c693084f85a6ddd7114ccfa02ae3865dca22c68fe0c9b056625ae", func := "loop.example/g00876/laws.FnExactResidualCount", spec := "fnExactResidualCount", unfollowed := true, recurses := true, apart := false }
def FnExactResidualCountSaid : Prop := fnExactResidualCountRow.holds Try.pinned (OpenSpec.ofChange fnExactResidualCountSpec)

/-- ITS FALSE NEIGHBOUR: 'it returns false'. Refute it at one input. -/
def fnExactResidualCountWrong : ChangeSpec := { name := "fnExactResidualCount", fn := fun _ => fun
  | [d1, d2, d3, d4, d5] => { results := [.lit (.bool false)], args := [d1, d2, d3, d4, d5] }
  | _ => none }
def FnExactResidualCountWrongFalsely : Prop := fnExactResidualCountRow.holds Try.pinned (OpenSpec.ofChange fnExactResidualCountWrong)

/- THE SECOND FORM. 'bulk': how many values and letters a reading holds, each counted each time it is reached (what is shared counts as often as it is met; a slice's spare places count too). A statement '..UptoSaid' is the law's where the arguments, and the package variables that the reading takes, are together of bulk at most 1048576: NARROWER than '..Said'. Prove '..Said' where nothing that the law and all that it calls make is longer than what came in: it says more and counts as full. Else prove '..UptoSaid'. A law counts once. -/
mutual
def uptoBulk {H : Type} : DataW H → Nat
  | .lit (.string bytes) => bytes.length + 1
  | .lit _ => 1
  | .nil => 1
  | .ptr d => uptoBulk d + 1
  | .slice elems spare => uptoBulkAll elems + uptoBulkAll spare + 1
  | .agg parts => uptoBulkAll parts + 1
  | .iface _ d => uptoBulk d + 1
  | .map entries => uptoBulkEntries entries + 1
  | .held _ => 1
def uptoBulkAll {H : Type} : List (DataW H) → Nat
  | [] => 0
  | d :: r => uptoBulk d + uptoBulkAll r
def uptoBulkEntries {H : Type} : List (Lit × DataW H) → Nat
  | [] => 0
  | x :: r => uptoBulkEntry x + uptoBulkEntries r
def uptoBulkEntry {H : Type} : Lit × DataW H → Nat
  | (.string bytes, d) => bytes.length + uptoBulk d + 1
  | (_, d) => uptoBulk d + 1
 end
def uptoSmall : (H : Type) → List (DataW H) → Bool := fun _ ds => decide (uptoBulkAll ds ≤ 1048576)
def OpenSpec.upto (s : _root_.Go.ChangeSpec) : _root_.Go.OpenSpec := { _root_.Go.OpenSpec.ofChange s with cond := some uptoSmall }

/-- 'laws.FnExactIsValidFinds', WHERE WHAT IT READS IS OF BULK AT MOST 1048576: true; the input reads as it did. -/
def fnExactIsValidFindsUptoRow : OpenClaim := { program := "ytjfppdgomnjnmaa", sum := "09ec4c3a524c693084f85a6ddd7114ccfa02ae3865dca22c68fe0c9b056625ae", func := "loop.example/g00876/laws.FnExactIsValidFinds", spec := "fnExactIsValidFinds", apart := false, narrowed := true }
def FnExactIsValidFindsUptoSaid : Prop := fnExactIsValidFindsUptoRow.holds Try.pinned (OpenSpec.upto fnExactIsValidFindsSpec)

/-- 'laws.FnExactTypeTotals', WHERE WHAT IT READS IS OF BULK AT MOST 1048576: true; the input reads as it did. -/
def fnExactTypeTotalsUptoRow : OpenClaim := { program := "ytjfppdgomnjnmaa", sum := "09ec4c3a524c693084f85a6ddd7114ccfa02ae3865dca22c68fe0c9b056625ae", func := "loop.example/g00876/laws.FnExactTypeTotals", spec := "fnExactTypeTotals", apart := false, narrowed := true }
def FnExactTypeTotalsUptoSaid : Prop := fnExactTypeTotalsUptoRow.holds Try.pinned (OpenSpec.upto fnExactTypeTotalsSpec)

/-- 'laws.FnExactBrokenness', WHERE WHAT IT READS IS OF BULK AT MOST 1048576: true; the input reads as it did. -/
def fnExactBrokennessUptoRow : OpenClaim := { program := "ytjfppdgomnjnmaa", sum := "09ec4c3a524c693084f85a6ddd7114ccfa02ae3865dca22c68fe0c9b056625ae", func := "loop.example/g00876/laws.FnExactBrokenness", spec := "fnExactBrokenness", apart := false, narrowed := true }
def FnExactBrokennessUptoSaid : Prop := fnExactBrokennessUptoRow.holds Try.pinned (OpenSpec.upto fnExactBrokennessSpec)

/-- 'laws.FnExactVesselEstimate', WHERE WHAT IT READS IS OF BULK AT MOST 1048576: true; the input reads as it did. -/
def fnExactVesselEstimateUptoRow : OpenClaim := { program := "ytjfppdgomnjnmaa", sum := "09ec4c3a524c693084f85a6ddd7114ccfa02ae3865dca22c68fe0c9b056625ae", func := "loop.example/g00876/laws.FnExactVesselEstimate", spec := "fnExactVesselEstimate", unfollowed := true, recurses := true, apart := false, narrowed := true }
def FnExactVesselEstimateUptoSaid : Prop := fnExactVesselEstimateUptoRow.holds Try.pinned (OpenSpec.upto fnExactVesselEstimateSpec)

/-- 'laws.FnExactDiversityOf', WHERE WHAT IT READS IS OF BULK AT MOST 1048576: true; the input reads as it did. -/
def fnExactDiversityOfUptoRow : OpenClaim := { program := "ytjfppdgomnjnmaa", sum := "09ec4c3a524c693084f85a6ddd7114ccfa02ae3865dca22c68fe0c9b056625ae", func := "loop.example/g00876/laws.FnExactDiversityOf", spec := "fnExactDiversityOf", unfollowed := true, recurses := true, apart := false, narrowed := true }
def FnExactDiversityOfUptoSaid : Prop := fnExactDiversityOfUptoRow.holds Try.pinned (OpenSpec.upto fnExactDiversityOfSpec)

/-- 'laws.FnExactResidualCount', WHERE WHAT IT READS IS OF BULK AT MOST 1048576: true; the input reads as it did. -/
def fnExactResidualCountUptoRow : OpenClaim := { program := "ytjfppdgomnjnmaa", sum := "09ec4c3a524c693084f85a6ddd7114ccfa02ae3865dca22c68fe0c9b056625ae", func := "loop.example/g00876/laws.FnExactResidualCount", spec := "fnExactResidualCount", unfollowed := true, recurses := true, apart := false, narrowed := true }
def FnExactResidualCountUptoSaid : Prop := fnExactResidualCountUptoRow.holds Try.pinned (OpenSpec.upto fnExactResidualCountSpec)

end Rows
end Go.Proofs.Ytjfppdgomnjnmaa
