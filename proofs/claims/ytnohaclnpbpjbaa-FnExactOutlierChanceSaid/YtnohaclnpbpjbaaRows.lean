/-
  No cell of these rows narrows 'for every input' (looked for: loops, veiled, ifaces, maps, wideKeys, modest, calm, conditions, laid).
  DERIVED. THE GIVEN ROWS OF THIS SEAT. 8 by the template 'for every input the law returns true; each argument reads behind the call as it read before'; 0 by the template 'total and deterministic' (their statements: YtnohaclnpbpjbaaTotals.lean).
  GIVEN WITH THE SEED: the statements are not yours to turn. If you find one false, say at which input.
  Laid BY PROGRAM, IN A SANDBOX (cutbox-rows.mjs): the forced cells as the released guide's own fill.sh prints them over the translation 254e81726f7b5887… (all of the seat's roots in one cut). By AI agents, Wed Nov 11 2026. No macro, syntax, notation, axiom, sorry.
-/
import Derived.Test.YtnohaclnpbpjbaaChecked
import GoSem.Claim
import GoSem.ClaimJoined
import GoSem.ClaimMapViews
import Derived.JoinedTies
import Derived.KernelRfl
namespace Go.Proofs.Ytnohaclnpbpjbaa
/- THE CELL 'sum', in the pinned program and in every row, IS THE sha256 OF THE DUMP (.gsa) THAT YtnohaclnpbpjbaaProg.lean LOADS. Nothing in Lean hashes anything: it is a label: what it is worth is what the hold of that sum in a sandbox is worth. -/
noncomputable def Try.pinned : Pinned := { name := "ytnohaclnpbpjbaa", sum := "254e81726f7b58873d6e2b8150701a1f5e2f4cd3371f5151841d9c29daa1df51", checked := Try.checked }
namespace Rows
def none {H : Type} : Left H := { results := [], args := [] }

/-- 'laws.FnExactIsValidModel': WHATEVER THE INPUT: true; the input reads as it did. -/
def fnExactIsValidModelSpec : ChangeSpec := { name := "fnExactIsValidModel", fn := fun _ => fun
  | [d] => { results := [.lit (.bool true)], args := [d] }
  | _ => none }
def fnExactIsValidModelRow : OpenClaim := { program := "ytnohaclnpbpjbaa", sum := "254e81726f7b58873d6e2b8150701a1f5e2f4cd3371f5151841d9c29daa1df51", func := "loop.example/g00876/laws.FnExactIsValidModel", spec := "fnExactIsValidModel", unfollowed := true, recurses := true, apart := false }
def FnExactIsValidModelSaid : Prop := fnExactIsValidModelRow.holds Try.pinned (OpenSpec.ofChange fnExactIsValidModelSpec)

/-- ITS FALSE NEIGHBOUR: 'it returns false'. Refute it at one input. -/
def fnExactIsValidModelWrong : ChangeSpec := { name := "fnExactIsValidModel", fn := fun _ => fun
  | [d] => { results := [.lit (.bool false)], args := [d] }
  | _ => none }
def FnExactIsValidModelWrongFalsely : Prop := fnExactIsValidModelRow.holds Try.pinned (OpenSpec.ofChange fnExactIsValidModelWrong)

/-- 'laws.FnExactLatestOf': WHATEVER THE INPUT: true; the input reads as it did. -/
def fnExactLatestOfSpec : ChangeSpec := { name := "fnExactLatestOf", fn := fun _ => fun
  | [d] => { results := [.lit (.bool true)], args := [d] }
  | _ => none }
def fnExactLatestOfRow : OpenClaim := { program := "ytnohaclnpbpjbaa", sum := "254e81726f7b58873d6e2b8150701a1f5e2f4cd3371f5151841d9c29daa1df51", func := "loop.example/g00876/laws.FnExactLatestOf", spec := "fnExactLatestOf", unfollowed := true, recurses := true, apart := false }
def FnExactLatestOfSaid : Prop := fnExactLatestOfRow.holds Try.pinned (OpenSpec.ofChange fnExactLatestOfSpec)

/-- ITS FALSE NEIGHBOUR: 'it returns false'. Refute it at one input. -/
def fnExactLatestOfWrong : ChangeSpec := { name := "fnExactLatestOf", fn := fun _ => fun
  | [d] => { results := [.lit (.bool false)], args := [d] }
  | _ => none }
def FnExactLatestOfWrongFalsely : Prop := fnExactLatestOfRow.holds Try.pinned (OpenSpec.ofChange fnExactLatestOfWrong)

/-- 'laws.FnExactTerminusPostQuem': WHATEVER THE INPUT: true; the input reads as it did. -/
def fnExactTerminusPostQuemSpec : ChangeSpec := { name := "fnExactTerminusPostQuem", fn := fun _ => fun
  | [d1, d2, d3] => { results := [.lit (.bool true)], args := [d1, d2, d3] }
  | _ => none }
def fnExactTerminusPostQuemRow : OpenClaim := { program := "ytnohaclnpbpjbaa", sum := "254e81726f7b58873d6e2b8150701a1f5e2f4cd3371f5151841d9c29daa1df51", func := "loop.example/g00876/laws.FnExactTerminusPostQuem", spec := "fnExactTerminusPostQuem", unfollowed := true, recurses := true, apart := false }
def FnExactTerminusPostQuemSaid : Prop := fnExactTerminusPostQuemRow.holds Try.pinned (OpenSpec.ofChange fnExactTerminusPostQuemSpec)

/-- ITS FALSE NEIGHBOUR: 'it returns false'. Refute it at one input. -/
def fnExactTerminusPostQuemWrong : ChangeSpec := { name := "fnExactTerminusPostQuem", fn := fun _ => fun
  | [d1, d2, d3] => { results := [.lit (.bool false)], args := [d1, d2, d3] }
  | _ => none }
def FnExactTerminusPostQuemWrongFalsely : Prop := fnExactTerminusPostQuemRow.holds Try.pinned (OpenSpec.ofChange fnExactTerminusPostQuemWrong)

/-- 'laws.FnExactModelWeight': WHATEVER THE INPUT: true; the input reads as it did. -/
def fnExactModelWeightSpec : ChangeSpec := { name := "fnExactModelWeight", fn := fun _ => fun
  | [d] => { results := [.lit (.bool true)], args := [d] }
  | _ => none }
def fnExactModelWeightRow : OpenClaim := { program := "ytnohaclnpbpjbaa", sum := "254e81726f7b58873d6e2b8150701a1f5e2f4cd3371f5151841d9c29daa1df51", func := "loop.example/g00876/laws.FnExactModelWeight", spec := "fnExactModelWeight", unfollowed := true, recurses := true, apart := false }
def FnExactModelWeightSaid : Prop := fnExactModelWeightRow.holds Try.pinned (OpenSpec.ofChange fnExactModelWeightSpec)

/-- ITS FALSE NEIGHBOUR: 'it returns false'. Refute it at one input. -/
def fnExactModelWeightWrong : ChangeSpec := { name := "fnExactModelWeight", fn := fun _ => fun
  | [d] => { results := [.lit (.bool false)], args := [d] }
  | _ => none }
def FnExactModelWeightWrongFalsely : Prop := fnExactModelWeightRow.holds Try.pinned (OpenSpec.ofChange fnExactModelWeightWrong)

/-- 'laws.FnExactOutlierChance': WHATEVER THE INPUT: true; the input reads as it did. -/
def fnExactOutlierChanceSpec : ChangeSpec := { name := "fnExactOutlierChance", fn := fun _ => fun
  | [d1, d2] => { results := [.lit (.bool true)], args := [d1, d2] }
  | _ => none }
def fnExactOutlierChanceRow : OpenClaim := { program := "ytnohaclnpbpjbaa", sum := "254e81726f7b58873d6e2b8150701a1f5e2f4cd3371f5151841d9c29daa1df51", func := "loop.example/g00876/laws.FnExactOutlierChance", spec := "fnExactOutlierChance", unfollowed := true, recurses := true, named := ["math/bits.divideError", "math/bits.overflowError"], apart := false }
def FnExactOutlierChanceSaid : Prop := fnExactOutlierChanceRow.holds Try.pinned (OpenSpec.ofChange fnExactOutlierChanceSpec)

/-- ITS FALSE NEIGHBOUR: 'it returns false'. Refute it at one input. -/
def fnExactOutlierChanceWrong : ChangeSpec := { name := "fnExactOutlierChance", fn := fun _ => fun
  | [d1, d2] => { results := [.lit (.bool false)], args := [d1, d2] }
  | _ => none }
def FnExactOutlierChanceWrongFalsely : Prop := fnExactOutlierChanceRow.holds Try.pinned (OpenSpec.ofChange fnExactOutlierChanceWrong)

/-- 'laws.FnExactBoundaryDate': WHATEVER THE INPUT: true; the input reads as it did. -/
def fnExactBoundaryDateSpec : ChangeSpec := { name := "fnExactBoundaryDate", fn := fun _ => fun
  | [d1, d2] => { results := [.lit (.bool true)], args := [d1, d2] }
  | _ => none }
def fnExactBoundaryDateRow : OpenClaim := { program := "ytnohaclnpbpjbaa", sum := "254e81726f7b58873d6e2b8150701a1f5e2f4cd3371f5151841d9c29daa1df51", func := "loop.example/g00876/laws.FnExactBoundaryDate", spec := "fnExactBoundaryDate", unfollowed := true, recurses := true, apart := false }
def FnExactBoundaryDateSaid : Prop := fnExactBoundaryDateRow.holds Try.pinned (OpenSpec.ofChange fnExactBoundaryDateSpec)

/-- ITS FALSE NEIGHBOUR: 'it returns false'. Refute it at one input. -/
def fnExactBoundaryDateWrong : ChangeSpec := { name := "fnExactBoundaryDate", fn := fun _ => fun
  | [d1, d2] => { results := [.lit (.bool false)], args := [d1, d2] }
  | _ => none }
def FnExactBoundaryDateWrongFalsely : Prop := fnExactBoundaryDateRow.holds Try.pinned (OpenSpec.ofChange fnExactBoundaryDateWrong)

/-- 'laws.FnExactPhaseSpan': WHATEVER THE INPUT: true; the input reads as it did. -/
def fnExactPhaseSpanSpec : ChangeSpec := { name := "fnExactPhaseSpan", fn := fun _ => fun
  | [d1, d2] => { results := [.lit (.bool true)], args := [d1, d2] }
  | _ => none }
def fnExactPhaseSpanRow : OpenClaim := { program := "ytnohaclnpbpjbaa", sum := "254e81726f7b58873d6e2b8150701a1f5e2f4cd3371f5151841d9c29daa1df51", func := "loop.example/g00876/laws.FnExactPhaseSpan", spec := "fnExactPhaseSpan", unfollowed := true, recurses := true, apart := false }
def FnExactPhaseSpanSaid : Prop := fnExactPhaseSpanRow.holds Try.pinned (OpenSpec.ofChange fnExactPhaseSpanSpec)

/-- ITS FALSE NEIGHBOUR: 'it returns false'. Refute it at one input. -/
def fnExactPhaseSpanWrong : ChangeSpec := { name := "fnExactPhaseSpan", fn := fun _ => fun
  | [d1, d2] => { results := [.lit (.bool false)], args := [d1, d2] }
  | _ => none }
def FnExactPhaseSpanWrongFalsely : Prop := fnExactPhaseSpanRow.holds Try.pinned (OpenSpec.ofChange fnExactPhaseSpanWrong)

/-- 'laws.FnExactEventDate': WHATEVER THE INPUT: true; the input reads as it did. -/
def fnExactEventDateSpec : ChangeSpec := { name := "fnExactEventDate", fn := fun _ => fun
  | [d1, d2] => { results := [.lit (.bool true)], args := [d1, d2] }
  | _ => none }
def fnExactEventDateRow : OpenClaim := { program := "ytnohaclnpbpjbaa", sum := "254e81726f7b58873d6e2b8150701a1f5e2f4cd3371f5151841d9c29daa1df51", func := "loop.example/g00876/laws.FnExactEventDate", spec := "fnExactEventDate", unfollowed := true, recurses := true, apart := false }
def FnExactEventDateSaid : Prop := fnExactEventDateRow.holds Try.pinned (OpenSpec.ofChange fnExactEventDateSpec)

/-- ITS FALSE NEIGHBOUR: 'it returns false'. Refute it at one input. -/
def fnExactEventDateWrong : ChangeSpec := { name := "fnExactEventDate", fn := fun _ => fun
  | [d1, d2] => { results := [.lit (.bool false)], args := [d1, d2] }
  | _ => none }
def FnExactEventDateWrongFalsely : Prop := fnExactEventDateRow.holds Try.pinned (OpenSpec.ofChange fnExactEventDateWrong)

/- THE SECOND FORM. 'bulk': how many values and letters a reading holds, each counted each time it is reached (what is shared counts as often as it is met; a slice's spare places count too). A statement '..UptoSaid' is the law's where the arguments, and the package variables that the reading takes, are together of bulk at most 1048576: NARROWER than '..Said'. Prove '..Said' where nothing that the law and all that it calls make is longer than what came in: it says more and counts as full. Else prove '..UptoSaid'. A law counts once. -/
mutual
def uptoBulk {H : Type} : DataW H → Nat
  | .lit (.string bytes) => bytes.length + 1
  | .lit _ => 1
  | .nil => 1
  | .ptr d => uptoBulk d + 1
  | .slice elems spare => uptoBulkAll elems + uptoBulkAll spare + 1
  | .agg parts => uptoBulkAll parts + 1
  | .iface _ d => uptoBulk d + 1
  | .map entries => uptoBulkEntries entries + 1
  | .held _ => 1
def uptoBulkAll {H : Type} : List (DataW H) → Nat
  | [] => 0
  | d :: r => uptoBulk d + uptoBulkAll r
def uptoBulkEntries {H : Type} : List (Lit × DataW H) → Nat
  | [] => 0
  | x :: r => uptoBulkEntry x + uptoBulkEntries r
def uptoBulkEntry {H : Type} : Lit × DataW H → Nat
  | (.string bytes, d) => bytes.length + uptoBulk d + 1
  | (_, d) => uptoBulk d + 1
 end
def uptoSmall : (H : Type) → List (DataW H) → Bool := fun _ ds => decide (uptoBulkAll ds ≤ 1048576)
def OpenSpec.upto (s : _root_.Go.ChangeSpec) : _root_.Go.OpenSpec := { _root_.Go.OpenSpec.ofChange s with cond := some uptoSmall }

/-- 'laws.FnExactIsValidModel', WHERE WHAT IT READS IS OF BULK AT MOST 1048576: true; the input reads as it did. -/
def fnExactIsValidModelUptoRow : OpenClaim := { program := "ytnohaclnpbpjbaa", sum := "254e81726f7b58873d6e2b8150701a1f5e2f4cd3371f5151841d9c29daa1df51", func := "loop.example/g00876/laws.FnExactIsValidModel", spec := "fnExactIsValidModel", unfollowed := true, recurses := true, apart := false, narrowed := true }
def FnExactIsValidModelUptoSaid : Prop := fnExactIsValidModelUptoRow.holds Try.pinned (OpenSpec.upto fnExactIsValidModelSpec)

/-- 'laws.FnExactLatestOf', WHERE WHAT IT READS IS OF BULK AT MOST 1048576: true; the input reads as it did. -/
def fnExactLatestOfUptoRow : OpenClaim := { program := "ytnohaclnpbpjbaa", sum := "254e81726f7b58873d6e2b8150701a1f5e2f4cd3371f5151841d9c29daa1df51", func := "loop.example/g00876/laws.FnExactLatestOf", spec := "fnExactLatestOf", unfollowed := true, recurses := true, apart := false, narrowed := true }
def FnExactLatestOfUptoSaid : Prop := fnExactLatestOfUptoRow.holds Try.pinned (OpenSpec.upto fnExactLatestOfSpec)

/-- 'laws.FnExactTerminusPostQuem', WHERE WHAT IT READS IS OF BULK AT MOST 1048576: true; the input reads as it did. -/
def fnExactTerminusPostQuemUptoRow : OpenClaim := { program := "ytnohaclnpbpjbaa", sum := "254e81726f7b58873d6e2b8150701a1f5e2f4cd3371f5151841d9c29daa1df51", func := "loop.example/g00876/laws.FnExactTerminusPostQuem", spec := "fnExactTerminusPostQuem", unfollowed := true, recurses := true, apart := false, narrowed := true }
def FnExactTerminusPostQuemUptoSaid : Prop := fnExactTerminusPostQuemUptoRow.holds Try.pinned (OpenSpec.upto fnExactTerminusPostQuemSpec)

/-- 'laws.FnExactModelWeight', WHERE WHAT IT READS IS OF BULK AT MOST 1048576: true; the input reads as it did. -/
def fnExactModelWeightUptoRow : OpenClaim := { program := "ytnohaclnpbpjbaa", sum := "254e81726f7b58873d6e2b8150701a1f5e2f4cd3371f5151841d9c29daa1df51", func := "loop.example/g00876/laws.FnExactModelWeight", spec := "fnExactModelWeight", unfollowed := true, recurses := true, apart := false, narrowed := true }
def FnExactModelWeightUptoSaid : Prop := fnExactModelWeightUptoRow.holds Try.pinned (OpenSpec.upto fnExactModelWeightSpec)

/-- 'laws.FnExactOutlierChance', WHERE WHAT IT READS IS OF BULK AT MOST 1048576: true; the input reads as it did. -/
def fnExactOutlierChanceUptoRow : OpenClaim := { program := "ytnohaclnpbpjbaa", sum := "254e81726f7b58873d6e2b8150701a1f5e2f4cd3371f5151841d9c29daa1df51", func := "loop.example/g00876/laws.FnExactOutlierChance", spec := "fnExactOutlierChance", unfollowed := true, recurses := true, named := ["math/bits.divideError", "math/bits.overflowError"], apart := false, narrowed := true }
def FnExactOutlierChanceUptoSaid : Prop := fnExactOutlierChanceUptoRow.holds Try.pinned (OpenSpec.upto fnExactOutlierChanceSpec)

/-- 'laws.FnExactBoundaryDate', WHERE WHAT IT READS IS OF BULK AT MOST 1048576: true; the input reads as it did. -/
def fnExactBoundaryDateUptoRow : OpenClaim := { program := "ytnohaclnpbpjbaa", sum := "254e81726f7b58873d6e2b8150701a1f5e2f4cd3371f5151841d9c29daa1df51", func := "loop.example/g00876/laws.FnExactBoundaryDate", spec := "fnExactBoundaryDate", unfollowed := true, recurses := true, apart := false, narrowed := true }
def FnExactBoundaryDateUptoSaid : Prop := fnExactBoundaryDateUptoRow.holds Try.pinned (OpenSpec.upto fnExactBoundaryDateSpec)

/-- 'laws.FnExactPhaseSpan', WHERE WHAT IT READS IS OF BULK AT MOST 1048576: true; the input reads as it did. -/
def fnExactPhaseSpanUptoRow : OpenClaim := { program := "ytnohaclnpbpjbaa", sum := "254e81726f7b58873d6e2b8150701a1f5e2f4cd3371f5151841d9c29daa1df51", func := "loop.example/g00876/laws.FnExactPhaseSpan", spec := "fnExactPhaseSpan", unfollowed := true, recurses := true, apart := false, narrowed := true }
def FnExactPhaseSpanUptoSaid : Prop := fnExactPhaseSpanUptoRow.holds Try.pinned (OpenSpec.upto fnExactPhaseSpanSpec)

/-- 'laws.FnExactEventDate', WHERE WHAT IT READS IS OF BULK AT MOST 1048576: true; the input reads as it did. -/
def fnExactEventDateUptoRow : OpenClaim := { program := "ytnohaclnpbpjbaa", sum := "254e81726f7b58873d6e2b8150701a1f5e2f4cd3371f5151841d9c29daa1df51", func := "loop.example/g00876/laws.FnExactEventDate", spec := "fnExactEventDate", unfollowed := true, recurses := true, apart := false, narrowed := true }
def FnExactEventDateUptoSaid : Prop := fnExactEventDateUptoRow.holds Try.pinned (OpenSpec.upto fnExactEventDateSpec)

end Rows
end Go.Proofs.Ytnohaclnpbpjbaa
