/-
  No cell of these rows narrows 'for every input' (looked for: loops, veiled, ifaces, maps, wideKeys, modest, calm, conditions, laid).
  DERIVED. THE GIVEN ROWS OF THIS SEAT. 3 by the template 'for every input the law returns true; each argument reads behind the call as it read before'; 0 by the template 'total and deterministic' (their statements: YtkkcplcgafndgaaTotals.lean).
  GIVEN WITH THE SEED: the statements are not yours to turn. If you find one false, say at which input.
  Laid BY PROGRAM, IN A SANDBOX (cutbox-rows.mjs): the forced cells as the released guide's own fill.sh prints them over the translation 49eb0471892a4e40… (all of the seat's roots in one cut). By AI agents, Wed Nov 11 2026. No macro, syntax, notation, axiom, sorry.
-/
import Derived.Test.YtkkcplcgafndgaaChecked
import GoSem.Claim
import GoSem.ClaimJoined
import GoSem.ClaimMapViews
import Derived.JoinedTies
import Derived.KernelRfl
namespace Go.Proofs.Ytkkcplcgafndgaa
/- THE CELL 'sum', in the pinned program and in every row, IS THE sha256 OF THE DUMP (.gsa) THAT YtkkcplcgafndgaaProg.lean LOADS. Nothing in Lean hashes anything: it is a label: what it is worth is what the hold of that sum in a sandbox is worth. -/
noncomputable def Try.pinned : Pinned := { name := "ytkkcplcgafndgaa", sum := "49eb0471892a4e40f4bd2cff3007bbbdcb8d512125e4bf42277d15bef62ef602", checked := Try.checked }
namespace Rows
def none {H : Type} : Left H := { results := [], args := [] }

/-- 'laws.FnExactMakeDistribution': WHATEVER THE INPUT: true; the input reads as it did. -/
def fnExactMakeDistributionSpec : ChangeSpec := { name := "fnExactMakeDistribution", fn := fun _ => fun
  | [d1, d2] => { results := [.lit (.bool true)], args := [d1, d2] }
  | _ => none }
def fnExactMakeDistributionRow : OpenClaim := { program := "ytkkcplcgafndgaa", sum := "49eb0471892a4e40f4bd2cff3007bbbdcb8d512125e4bf42277d15bef62ef602", func := "loop.example/g00876/laws.FnExactMakeDistribution", spec := "fnExactMakeDistribution", unfollowed := true, recurses := true, apart := false }
def FnExactMakeDistributionSaid : Prop := fnExactMakeDistributionRow.holds Try.pinned (OpenSpec.ofChange fnExactMakeDistributionSpec)

/-- ITS FALSE NEIGHBOUR: 'it returns false'. Refute it at one input. -/
def fnExactMakeDistributionWrong : ChangeSpec := { name := "fnExactMakeDistribution", fn := fun _ => fun
  | [d1, d2] => { results := [.lit (.bool false)], args := [d1, d2] }
  | _ => none }
def FnExactMakeDistributionWrongFalsely : Prop := fnExactMakeDistributionRow.holds Try.pinned (OpenSpec.ofChange fnExactMakeDistributionWrong)

/-- 'laws.FnExactCalibrateAge': WHATEVER THE INPUT: true; the input reads as it did. -/
def fnExactCalibrateAgeSpec : ChangeSpec := { name := "fnExactCalibrateAge", fn := fun _ => fun
  | [d1, d2] => { results := [.lit (.bool true)], args := [d1, d2] }
  | _ => none }
def fnExactCalibrateAgeRow : OpenClaim := { program := "ytkkcplcgafndgaa", sum := "49eb0471892a4e40f4bd2cff3007bbbdcb8d512125e4bf42277d15bef62ef602", func := "loop.example/g00876/laws.FnExactCalibrateAge", spec := "fnExactCalibrateAge", unfollowed := true, recurses := true, apart := false }
def FnExactCalibrateAgeSaid : Prop := fnExactCalibrateAgeRow.holds Try.pinned (OpenSpec.ofChange fnExactCalibrateAgeSpec)

/-- ITS FALSE NEIGHBOUR: 'it returns false'. Refute it at one input. -/
def fnExactCalibrateAgeWrong : ChangeSpec := { name := "fnExactCalibrateAge", fn := fun _ => fun
  | [d1, d2] => { results := [.lit (.bool false)], args := [d1, d2] }
  | _ => none }
def FnExactCalibrateAgeWrongFalsely : Prop := fnExactCalibrateAgeRow.holds Try.pinned (OpenSpec.ofChange fnExactCalibrateAgeWrong)

/-- 'laws.FnExactWigglePlacement': WHATEVER THE INPUT: true; the input reads as it did. -/
def fnExactWigglePlacementSpec : ChangeSpec := { name := "fnExactWigglePlacement", fn := fun _ => fun
  | [d1, d2, d3] => { results := [.lit (.bool true)], args := [d1, d2, d3] }
  | _ => none }
def fnExactWigglePlacementRow : OpenClaim := { program := "ytkkcplcgafndgaa", sum := "49eb0471892a4e40f4bd2cff3007bbbdcb8d512125e4bf42277d15bef62ef602", func := "loop.example/g00876/laws.FnExactWigglePlacement", spec := "fnExactWigglePlacement", unfollowed := true, recurses := true, apart := false }
def FnExactWigglePlacementSaid : Prop := fnExactWigglePlacementRow.holds Try.pinned (OpenSpec.ofChange fnExactWigglePlacementSpec)

/-- ITS FALSE NEIGHBOUR: 'it returns false'. Refute it at one input. -/
def fnExactWigglePlacementWrong : ChangeSpec := { name := "fnExactWigglePlacement", fn := fun _ => fun
  | [d1, d2, d3] => { results := [.lit (.bool false)], args := [d1, d2, d3] }
  | _ => none }
def FnExactWigglePlacementWrongFalsely : Prop := fnExactWigglePlacementRow.holds Try.pinned (OpenSpec.ofChange fnExactWigglePlacementWrong)

/- THE SECOND FORM. 'bulk': how many values and letters a reading holds, each counted each time it is reached (what is shared counts as often as it is met; a slice's spare places count too). A statement '..UptoSaid' is the law's where the arguments, and the package variables that the reading takes, are together of bulk at most 1048576: NARROWER than '..Said'. Prove '..Said' where nothing that the law and all that it calls make is longer than what came in: it says more and counts as full. Else prove '..UptoSaid'. A law counts once. -/
mutual
def uptoBulk {H : Type} : DataW H → Nat
  | .lit (.string bytes) => bytes.length + 1
  | .lit _ => 1
  | .nil => 1
  | .ptr d => uptoBulk d + 1
  | .slice elems spare => uptoBulkAll elems + uptoBulkAll spare + 1
  | .agg parts => uptoBulkAll parts + 1
  | .iface _ d => uptoBulk d + 1
  | .map entries => uptoBulkEntries entries + 1
  | .held _ => 1
def uptoBulkAll {H : Type} : List (DataW H) → Nat
  | [] => 0
  | d :: r => uptoBulk d + uptoBulkAll r
def uptoBulkEntries {H : Type} : List (Lit × DataW H) → Nat
  | [] => 0
  | x :: r => uptoBulkEntry x + uptoBulkEntries r
def uptoBulkEntry {H : Type} : Lit × DataW H → Nat
  | (.string bytes, d) => bytes.length + uptoBulk d + 1
  | (_, d) => uptoBulk d + 1
 end
def uptoSmall : (H : Type) → List (DataW H) → Bool := fun _ ds => decide (uptoBulkAll ds ≤ 1048576)
def OpenSpec.upto (s : _root_.Go.ChangeSpec) : _root_.Go.OpenSpec := { _root_.Go.OpenSpec.ofChange s with cond := some uptoSmall }

/-- 'laws.FnExactMakeDistribution', WHERE WHAT IT READS IS OF BULK AT MOST 1048576: true; the input reads as it did. -/
def fnExactMakeDistributionUptoRow : OpenClaim := { program := "ytkkcplcgafndgaa", sum := "49eb0471892a4e40f4bd2cff3007bbbdcb8d512125e4bf42277d15bef62ef602", func := "loop.example/g00876/laws.FnExactMakeDistribution", spec := "fnExactMakeDistribution", unfollowed := true, recurses := true, apart := false, narrowed := true }
def FnExactMakeDistributionUptoSaid : Prop := fnExactMakeDistributionUptoRow.holds Try.pinned (OpenSpec.upto fnExactMakeDistributionSpec)

/-- 'laws.FnExactCalibrateAge', WHERE WHAT IT READS IS OF BULK AT MOST 1048576: true; the input reads as it did. -/
def fnExactCalibrateAgeUptoRow : OpenClaim := { program := "ytkkcplcgafndgaa", sum := "49eb0471892a4e40f4bd2cff3007bbbdcb8d512125e4bf42277d15bef62ef602", func := "loop.example/g00876/laws.FnExactCalibrateAge", spec := "fnExactCalibrateAge", unfollowed := true, recurses := true, apart := false, narrowed := true }
def FnExactCalibrateAgeUptoSaid : Prop := fnExactCalibrateAgeUptoRow.holds Try.pinned (OpenSpec.upto fnExactCalibrateAgeSpec)

/-- 'laws.FnExactWigglePlacement', WHERE WHAT IT READS IS OF BULK AT MOST 1048576: true; the input reads as it did. -/
def fnExactWigglePlacementUptoRow : OpenClaim := { program := "ytkkcplcgafndgaa", sum := "49eb0471892a4e40f4bd2cff3007bbbdcb8d512125e4bf42277d15bef62ef602", func := "loop.example/g00876/laws.FnExactWigglePlacement", spec := "fnExactWigglePlacement", unfollowed := true, recurses := true, apart := false, narrowed := true }
def FnExactWigglePlacementUptoSaid : Prop := fnExactWigglePlacementUptoRow.holds Try.pinned (OpenSpec.upto fnExactWigglePlacementSpec)

end Rows
end Go.Proofs.Ytkkcplcgafndgaa
