/-
  No cell of these rows narrows 'for every input' (looked for: loops, veiled, ifaces, maps, wideKeys, modest, calm, conditions, laid).
  DERIVED. THE GIVEN ROWS OF THIS SEAT. 7 by the template 'for every input the law returns true; each argument reads behind the call as it read before'; 0 by the template 'total and deterministic' (their statements: YtkbgadipkihifaaTotals.lean).
  GIVEN WITH THE SEED: the statements are not yours to turn. If you find one false, say at which input.
  Laid BY PROGRAM, IN A SANDBOX (cutbox-rows.mjs): the forced cells as the released guide's own fill.sh prints them over the translation d249a4ba6dfbdd6c… (all of the seat's roots in one cut). By AI agents, Wed Nov 11 2026. No macro, syntax, notation, axiom, sorry.
-/
import Derived.Test.YtkbgadipkihifaaChecked
import GoSem.Claim
import GoSem.ClaimJoined
import GoSem.ClaimMapViews
import Derived.JoinedTies
import Derived.KernelRfl
namespace Go.Proofs.Ytkbgadipkihifaa
/- THE CELL 'sum', in the pinned program and in every row, IS THE sha256 OF THE DUMP (.gsa) THAT YtkbgadipkihifaaProg.lean LOADS. Nothing in Lean hashes anything: it is a label: what it is worth is what the hold of that sum in a sandbox is worth. -/
noncomputable def Try.pinned : Pinned := { name := "ytkbgadipkihifaa", sum := "d249a4ba6dfbdd6cd435dca5ac410dd397f8acd4adee052b1aa4cac21b4051e6", checked := Try.checked }
namespace Rows
def none {H : Type} : Left H := { results := [], args := [] }

/-- 'laws.FnExactIsValidCurve': WHATEVER THE INPUT: true; the input reads as it did. -/
def fnExactIsValidCurveSpec : ChangeSpec := { name := "fnExactIsValidCurve", fn := fun _ => fun
  | [d] => { results := [.lit (.bool true)], args := [d] }
  | _ => none }
def fnExactIsValidCurveRow : OpenClaim := { program := "ytkbgadipkihifaa", sum := "d249a4ba6dfbdd6cd435dca5ac410dd397f8acd4adee052b1aa4cac21b4051e6", func := "loop.example/g00876/laws.FnExactIsValidCurve", spec := "fnExactIsValidCurve", apart := false }
def FnExactIsValidCurveSaid : Prop := fnExactIsValidCurveRow.holds Try.pinned (OpenSpec.ofChange fnExactIsValidCurveSpec)

/-- ITS FALSE NEIGHBOUR: 'it returns false'. Refute it at one input. -/
def fnExactIsValidCurveWrong : ChangeSpec := { name := "fnExactIsValidCurve", fn := fun _ => fun
  | [d] => { results := [.lit (.bool false)], args := [d] }
  | _ => none }
def FnExactIsValidCurveWrongFalsely : Prop := fnExactIsValidCurveRow.holds Try.pinned (OpenSpec.ofChange fnExactIsValidCurveWrong)

/-- 'laws.FnExactCombineMeasurements': WHATEVER THE INPUT: true; the input reads as it did. -/
def fnExactCombineMeasurementsSpec : ChangeSpec := { name := "fnExactCombineMeasurements", fn := fun _ => fun
  | [d] => { results := [.lit (.bool true)], args := [d] }
  | _ => none }
def fnExactCombineMeasurementsRow : OpenClaim := { program := "ytkbgadipkihifaa", sum := "d249a4ba6dfbdd6cd435dca5ac410dd397f8acd4adee052b1aa4cac21b4051e6", func := "loop.example/g00876/laws.FnExactCombineMeasurements", spec := "fnExactCombineMeasurements", unfollowed := true, recurses := true, apart := false }
def FnExactCombineMeasurementsSaid : Prop := fnExactCombineMeasurementsRow.holds Try.pinned (OpenSpec.ofChange fnExactCombineMeasurementsSpec)

/-- ITS FALSE NEIGHBOUR: 'it returns false'. Refute it at one input. -/
def fnExactCombineMeasurementsWrong : ChangeSpec := { name := "fnExactCombineMeasurements", fn := fun _ => fun
  | [d] => { results := [.lit (.bool false)], args := [d] }
  | _ => none }
def FnExactCombineMeasurementsWrongFalsely : Prop := fnExactCombineMeasurementsRow.holds Try.pinned (OpenSpec.ofChange fnExactCombineMeasurementsWrong)

/-- 'laws.FnExactAgreementOf': WHATEVER THE INPUT: true; the input reads as it did. -/
def fnExactAgreementOfSpec : ChangeSpec := { name := "fnExactAgreementOf", fn := fun _ => fun
  | [d] => { results := [.lit (.bool true)], args := [d] }
  | _ => none }
def fnExactAgreementOfRow : OpenClaim := { program := "ytkbgadipkihifaa", sum := "d249a4ba6dfbdd6cd435dca5ac410dd397f8acd4adee052b1aa4cac21b4051e6", func := "loop.example/g00876/laws.FnExactAgreementOf", spec := "fnExactAgreementOf", unfollowed := true, recurses := true, apart := false }
def FnExactAgreementOfSaid : Prop := fnExactAgreementOfRow.holds Try.pinned (OpenSpec.ofChange fnExactAgreementOfSpec)

/-- ITS FALSE NEIGHBOUR: 'it returns false'. Refute it at one input. -/
def fnExactAgreementOfWrong : ChangeSpec := { name := "fnExactAgreementOf", fn := fun _ => fun
  | [d] => { results := [.lit (.bool false)], args := [d] }
  | _ => none }
def FnExactAgreementOfWrongFalsely : Prop := fnExactAgreementOfRow.holds Try.pinned (OpenSpec.ofChange fnExactAgreementOfWrong)

/-- 'laws.FnExactCurveAt': WHATEVER THE INPUT: true; the input reads as it did. -/
def fnExactCurveAtSpec : ChangeSpec := { name := "fnExactCurveAt", fn := fun _ => fun
  | [d1, d2] => { results := [.lit (.bool true)], args := [d1, d2] }
  | _ => none }
def fnExactCurveAtRow : OpenClaim := { program := "ytkbgadipkihifaa", sum := "d249a4ba6dfbdd6cd435dca5ac410dd397f8acd4adee052b1aa4cac21b4051e6", func := "loop.example/g00876/laws.FnExactCurveAt", spec := "fnExactCurveAt", recurses := true, apart := false }
def FnExactCurveAtSaid : Prop := fnExactCurveAtRow.holds Try.pinned (OpenSpec.ofChange fnExactCurveAtSpec)

/-- ITS FALSE NEIGHBOUR: 'it returns false'. Refute it at one input. -/
def fnExactCurveAtWrong : ChangeSpec := { name := "fnExactCurveAt", fn := fun _ => fun
  | [d1, d2] => { results := [.lit (.bool false)], args := [d1, d2] }
  | _ => none }
def FnExactCurveAtWrongFalsely : Prop := fnExactCurveAtRow.holds Try.pinned (OpenSpec.ofChange fnExactCurveAtWrong)

/-- 'laws.FnExactCurveTurns': WHATEVER THE INPUT: true; the input reads as it did. -/
def fnExactCurveTurnsSpec : ChangeSpec := { name := "fnExactCurveTurns", fn := fun _ => fun
  | [d] => { results := [.lit (.bool true)], args := [d] }
  | _ => none }
def fnExactCurveTurnsRow : OpenClaim := { program := "ytkbgadipkihifaa", sum := "d249a4ba6dfbdd6cd435dca5ac410dd397f8acd4adee052b1aa4cac21b4051e6", func := "loop.example/g00876/laws.FnExactCurveTurns", spec := "fnExactCurveTurns", apart := false }
def FnExactCurveTurnsSaid : Prop := fnExactCurveTurnsRow.holds Try.pinned (OpenSpec.ofChange fnExactCurveTurnsSpec)

/-- ITS FALSE NEIGHBOUR: 'it returns false'. Refute it at one input. -/
def fnExactCurveTurnsWrong : ChangeSpec := { name := "fnExactCurveTurns", fn := fun _ => fun
  | [d] => { results := [.lit (.bool false)], args := [d] }
  | _ => none }
def FnExactCurveTurnsWrongFalsely : Prop := fnExactCurveTurnsRow.holds Try.pinned (OpenSpec.ofChange fnExactCurveTurnsWrong)

/-- 'laws.FnExactShiftCurve': WHATEVER THE INPUT: true; the input reads as it did. -/
def fnExactShiftCurveSpec : ChangeSpec := { name := "fnExactShiftCurve", fn := fun _ => fun
  | [d1, d2, d3] => { results := [.lit (.bool true)], args := [d1, d2, d3] }
  | _ => none }
def fnExactShiftCurveRow : OpenClaim := { program := "ytkbgadipkihifaa", sum := "d249a4ba6dfbdd6cd435dca5ac410dd397f8acd4adee052b1aa4cac21b4051e6", func := "loop.example/g00876/laws.FnExactShiftCurve", spec := "fnExactShiftCurve", apart := false }
def FnExactShiftCurveSaid : Prop := fnExactShiftCurveRow.holds Try.pinned (OpenSpec.ofChange fnExactShiftCurveSpec)

/-- ITS FALSE NEIGHBOUR: 'it returns false'. Refute it at one input. -/
def fnExactShiftCurveWrong : ChangeSpec := { name := "fnExactShiftCurve", fn := fun _ => fun
  | [d1, d2, d3] => { results := [.lit (.bool false)], args := [d1, d2, d3] }
  | _ => none }
def FnExactShiftCurveWrongFalsely : Prop := fnExactShiftCurveRow.holds Try.pinned (OpenSpec.ofChange fnExactShiftCurveWrong)

/-- 'laws.FnExactYearsWithin': WHATEVER THE INPUT: true; the input reads as it did. -/
def fnExactYearsWithinSpec : ChangeSpec := { name := "fnExactYearsWithin", fn := fun _ => fun
  | [d1, d2, d3] => { results := [.lit (.bool true)], args := [d1, d2, d3] }
  | _ => none }
def fnExactYearsWithinRow : OpenClaim := { program := "ytkbgadipkihifaa", sum := "d249a4ba6dfbdd6cd435dca5ac410dd397f8acd4adee052b1aa4cac21b4051e6", func := "loop.example/g00876/laws.FnExactYearsWithin", spec := "fnExactYearsWithin", recurses := true, apart := false }
def FnExactYearsWithinSaid : Prop := fnExactYearsWithinRow.holds Try.pinned (OpenSpec.ofChange fnExactYearsWithinSpec)

/-- ITS FALSE NEIGHBOUR: 'it returns false'. Refute it at one input. -/
def fnExactYearsWithinWrong : ChangeSpec := { name := "fnExactYearsWithin", fn := fun _ => fun
  | [d1, d2, d3] => { results := [.lit (.bool false)], args := [d1, d2, d3] }
  | _ => none }
def FnExactYearsWithinWrongFalsely : Prop := fnExactYearsWithinRow.holds Try.pinned (OpenSpec.ofChange fnExactYearsWithinWrong)

/- THE SECOND FORM. 'bulk': how many values and letters a reading holds, each counted each time it is reached (what is shared counts as often as it is met; a slice's spare places count too). A statement '..UptoSaid' is the law's where the arguments, and the package variables that the reading takes, are together of bulk at most 1048576: NARROWER than '..Said'. Prove '..Said' where nothing that the law and all that it calls make is longer than what came in: it says more and counts as full. Else prove '..UptoSaid'. A law counts once. -/
mutual
def uptoBulk {H : Type} : DataW H → Nat
  | .lit (.string bytes) => bytes.length + 1
  | .lit _ => 1
  | .nil => 1
  | .ptr d => uptoBulk d + 1
  | .slice elems spare => uptoBulkAll elems + uptoBulkAll spare + 1
  | .agg parts => uptoBulkAll parts + 1
  | .iface _ d => uptoBulk d + 1
  | .map entries => uptoBulkEntries entries + 1
  | .held _ => 1
def uptoBulkAll {H : Type} : List (DataW H) → Nat
  | [] => 0
  | d :: r => uptoBulk d + uptoBulkAll r
def uptoBulkEntries {H : Type} : List (Lit × DataW H) → Nat
  | [] => 0
  | x :: r => uptoBulkEntry x + uptoBulkEntries r
def uptoBulkEntry {H : Type} : Lit × DataW H → Nat
  | (.string bytes, d) => bytes.length + uptoBulk d + 1
  | (_, d) => uptoBulk d + 1
 end
def uptoSmall : (H : Type) → List (DataW H) → Bool := fun _ ds => decide (uptoBulkAll ds ≤ 1048576)
def OpenSpec.upto (s : _root_.Go.ChangeSpec) : _root_.Go.OpenSpec := { _root_.Go.OpenSpec.ofChange s with cond := some uptoSmall }

/-- 'laws.FnExactIsValidCurve', WHERE WHAT IT READS IS OF BULK AT MOST 1048576: true; the input reads as it did. -/
def fnExactIsValidCurveUptoRow : OpenClaim := { program := "ytkbgadipkihifaa", sum := "d249a4ba6dfbdd6cd435dca5ac410dd397f8acd4adee052b1aa4cac21b4051e6", func := "loop.example/g00876/laws.FnExactIsValidCurve", spec := "fnExactIsValidCurve", apart := false, narrowed := true }
def FnExactIsValidCurveUptoSaid : Prop := fnExactIsValidCurveUptoRow.holds Try.pinned (OpenSpec.upto fnExactIsValidCurveSpec)

/-- 'laws.FnExactCombineMeasurements', WHERE WHAT IT READS IS OF BULK AT MOST 1048576: true; the input reads as it did. -/
def fnExactCombineMeasurementsUptoRow : OpenClaim := { program := "ytkbgadipkihifaa", sum := "d249a4ba6dfbdd6cd435dca5ac410dd397f8acd4adee052b1aa4cac21b4051e6", func := "loop.example/g00876/laws.FnExactCombineMeasurements", spec := "fnExactCombineMeasurements", unfollowed := true, recurses := true, apart := false, narrowed := true }
def FnExactCombineMeasurementsUptoSaid : Prop := fnExactCombineMeasurementsUptoRow.holds Try.pinned (OpenSpec.upto fnExactCombineMeasurementsSpec)

/-- 'laws.FnExactAgreementOf', WHERE WHAT IT READS IS OF BULK AT MOST 1048576: true; the input reads as it did. -/
def fnExactAgreementOfUptoRow : OpenClaim := { program := "ytkbgadipkihifaa", sum := "d249a4ba6dfbdd6cd435dca5ac410dd397f8acd4adee052b1aa4cac21b4051e6", func := "loop.example/g00876/laws.FnExactAgreementOf", spec := "fnExactAgreementOf", unfollowed := true, recurses := true, apart := false, narrowed := true }
def FnExactAgreementOfUptoSaid : Prop := fnExactAgreementOfUptoRow.holds Try.pinned (OpenSpec.upto fnExactAgreementOfSpec)

/-- 'laws.FnExactCurveAt', WHERE WHAT IT READS IS OF BULK AT MOST 1048576: true; the input reads as it did. -/
def fnExactCurveAtUptoRow : OpenClaim := { program := "ytkbgadipkihifaa", sum := "d249a4ba6dfbdd6cd435dca5ac410dd397f8acd4adee052b1aa4cac21b4051e6", func := "loop.example/g00876/laws.FnExactCurveAt", spec := "fnExactCurveAt", recurses := true, apart := false, narrowed := true }
def FnExactCurveAtUptoSaid : Prop := fnExactCurveAtUptoRow.holds Try.pinned (OpenSpec.upto fnExactCurveAtSpec)

/-- 'laws.FnExactCurveTurns', WHERE WHAT IT READS IS OF BULK AT MOST 1048576: true; the input reads as it did. -/
def fnExactCurveTurnsUptoRow : OpenClaim := { program := "ytkbgadipkihifaa", sum := "d249a4ba6dfbdd6cd435dca5ac410dd397f8acd4adee052b1aa4cac21b4051e6", func := "loop.example/g00876/laws.FnExactCurveTurns", spec := "fnExactCurveTurns", apart := false, narrowed := true }
def FnExactCurveTurnsUptoSaid : Prop := fnExactCurveTurnsUptoRow.holds Try.pinned (OpenSpec.upto fnExactCurveTurnsSpec)

/-- 'laws.FnExactShiftCurve', WHERE WHAT IT READS IS OF BULK AT MOST 1048576: true; the input reads as it did. -/
def fnExactShiftCurveUptoRow : OpenClaim := { program := "ytkbgadipkihifaa", sum := "d249a4ba6dfbdd6cd435dca5ac410dd397f8acd4adee052b1aa4cac21b4051e6", func := "loop.example/g00876/laws.FnExactShiftCurve", spec := "fnExactShiftCurve", apart := false, narrowed := true }
def FnExactShiftCurveUptoSaid : Prop := fnExactShiftCurveUptoRow.holds Try.pinned (OpenSpec.upto fnExactShiftCurveSpec)

/-- 'laws.FnExactYearsWithin', WHERE WHAT IT READS IS OF BULK AT MOST 1048576: true; the input reads as it did. -/
def fnExactYearsWithinUptoRow : OpenClaim := { program := "ytkbgadipkihifaa", sum := "d249a4ba6dfbdd6cd435dca5ac410dd397f8acd4adee052b1aa4cac21b4051e6", func := "loop.example/g00876/laws.FnExactYearsWithin", spec := "fnExactYearsWithin", recurses := true, apart := false, narrowed := true }
def FnExactYearsWithinUptoSaid : Prop := fnExactYearsWithinUptoRow.holds Try.pinned (OpenSpec.upto fnExactYearsWithinSpec)

end Rows
end Go.Proofs.Ytkbgadipkihifaa
