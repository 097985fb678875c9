/-
  No cell of these rows narrows 'for every input' (looked for: loops, veiled, ifaces, maps, wideKeys, modest, calm, conditions, laid).
  DERIVED. THE GIVEN ROWS OF THIS SEAT. 4 by the template 'for every input the law returns true; each argument reads behind the call as it read before'; 0 by the template 'total and deterministic' (their statements: YtencmeleapmjnaaTotals.lean).
  GIVEN WITH THE SEED: the statements are not yours to turn. If you find one false, say at which input.
  Laid BY PROGRAM, IN A SANDBOX (cutbox-rows.mjs): the forced cells as the released guide's own fill.sh prints them over the translation 22dc43265b1cd38d… (all of the seat's roots in one cut). By AI agents, Wed Nov 11 2026. No macro, syntax, notation, axiom, sorry.
-/
import Derived.Test.YtencmeleapmjnaaChecked
import GoSem.Claim
import GoSem.ClaimJoined
import GoSem.ClaimMapViews
import Derived.JoinedTies
import Derived.KernelRfl
namespace Go.Proofs.Ytencmeleapmjnaa
/- THE CELL 'sum', in the pinned program and in every row, IS THE sha256 OF THE DUMP (.gsa) THAT YtencmeleapmjnaaProg.lean LOADS. Nothing in Lean hashes anything: it is a label: what it is worth is what the hold of that sum in a sandbox is worth. -/
noncomputable def Try.pinned : Pinned := { name := "ytencmeleapmjnaa", sum := "22dc43265b1cd38d90a08a4d6d0875a5a8ac0acf300f4e0e12ab49b199ff7498", checked := Try.checked }
namespace Rows
def none {H : Type} : Left H := { results := [], args := [] }

/-- 'laws.FnExactDecisiveEvidence': WHATEVER THE INPUT: true; the input reads as it did. -/
def fnExactDecisiveEvidenceSpec : ChangeSpec := { name := "fnExactDecisiveEvidence", fn := fun _ => fun
  | [d1, d2] => { results := [.lit (.bool true)], args := [d1, d2] }
  | _ => none }
def fnExactDecisiveEvidenceRow : OpenClaim := { program := "ytencmeleapmjnaa", sum := "22dc43265b1cd38d90a08a4d6d0875a5a8ac0acf300f4e0e12ab49b199ff7498", func := "loop.example/g00876/laws.FnExactDecisiveEvidence", spec := "fnExactDecisiveEvidence", unfollowed := true, recurses := true, apart := false }
def FnExactDecisiveEvidenceSaid : Prop := fnExactDecisiveEvidenceRow.holds Try.pinned (OpenSpec.ofChange fnExactDecisiveEvidenceSpec)

/-- ITS FALSE NEIGHBOUR: 'it returns false'. Refute it at one input. -/
def fnExactDecisiveEvidenceWrong : ChangeSpec := { name := "fnExactDecisiveEvidence", fn := fun _ => fun
  | [d1, d2] => { results := [.lit (.bool false)], args := [d1, d2] }
  | _ => none }
def FnExactDecisiveEvidenceWrongFalsely : Prop := fnExactDecisiveEvidenceRow.holds Try.pinned (OpenSpec.ofChange fnExactDecisiveEvidenceWrong)

/-- 'laws.FnExactPropagateDates': WHATEVER THE INPUT: true; the input reads as it did. -/
def fnExactPropagateDatesSpec : ChangeSpec := { name := "fnExactPropagateDates", fn := fun _ => fun
  | [d1, d2] => { results := [.lit (.bool true)], args := [d1, d2] }
  | _ => none }
def fnExactPropagateDatesRow : OpenClaim := { program := "ytencmeleapmjnaa", sum := "22dc43265b1cd38d90a08a4d6d0875a5a8ac0acf300f4e0e12ab49b199ff7498", func := "loop.example/g00876/laws.FnExactPropagateDates", spec := "fnExactPropagateDates", unfollowed := true, recurses := true, apart := false }
def FnExactPropagateDatesSaid : Prop := fnExactPropagateDatesRow.holds Try.pinned (OpenSpec.ofChange fnExactPropagateDatesSpec)

/-- ITS FALSE NEIGHBOUR: 'it returns false'. Refute it at one input. -/
def fnExactPropagateDatesWrong : ChangeSpec := { name := "fnExactPropagateDates", fn := fun _ => fun
  | [d1, d2] => { results := [.lit (.bool false)], args := [d1, d2] }
  | _ => none }
def FnExactPropagateDatesWrongFalsely : Prop := fnExactPropagateDatesRow.holds Try.pinned (OpenSpec.ofChange fnExactPropagateDatesWrong)

/-- 'laws.FnExactIsValidEvidence': WHATEVER THE INPUT: true; the input reads as it did. -/
def fnExactIsValidEvidenceSpec : ChangeSpec := { name := "fnExactIsValidEvidence", fn := fun _ => fun
  | [d1, d2] => { results := [.lit (.bool true)], args := [d1, d2] }
  | _ => none }
def fnExactIsValidEvidenceRow : OpenClaim := { program := "ytencmeleapmjnaa", sum := "22dc43265b1cd38d90a08a4d6d0875a5a8ac0acf300f4e0e12ab49b199ff7498", func := "loop.example/g00876/laws.FnExactIsValidEvidence", spec := "fnExactIsValidEvidence", unfollowed := true, recurses := true, apart := false }
def FnExactIsValidEvidenceSaid : Prop := fnExactIsValidEvidenceRow.holds Try.pinned (OpenSpec.ofChange fnExactIsValidEvidenceSpec)

/-- ITS FALSE NEIGHBOUR: 'it returns false'. Refute it at one input. -/
def fnExactIsValidEvidenceWrong : ChangeSpec := { name := "fnExactIsValidEvidence", fn := fun _ => fun
  | [d1, d2] => { results := [.lit (.bool false)], args := [d1, d2] }
  | _ => none }
def FnExactIsValidEvidenceWrongFalsely : Prop := fnExactIsValidEvidenceRow.holds Try.pinned (OpenSpec.ofChange fnExactIsValidEvidenceWrong)

/-- 'laws.FnExactFirstConflict': WHATEVER THE INPUT: true; the input reads as it did. -/
def fnExactFirstConflictSpec : ChangeSpec := { name := "fnExactFirstConflict", fn := fun _ => fun
  | [d1, d2] => { results := [.lit (.bool true)], args := [d1, d2] }
  | _ => none }
def fnExactFirstConflictRow : OpenClaim := { program := "ytencmeleapmjnaa", sum := "22dc43265b1cd38d90a08a4d6d0875a5a8ac0acf300f4e0e12ab49b199ff7498", func := "loop.example/g00876/laws.FnExactFirstConflict", spec := "fnExactFirstConflict", unfollowed := true, recurses := true, apart := false }
def FnExactFirstConflictSaid : Prop := fnExactFirstConflictRow.holds Try.pinned (OpenSpec.ofChange fnExactFirstConflictSpec)

/-- ITS FALSE NEIGHBOUR: 'it returns false'. Refute it at one input. -/
def fnExactFirstConflictWrong : ChangeSpec := { name := "fnExactFirstConflict", fn := fun _ => fun
  | [d1, d2] => { results := [.lit (.bool false)], args := [d1, d2] }
  | _ => none }
def FnExactFirstConflictWrongFalsely : Prop := fnExactFirstConflictRow.holds Try.pinned (OpenSpec.ofChange fnExactFirstConflictWrong)

/- THE SECOND FORM. 'bulk': how many values and letters a reading holds, each counted each time it is reached (what is shared counts as often as it is met; a slice's spare places count too). A statement '..UptoSaid' is the law's where the arguments, and the package variables that the reading takes, are together of bulk at most 1048576: NARROWER than '..Said'. Prove '..Said' where nothing that the law and all that it calls make is longer than what came in: it says more and counts as full. Else prove '..UptoSaid'. A law counts once. -/
mutual
def uptoBulk {H : Type} : DataW H → Nat
  | .lit (.string bytes) => bytes.length + 1
  | .lit _ => 1
  | .nil => 1
  | .ptr d => uptoBulk d + 1
  | .slice elems spare => uptoBulkAll elems + uptoBulkAll spare + 1
  | .agg parts => uptoBulkAll parts + 1
  | .iface _ d => uptoBulk d + 1
  | .map entries => uptoBulkEntries entries + 1
  | .held _ => 1
def uptoBulkAll {H : Type} : List (DataW H) → Nat
  | [] => 0
  | d :: r => uptoBulk d + uptoBulkAll r
def uptoBulkEntries {H : Type} : List (Lit × DataW H) → Nat
  | [] => 0
  | x :: r => uptoBulkEntry x + uptoBulkEntries r
def uptoBulkEntry {H : Type} : Lit × DataW H → Nat
  | (.string bytes, d) => bytes.length + uptoBulk d + 1
  | (_, d) => uptoBulk d + 1
 end
def uptoSmall : (H : Type) → List (DataW H) → Bool := fun _ ds => decide (uptoBulkAll ds ≤ 1048576)
def OpenSpec.upto (s : _root_.Go.ChangeSpec) : _root_.Go.OpenSpec := { _root_.Go.OpenSpec.ofChange s with cond := some uptoSmall }

/-- 'laws.FnExactDecisiveEvidence', WHERE WHAT IT READS IS OF BULK AT MOST 1048576: true; the input reads as it did. -/
def fnExactDecisiveEvidenceUptoRow : OpenClaim := { program := "ytencmeleapmjnaa", sum := "22dc43265b1cd38d90a08a4d6d0875a5a8ac0acf300f4e0e12ab49b199ff7498", func := "loop.example/g00876/laws.FnExactDecisiveEvidence", spec := "fnExactDecisiveEvidence", unfollowed := true, recurses := true, apart := false, narrowed := true }
def FnExactDecisiveEvidenceUptoSaid : Prop := fnExactDecisiveEvidenceUptoRow.holds Try.pinned (OpenSpec.upto fnExactDecisiveEvidenceSpec)

/-- 'laws.FnExactPropagateDates', WHERE WHAT IT READS IS OF BULK AT MOST 1048576: true; the input reads as it did. -/
def fnExactPropagateDatesUptoRow : OpenClaim := { program := "ytencmeleapmjnaa", sum := "22dc43265b1cd38d90a08a4d6d0875a5a8ac0acf300f4e0e12ab49b199ff7498", func := "loop.example/g00876/laws.FnExactPropagateDates", spec := "fnExactPropagateDates", unfollowed := true, recurses := true, apart := false, narrowed := true }
def FnExactPropagateDatesUptoSaid : Prop := fnExactPropagateDatesUptoRow.holds Try.pinned (OpenSpec.upto fnExactPropagateDatesSpec)

/-- 'laws.FnExactIsValidEvidence', WHERE WHAT IT READS IS OF BULK AT MOST 1048576: true; the input reads as it did. -/
def fnExactIsValidEvidenceUptoRow : OpenClaim := { program := "ytencmeleapmjnaa", sum := "22dc43265b1cd38d90a08a4d6d0875a5a8ac0acf300f4e0e12ab49b199ff7498", func := "loop.example/g00876/laws.FnExactIsValidEvidence", spec := "fnExactIsValidEvidence", unfollowed := true, recurses := true, apart := false, narrowed := true }
def FnExactIsValidEvidenceUptoSaid : Prop := fnExactIsValidEvidenceUptoRow.holds Try.pinned (OpenSpec.upto fnExactIsValidEvidenceSpec)

/-- 'laws.FnExactFirstConflict', WHERE WHAT IT READS IS OF BULK AT MOST 1048576: true; the input reads as it did. -/
def fnExactFirstConflictUptoRow : OpenClaim := { program := "ytencmeleapmjnaa", sum := "22dc43265b1cd38d90a08a4d6d0875a5a8ac0acf300f4e0e12ab49b199ff7498", func := "loop.example/g00876/laws.FnExactFirstConflict", spec := "fnExactFirstConflict", unfollowed := true, recurses := true, apart := false, narrowed := true }
def FnExactFirstConflictUptoSaid : Prop := fnExactFirstConflictUptoRow.holds Try.pinned (OpenSpec.upto fnExactFirstConflictSpec)

end Rows
end Go.Proofs.Ytencmeleapmjnaa
