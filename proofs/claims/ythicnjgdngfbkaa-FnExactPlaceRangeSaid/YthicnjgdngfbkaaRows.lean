/-
  No cell of these rows narrows 'for every input' (looked for: loops, veiled, ifaces, maps, wideKeys, modest, calm, conditions, laid).
  DERIVED. THE GIVEN ROWS OF THIS SEAT. 9 by the template 'for every input the law returns true; each argument reads behind the call as it read before'; 0 by the template 'total and deterministic' (their statements: YthicnjgdngfbkaaTotals.lean).
  GIVEN WITH THE SEED: the statements are not yours to turn. If you find one false, say at which input.
  Laid BY PROGRAM, IN A SANDBOX (cutbox-rows.mjs): the forced cells as the released guide's own fill.sh prints them over the translation 16319265cd8a33fc… (all of the seat's roots in one cut). By AI agents, Wed Nov 11 2026. No macro, syntax, notation, axiom, sorry.
-/
import Derived.Test.YthicnjgdngfbkaaChecked
import GoSem.Claim
import GoSem.ClaimJoined
import GoSem.ClaimMapViews
import Derived.JoinedTies
import Derived.KernelRfl
namespace Go.Proofs.Ythicnjgdngfbkaa
/- THE CELL 'sum', in the pinned program and in every row, IS THE sha256 OF THE DUMP (.gsa) THAT YthicnjgdngfbkaaProg.lean LOADS. Nothing in Lean hashes anything: it is a label: what it is worth is what the hold of that sum in a sandbox is worth. -/
noncomputable def Try.pinned : Pinned := { name := "ythicnjgdngfbkaa", sum := "16319265cd8a33fc3fe67b6fc14c80246431c513621b31a2a5790c78dbe8087d", checked := Try.checked }
namespace Rows
def none {H : Type} : Left H := { results := [], args := [] }

/-- 'laws.FnExactCountSequences': WHATEVER THE INPUT: true; the input reads as it did. -/
def fnExactCountSequencesSpec : ChangeSpec := { name := "fnExactCountSequences", fn := fun _ => fun
  | [d] => { results := [.lit (.bool true)], args := [d] }
  | _ => none }
def fnExactCountSequencesRow : OpenClaim := { program := "ythicnjgdngfbkaa", sum := "16319265cd8a33fc3fe67b6fc14c80246431c513621b31a2a5790c78dbe8087d", func := "loop.example/g00876/laws.FnExactCountSequences", spec := "fnExactCountSequences", unfollowed := true, recurses := true, apart := false }
def FnExactCountSequencesSaid : Prop := fnExactCountSequencesRow.holds Try.pinned (OpenSpec.ofChange fnExactCountSequencesSpec)

/-- ITS FALSE NEIGHBOUR: 'it returns false'. Refute it at one input. -/
def fnExactCountSequencesWrong : ChangeSpec := { name := "fnExactCountSequences", fn := fun _ => fun
  | [d] => { results := [.lit (.bool false)], args := [d] }
  | _ => none }
def FnExactCountSequencesWrongFalsely : Prop := fnExactCountSequencesRow.holds Try.pinned (OpenSpec.ofChange fnExactCountSequencesWrong)

/-- 'laws.FnExactPlaceRange': WHATEVER THE INPUT: true; the input reads as it did. -/
def fnExactPlaceRangeSpec : ChangeSpec := { name := "fnExactPlaceRange", fn := fun _ => fun
  | [d1, d2] => { results := [.lit (.bool true)], args := [d1, d2] }
  | _ => none }
def fnExactPlaceRangeRow : OpenClaim := { program := "ythicnjgdngfbkaa", sum := "16319265cd8a33fc3fe67b6fc14c80246431c513621b31a2a5790c78dbe8087d", func := "loop.example/g00876/laws.FnExactPlaceRange", spec := "fnExactPlaceRange", unfollowed := true, recurses := true, apart := false }
def FnExactPlaceRangeSaid : Prop := fnExactPlaceRangeRow.holds Try.pinned (OpenSpec.ofChange fnExactPlaceRangeSpec)

/-- ITS FALSE NEIGHBOUR: 'it returns false'. Refute it at one input. -/
def fnExactPlaceRangeWrong : ChangeSpec := { name := "fnExactPlaceRange", fn := fun _ => fun
  | [d1, d2] => { results := [.lit (.bool false)], args := [d1, d2] }
  | _ => none }
def FnExactPlaceRangeWrongFalsely : Prop := fnExactPlaceRangeRow.holds Try.pinned (OpenSpec.ofChange fnExactPlaceRangeWrong)

/-- 'laws.FnExactCountBefore': WHATEVER THE INPUT: true; the input reads as it did. -/
def fnExactCountBeforeSpec : ChangeSpec := { name := "fnExactCountBefore", fn := fun _ => fun
  | [d1, d2, d3] => { results := [.lit (.bool true)], args := [d1, d2, d3] }
  | _ => none }
def fnExactCountBeforeRow : OpenClaim := { program := "ythicnjgdngfbkaa", sum := "16319265cd8a33fc3fe67b6fc14c80246431c513621b31a2a5790c78dbe8087d", func := "loop.example/g00876/laws.FnExactCountBefore", spec := "fnExactCountBefore", unfollowed := true, recurses := true, apart := false }
def FnExactCountBeforeSaid : Prop := fnExactCountBeforeRow.holds Try.pinned (OpenSpec.ofChange fnExactCountBeforeSpec)

/-- ITS FALSE NEIGHBOUR: 'it returns false'. Refute it at one input. -/
def fnExactCountBeforeWrong : ChangeSpec := { name := "fnExactCountBefore", fn := fun _ => fun
  | [d1, d2, d3] => { results := [.lit (.bool false)], args := [d1, d2, d3] }
  | _ => none }
def FnExactCountBeforeWrongFalsely : Prop := fnExactCountBeforeRow.holds Try.pinned (OpenSpec.ofChange fnExactCountBeforeWrong)

/-- 'laws.FnExactIsSequence': WHATEVER THE INPUT: true; the input reads as it did. -/
def fnExactIsSequenceSpec : ChangeSpec := { name := "fnExactIsSequence", fn := fun _ => fun
  | [d1, d2] => { results := [.lit (.bool true)], args := [d1, d2] }
  | _ => none }
def fnExactIsSequenceRow : OpenClaim := { program := "ythicnjgdngfbkaa", sum := "16319265cd8a33fc3fe67b6fc14c80246431c513621b31a2a5790c78dbe8087d", func := "loop.example/g00876/laws.FnExactIsSequence", spec := "fnExactIsSequence", unfollowed := true, recurses := true, apart := false }
def FnExactIsSequenceSaid : Prop := fnExactIsSequenceRow.holds Try.pinned (OpenSpec.ofChange fnExactIsSequenceSpec)

/-- ITS FALSE NEIGHBOUR: 'it returns false'. Refute it at one input. -/
def fnExactIsSequenceWrong : ChangeSpec := { name := "fnExactIsSequence", fn := fun _ => fun
  | [d1, d2] => { results := [.lit (.bool false)], args := [d1, d2] }
  | _ => none }
def FnExactIsSequenceWrongFalsely : Prop := fnExactIsSequenceRow.holds Try.pinned (OpenSpec.ofChange fnExactIsSequenceWrong)

/-- 'laws.FnExactSequenceDistance': WHATEVER THE INPUT: true; the input reads as it did. -/
def fnExactSequenceDistanceSpec : ChangeSpec := { name := "fnExactSequenceDistance", fn := fun _ => fun
  | [d1, d2, d3] => { results := [.lit (.bool true)], args := [d1, d2, d3] }
  | _ => none }
def fnExactSequenceDistanceRow : OpenClaim := { program := "ythicnjgdngfbkaa", sum := "16319265cd8a33fc3fe67b6fc14c80246431c513621b31a2a5790c78dbe8087d", func := "loop.example/g00876/laws.FnExactSequenceDistance", spec := "fnExactSequenceDistance", unfollowed := true, recurses := true, apart := false }
def FnExactSequenceDistanceSaid : Prop := fnExactSequenceDistanceRow.holds Try.pinned (OpenSpec.ofChange fnExactSequenceDistanceSpec)

/-- ITS FALSE NEIGHBOUR: 'it returns false'. Refute it at one input. -/
def fnExactSequenceDistanceWrong : ChangeSpec := { name := "fnExactSequenceDistance", fn := fun _ => fun
  | [d1, d2, d3] => { results := [.lit (.bool false)], args := [d1, d2, d3] }
  | _ => none }
def FnExactSequenceDistanceWrongFalsely : Prop := fnExactSequenceDistanceRow.holds Try.pinned (OpenSpec.ofChange fnExactSequenceDistanceWrong)

/-- 'laws.FnExactRankSequence': WHATEVER THE INPUT: true; the input reads as it did. -/
def fnExactRankSequenceSpec : ChangeSpec := { name := "fnExactRankSequence", fn := fun _ => fun
  | [d1, d2] => { results := [.lit (.bool true)], args := [d1, d2] }
  | _ => none }
def fnExactRankSequenceRow : OpenClaim := { program := "ythicnjgdngfbkaa", sum := "16319265cd8a33fc3fe67b6fc14c80246431c513621b31a2a5790c78dbe8087d", func := "loop.example/g00876/laws.FnExactRankSequence", spec := "fnExactRankSequence", unfollowed := true, recurses := true, apart := false }
def FnExactRankSequenceSaid : Prop := fnExactRankSequenceRow.holds Try.pinned (OpenSpec.ofChange fnExactRankSequenceSpec)

/-- ITS FALSE NEIGHBOUR: 'it returns false'. Refute it at one input. -/
def fnExactRankSequenceWrong : ChangeSpec := { name := "fnExactRankSequence", fn := fun _ => fun
  | [d1, d2] => { results := [.lit (.bool false)], args := [d1, d2] }
  | _ => none }
def FnExactRankSequenceWrongFalsely : Prop := fnExactRankSequenceRow.holds Try.pinned (OpenSpec.ofChange fnExactRankSequenceWrong)

/-- 'laws.FnExactPlaceCounts': WHATEVER THE INPUT: true; the input reads as it did. -/
def fnExactPlaceCountsSpec : ChangeSpec := { name := "fnExactPlaceCounts", fn := fun _ => fun
  | [d1, d2] => { results := [.lit (.bool true)], args := [d1, d2] }
  | _ => none }
def fnExactPlaceCountsRow : OpenClaim := { program := "ythicnjgdngfbkaa", sum := "16319265cd8a33fc3fe67b6fc14c80246431c513621b31a2a5790c78dbe8087d", func := "loop.example/g00876/laws.FnExactPlaceCounts", spec := "fnExactPlaceCounts", unfollowed := true, recurses := true, apart := false }
def FnExactPlaceCountsSaid : Prop := fnExactPlaceCountsRow.holds Try.pinned (OpenSpec.ofChange fnExactPlaceCountsSpec)

/-- ITS FALSE NEIGHBOUR: 'it returns false'. Refute it at one input. -/
def fnExactPlaceCountsWrong : ChangeSpec := { name := "fnExactPlaceCounts", fn := fun _ => fun
  | [d1, d2] => { results := [.lit (.bool false)], args := [d1, d2] }
  | _ => none }
def FnExactPlaceCountsWrongFalsely : Prop := fnExactPlaceCountsRow.holds Try.pinned (OpenSpec.ofChange fnExactPlaceCountsWrong)

/-- 'laws.FnExactSequenceAt': WHATEVER THE INPUT: true; the input reads as it did. -/
def fnExactSequenceAtSpec : ChangeSpec := { name := "fnExactSequenceAt", fn := fun _ => fun
  | [d1, d2] => { results := [.lit (.bool true)], args := [d1, d2] }
  | _ => none }
def fnExactSequenceAtRow : OpenClaim := { program := "ythicnjgdngfbkaa", sum := "16319265cd8a33fc3fe67b6fc14c80246431c513621b31a2a5790c78dbe8087d", func := "loop.example/g00876/laws.FnExactSequenceAt", spec := "fnExactSequenceAt", unfollowed := true, recurses := true, apart := false }
def FnExactSequenceAtSaid : Prop := fnExactSequenceAtRow.holds Try.pinned (OpenSpec.ofChange fnExactSequenceAtSpec)

/-- ITS FALSE NEIGHBOUR: 'it returns false'. Refute it at one input. -/
def fnExactSequenceAtWrong : ChangeSpec := { name := "fnExactSequenceAt", fn := fun _ => fun
  | [d1, d2] => { results := [.lit (.bool false)], args := [d1, d2] }
  | _ => none }
def FnExactSequenceAtWrongFalsely : Prop := fnExactSequenceAtRow.holds Try.pinned (OpenSpec.ofChange fnExactSequenceAtWrong)

/-- 'laws.FnExactNextSequence': WHATEVER THE INPUT: true; the input reads as it did. -/
def fnExactNextSequenceSpec : ChangeSpec := { name := "fnExactNextSequence", fn := fun _ => fun
  | [d1, d2] => { results := [.lit (.bool true)], args := [d1, d2] }
  | _ => none }
def fnExactNextSequenceRow : OpenClaim := { program := "ythicnjgdngfbkaa", sum := "16319265cd8a33fc3fe67b6fc14c80246431c513621b31a2a5790c78dbe8087d", func := "loop.example/g00876/laws.FnExactNextSequence", spec := "fnExactNextSequence", unfollowed := true, recurses := true, apart := false }
def FnExactNextSequenceSaid : Prop := fnExactNextSequenceRow.holds Try.pinned (OpenSpec.ofChange fnExactNextSequenceSpec)

/-- ITS FALSE NEIGHBOUR: 'it returns false'. Refute it at one input. -/
def fnExactNextSequenceWrong : ChangeSpec := { name := "fnExactNextSequence", fn := fun _ => fun
  | [d1, d2] => { results := [.lit (.bool false)], args := [d1, d2] }
  | _ => none }
def FnExactNextSequenceWrongFalsely : Prop := fnExactNextSequenceRow.holds Try.pinned (OpenSpec.ofChange fnExactNextSequenceWrong)

/- THE SECOND FORM. 'bulk': how many values and letters a reading holds, each counted each time it is reached (what is shared counts as often as it is met; a slice's spare places count too). A statement '..UptoSaid' is the law's where the arguments, and the package variables that the reading takes, are together of bulk at most 1048576: NARROWER than '..Said'. Prove '..Said' where nothing that the law and all that it calls make is longer than what came in: it says more and counts as full. Else prove '..UptoSaid'. A law counts once. -/
mutual
def uptoBulk {H : Type} : DataW H → Nat
  | .lit (.string bytes) => bytes.length + 1
  | .lit _ => 1
  | .nil => 1
  | .ptr d => uptoBulk d + 1
  | .slice elems spare => uptoBulkAll elems + uptoBulkAll spare + 1
  | .agg parts => uptoBulkAll parts + 1
  | .iface _ d => uptoBulk d + 1
  | .map entries => uptoBulkEntries entries + 1
  | .held _ => 1
def uptoBulkAll {H : Type} : List (DataW H) → Nat
  | [] => 0
  | d :: r => uptoBulk d + uptoBulkAll r
def uptoBulkEntries {H : Type} : List (Lit × DataW H) → Nat
  | [] => 0
  | x :: r => uptoBulkEntry x + uptoBulkEntries r
def uptoBulkEntry {H : Type} : Lit × DataW H → Nat
  | (.string bytes, d) => bytes.length + uptoBulk d + 1
  | (_, d) => uptoBulk d + 1
 end
def uptoSmall : (H : Type) → List (DataW H) → Bool := fun _ ds => decide (uptoBulkAll ds ≤ 1048576)
def OpenSpec.upto (s : _root_.Go.ChangeSpec) : _root_.Go.OpenSpec := { _root_.Go.OpenSpec.ofChange s with cond := some uptoSmall }

/-- 'laws.FnExactCountSequences', WHERE WHAT IT READS IS OF BULK AT MOST 1048576: true; the input reads as it did. -/
def fnExactCountSequencesUptoRow : OpenClaim := { program := "ythicnjgdngfbkaa", sum := "16319265cd8a33fc3fe67b6fc14c80246431c513621b31a2a5790c78dbe8087d", func := "loop.example/g00876/laws.FnExactCountSequences", spec := "fnExactCountSequences", unfollowed := true, recurses := true, apart := false, narrowed := true }
def FnExactCountSequencesUptoSaid : Prop := fnExactCountSequencesUptoRow.holds Try.pinned (OpenSpec.upto fnExactCountSequencesSpec)

/-- 'laws.FnExactPlaceRange', WHERE WHAT IT READS IS OF BULK AT MOST 1048576: true; the input reads as it did. -/
def fnExactPlaceRangeUptoRow : OpenClaim := { program := "ythicnjgdngfbkaa", sum := "16319265cd8a33fc3fe67b6fc14c80246431c513621b31a2a5790c78dbe8087d", func := "loop.example/g00876/laws.FnExactPlaceRange", spec := "fnExactPlaceRange", unfollowed := true, recurses := true, apart := false, narrowed := true }
def FnExactPlaceRangeUptoSaid : Prop := fnExactPlaceRangeUptoRow.holds Try.pinned (OpenSpec.upto fnExactPlaceRangeSpec)

/-- 'laws.FnExactCountBefore', WHERE WHAT IT READS IS OF BULK AT MOST 1048576: true; the input reads as it did. -/
def fnExactCountBeforeUptoRow : OpenClaim := { program := "ythicnjgdngfbkaa", sum := "16319265cd8a33fc3fe67b6fc14c80246431c513621b31a2a5790c78dbe8087d", func := "loop.example/g00876/laws.FnExactCountBefore", spec := "fnExactCountBefore", unfollowed := true, recurses := true, apart := false, narrowed := true }
def FnExactCountBeforeUptoSaid : Prop := fnExactCountBeforeUptoRow.holds Try.pinned (OpenSpec.upto fnExactCountBeforeSpec)

/-- 'laws.FnExactIsSequence', WHERE WHAT IT READS IS OF BULK AT MOST 1048576: true; the input reads as it did. -/
def fnExactIsSequenceUptoRow : OpenClaim := { program := "ythicnjgdngfbkaa", sum := "16319265cd8a33fc3fe67b6fc14c80246431c513621b31a2a5790c78dbe8087d", func := "loop.example/g00876/laws.FnExactIsSequence", spec := "fnExactIsSequence", unfollowed := true, recurses := true, apart := false, narrowed := true }
def FnExactIsSequenceUptoSaid : Prop := fnExactIsSequenceUptoRow.holds Try.pinned (OpenSpec.upto fnExactIsSequenceSpec)

/-- 'laws.FnExactSequenceDistance', WHERE WHAT IT READS IS OF BULK AT MOST 1048576: true; the input reads as it did. -/
def fnExactSequenceDistanceUptoRow : OpenClaim := { program := "ythicnjgdngfbkaa", sum := "16319265cd8a33fc3fe67b6fc14c80246431c513621b31a2a5790c78dbe8087d", func := "loop.example/g00876/laws.FnExactSequenceDistance", spec := "fnExactSequenceDistance", unfollowed := true, recurses := true, apart := false, narrowed := true }
def FnExactSequenceDistanceUptoSaid : Prop := fnExactSequenceDistanceUptoRow.holds Try.pinned (OpenSpec.upto fnExactSequenceDistanceSpec)

/-- 'laws.FnExactRankSequence', WHERE WHAT IT READS IS OF BULK AT MOST 1048576: true; the input reads as it did. -/
def fnExactRankSequenceUptoRow : OpenClaim := { program := "ythicnjgdngfbkaa", sum := "16319265cd8a33fc3fe67b6fc14c80246431c513621b31a2a5790c78dbe8087d", func := "loop.example/g00876/laws.FnExactRankSequence", spec := "fnExactRankSequence", unfollowed := true, recurses := true, apart := false, narrowed := true }
def FnExactRankSequenceUptoSaid : Prop := fnExactRankSequenceUptoRow.holds Try.pinned (OpenSpec.upto fnExactRankSequenceSpec)

/-- 'laws.FnExactPlaceCounts', WHERE WHAT IT READS IS OF BULK AT MOST 1048576: true; the input reads as it did. -/
def fnExactPlaceCountsUptoRow : OpenClaim := { program := "ythicnjgdngfbkaa", sum := "16319265cd8a33fc3fe67b6fc14c80246431c513621b31a2a5790c78dbe8087d", func := "loop.example/g00876/laws.FnExactPlaceCounts", spec := "fnExactPlaceCounts", unfollowed := true, recurses := true, apart := false, narrowed := true }
def FnExactPlaceCountsUptoSaid : Prop := fnExactPlaceCountsUptoRow.holds Try.pinned (OpenSpec.upto fnExactPlaceCountsSpec)

/-- 'laws.FnExactSequenceAt', WHERE WHAT IT READS IS OF BULK AT MOST 1048576: true; the input reads as it did. -/
def fnExactSequenceAtUptoRow : OpenClaim := { program := "ythicnjgdngfbkaa", sum := "16319265cd8a33fc3fe67b6fc14c80246431c513621b31a2a5790c78dbe8087d", func := "loop.example/g00876/laws.FnExactSequenceAt", spec := "fnExactSequenceAt", unfollowed := true, recurses := true, apart := false, narrowed := true }
def FnExactSequenceAtUptoSaid : Prop := fnExactSequenceAtUptoRow.holds Try.pinned (OpenSpec.upto fnExactSequenceAtSpec)

/-- 'laws.FnExactNextSequence', WHERE WHAT IT READS IS OF BULK AT MOST 1048576: true; the input reads as it did. -/
def fnExactNextSequenceUptoRow : OpenClaim := { program := "ythicnjgdngfbkaa", sum := "16319265cd8a33fc3fe67b6fc14c80246431c513621b31a2a5790c78dbe8087d", func := "loop.example/g00876/laws.FnExactNextSequence", spec := "fnExactNextSequence", unfollowed := true, recurses := true, apart := false, narrowed := true }
def FnExactNextSequenceUptoSaid : Prop := fnExactNextSequenceUptoRow.holds Try.pinned (OpenSpec.upto fnExactNextSequenceSpec)

end Rows
end Go.Proofs.Ythicnjgdngfbkaa
