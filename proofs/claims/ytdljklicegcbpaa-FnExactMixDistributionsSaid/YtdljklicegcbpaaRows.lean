/-
  No cell of these rows narrows 'for every input' (looked for: loops, veiled, ifaces, maps, wideKeys, modest, calm, conditions, laid).
  DERIVED. THE GIVEN ROWS OF THIS SEAT. 13 by the template 'for every input the law returns true; each argument reads behind the call as it read before'; 0 by the template 'total and deterministic' (their statements: YtdljklicegcbpaaTotals.lean).
  GIVEN WITH THE SEED: the statements are not yours to turn. If you find one false, say at which input.
  Laid BY PROGRAM, IN A SANDBOX (cutbox-rows.mjs): the forced cells as the released guide's own fill.sh prints them over the translation ff68a4159a92ee5b… (all of the seat's roots in one cut). By AI agents, Wed Nov 11 2026. No macro, syntax, notation, axiom, sorry.
-/
import Derived.Test.YtdljklicegcbpaaChecked
import GoSem.Claim
import GoSem.ClaimJoined
import GoSem.ClaimMapViews
import Derived.JoinedTies
import Derived.KernelRfl
namespace Go.Proofs.Ytdljklicegcbpaa
/- THE CELL 'sum', in the pinned program and in every row, IS THE sha256 OF THE DUMP (.gsa) THAT YtdljklicegcbpaaProg.lean LOADS. Nothing in Lean hashes anything: it is a label: what it is worth is what the hold of that sum in a sandbox is worth. -/
noncomputable def Try.pinned : Pinned := { name := "ytdljklicegcbpaa", sum := "ff68a4159a92ee5b30d36b52ca909ac8e7c52dbd0c7fb3fc9fcc2828e312625c", checked := Try.checked }
namespace Rows
def none {H : Type} : Left H := { results := [], args := [] }

/-- 'laws.FnExactIsValidDistribution': WHATEVER THE INPUT: true; the input reads as it did. -/
def fnExactIsValidDistributionSpec : ChangeSpec := { name := "fnExactIsValidDistribution", fn := fun _ => fun
  | [d] => { results := [.lit (.bool true)], args := [d] }
  | _ => none }
def fnExactIsValidDistributionRow : OpenClaim := { program := "ytdljklicegcbpaa", sum := "ff68a4159a92ee5b30d36b52ca909ac8e7c52dbd0c7fb3fc9fcc2828e312625c", func := "loop.example/g00876/laws.FnExactIsValidDistribution", spec := "fnExactIsValidDistribution", unfollowed := true, recurses := true, apart := false }
def FnExactIsValidDistributionSaid : Prop := fnExactIsValidDistributionRow.holds Try.pinned (OpenSpec.ofChange fnExactIsValidDistributionSpec)

/-- ITS FALSE NEIGHBOUR: 'it returns false'. Refute it at one input. -/
def fnExactIsValidDistributionWrong : ChangeSpec := { name := "fnExactIsValidDistribution", fn := fun _ => fun
  | [d] => { results := [.lit (.bool false)], args := [d] }
  | _ => none }
def FnExactIsValidDistributionWrongFalsely : Prop := fnExactIsValidDistributionRow.holds Try.pinned (OpenSpec.ofChange fnExactIsValidDistributionWrong)

/-- 'laws.FnExactWeightAt': WHATEVER THE INPUT: true; the input reads as it did. -/
def fnExactWeightAtSpec : ChangeSpec := { name := "fnExactWeightAt", fn := fun _ => fun
  | [d1, d2] => { results := [.lit (.bool true)], args := [d1, d2] }
  | _ => none }
def fnExactWeightAtRow : OpenClaim := { program := "ytdljklicegcbpaa", sum := "ff68a4159a92ee5b30d36b52ca909ac8e7c52dbd0c7fb3fc9fcc2828e312625c", func := "loop.example/g00876/laws.FnExactWeightAt", spec := "fnExactWeightAt", unfollowed := true, recurses := true, apart := false }
def FnExactWeightAtSaid : Prop := fnExactWeightAtRow.holds Try.pinned (OpenSpec.ofChange fnExactWeightAtSpec)

/-- ITS FALSE NEIGHBOUR: 'it returns false'. Refute it at one input. -/
def fnExactWeightAtWrong : ChangeSpec := { name := "fnExactWeightAt", fn := fun _ => fun
  | [d1, d2] => { results := [.lit (.bool false)], args := [d1, d2] }
  | _ => none }
def FnExactWeightAtWrongFalsely : Prop := fnExactWeightAtRow.holds Try.pinned (OpenSpec.ofChange fnExactWeightAtWrong)

/-- 'laws.FnExactResidualChance': WHATEVER THE INPUT: true; the input reads as it did. -/
def fnExactResidualChanceSpec : ChangeSpec := { name := "fnExactResidualChance", fn := fun _ => fun
  | [d1, d2] => { results := [.lit (.bool true)], args := [d1, d2] }
  | _ => none }
def fnExactResidualChanceRow : OpenClaim := { program := "ytdljklicegcbpaa", sum := "ff68a4159a92ee5b30d36b52ca909ac8e7c52dbd0c7fb3fc9fcc2828e312625c", func := "loop.example/g00876/laws.FnExactResidualChance", spec := "fnExactResidualChance", unfollowed := true, recurses := true, apart := false }
def FnExactResidualChanceSaid : Prop := fnExactResidualChanceRow.holds Try.pinned (OpenSpec.ofChange fnExactResidualChanceSpec)

/-- ITS FALSE NEIGHBOUR: 'it returns false'. Refute it at one input. -/
def fnExactResidualChanceWrong : ChangeSpec := { name := "fnExactResidualChance", fn := fun _ => fun
  | [d1, d2] => { results := [.lit (.bool false)], args := [d1, d2] }
  | _ => none }
def FnExactResidualChanceWrongFalsely : Prop := fnExactResidualChanceRow.holds Try.pinned (OpenSpec.ofChange fnExactResidualChanceWrong)

/-- 'laws.FnExactQuantileYear': WHATEVER THE INPUT: true; the input reads as it did. -/
def fnExactQuantileYearSpec : ChangeSpec := { name := "fnExactQuantileYear", fn := fun _ => fun
  | [d1, d2, d3] => { results := [.lit (.bool true)], args := [d1, d2, d3] }
  | _ => none }
def fnExactQuantileYearRow : OpenClaim := { program := "ytdljklicegcbpaa", sum := "ff68a4159a92ee5b30d36b52ca909ac8e7c52dbd0c7fb3fc9fcc2828e312625c", func := "loop.example/g00876/laws.FnExactQuantileYear", spec := "fnExactQuantileYear", unfollowed := true, recurses := true, apart := false }
def FnExactQuantileYearSaid : Prop := fnExactQuantileYearRow.holds Try.pinned (OpenSpec.ofChange fnExactQuantileYearSpec)

/-- ITS FALSE NEIGHBOUR: 'it returns false'. Refute it at one input. -/
def fnExactQuantileYearWrong : ChangeSpec := { name := "fnExactQuantileYear", fn := fun _ => fun
  | [d1, d2, d3] => { results := [.lit (.bool false)], args := [d1, d2, d3] }
  | _ => none }
def FnExactQuantileYearWrongFalsely : Prop := fnExactQuantileYearRow.holds Try.pinned (OpenSpec.ofChange fnExactQuantileYearWrong)

/-- 'laws.FnExactShortestInterval': WHATEVER THE INPUT: true; the input reads as it did. -/
def fnExactShortestIntervalSpec : ChangeSpec := { name := "fnExactShortestInterval", fn := fun _ => fun
  | [d1, d2, d3] => { results := [.lit (.bool true)], args := [d1, d2, d3] }
  | _ => none }
def fnExactShortestIntervalRow : OpenClaim := { program := "ytdljklicegcbpaa", sum := "ff68a4159a92ee5b30d36b52ca909ac8e7c52dbd0c7fb3fc9fcc2828e312625c", func := "loop.example/g00876/laws.FnExactShortestInterval", spec := "fnExactShortestInterval", unfollowed := true, recurses := true, apart := false }
def FnExactShortestIntervalSaid : Prop := fnExactShortestIntervalRow.holds Try.pinned (OpenSpec.ofChange fnExactShortestIntervalSpec)

/-- ITS FALSE NEIGHBOUR: 'it returns false'. Refute it at one input. -/
def fnExactShortestIntervalWrong : ChangeSpec := { name := "fnExactShortestInterval", fn := fun _ => fun
  | [d1, d2, d3] => { results := [.lit (.bool false)], args := [d1, d2, d3] }
  | _ => none }
def FnExactShortestIntervalWrongFalsely : Prop := fnExactShortestIntervalRow.holds Try.pinned (OpenSpec.ofChange fnExactShortestIntervalWrong)

/-- 'laws.FnExactChanceEarlier': WHATEVER THE INPUT: true; the input reads as it did. -/
def fnExactChanceEarlierSpec : ChangeSpec := { name := "fnExactChanceEarlier", fn := fun _ => fun
  | [d1, d2] => { results := [.lit (.bool true)], args := [d1, d2] }
  | _ => none }
def fnExactChanceEarlierRow : OpenClaim := { program := "ytdljklicegcbpaa", sum := "ff68a4159a92ee5b30d36b52ca909ac8e7c52dbd0c7fb3fc9fcc2828e312625c", func := "loop.example/g00876/laws.FnExactChanceEarlier", spec := "fnExactChanceEarlier", unfollowed := true, recurses := true, apart := false }
def FnExactChanceEarlierSaid : Prop := fnExactChanceEarlierRow.holds Try.pinned (OpenSpec.ofChange fnExactChanceEarlierSpec)

/-- ITS FALSE NEIGHBOUR: 'it returns false'. Refute it at one input. -/
def fnExactChanceEarlierWrong : ChangeSpec := { name := "fnExactChanceEarlier", fn := fun _ => fun
  | [d1, d2] => { results := [.lit (.bool false)], args := [d1, d2] }
  | _ => none }
def FnExactChanceEarlierWrongFalsely : Prop := fnExactChanceEarlierRow.holds Try.pinned (OpenSpec.ofChange fnExactChanceEarlierWrong)

/-- 'laws.FnExactShiftDistribution': WHATEVER THE INPUT: true; the input reads as it did. -/
def fnExactShiftDistributionSpec : ChangeSpec := { name := "fnExactShiftDistribution", fn := fun _ => fun
  | [d1, d2] => { results := [.lit (.bool true)], args := [d1, d2] }
  | _ => none }
def fnExactShiftDistributionRow : OpenClaim := { program := "ytdljklicegcbpaa", sum := "ff68a4159a92ee5b30d36b52ca909ac8e7c52dbd0c7fb3fc9fcc2828e312625c", func := "loop.example/g00876/laws.FnExactShiftDistribution", spec := "fnExactShiftDistribution", unfollowed := true, recurses := true, apart := false }
def FnExactShiftDistributionSaid : Prop := fnExactShiftDistributionRow.holds Try.pinned (OpenSpec.ofChange fnExactShiftDistributionSpec)

/-- ITS FALSE NEIGHBOUR: 'it returns false'. Refute it at one input. -/
def fnExactShiftDistributionWrong : ChangeSpec := { name := "fnExactShiftDistribution", fn := fun _ => fun
  | [d1, d2] => { results := [.lit (.bool false)], args := [d1, d2] }
  | _ => none }
def FnExactShiftDistributionWrongFalsely : Prop := fnExactShiftDistributionRow.holds Try.pinned (OpenSpec.ofChange fnExactShiftDistributionWrong)

/-- 'laws.FnExactMakeDistribution': WHATEVER THE INPUT: true; the input reads as it did. -/
def fnExactMakeDistributionSpec : ChangeSpec := { name := "fnExactMakeDistribution", fn := fun _ => fun
  | [d1, d2] => { results := [.lit (.bool true)], args := [d1, d2] }
  | _ => none }
def fnExactMakeDistributionRow : OpenClaim := { program := "ytdljklicegcbpaa", sum := "ff68a4159a92ee5b30d36b52ca909ac8e7c52dbd0c7fb3fc9fcc2828e312625c", func := "loop.example/g00876/laws.FnExactMakeDistribution", spec := "fnExactMakeDistribution", unfollowed := true, recurses := true, apart := false }
def FnExactMakeDistributionSaid : Prop := fnExactMakeDistributionRow.holds Try.pinned (OpenSpec.ofChange fnExactMakeDistributionSpec)

/-- ITS FALSE NEIGHBOUR: 'it returns false'. Refute it at one input. -/
def fnExactMakeDistributionWrong : ChangeSpec := { name := "fnExactMakeDistribution", fn := fun _ => fun
  | [d1, d2] => { results := [.lit (.bool false)], args := [d1, d2] }
  | _ => none }
def FnExactMakeDistributionWrongFalsely : Prop := fnExactMakeDistributionRow.holds Try.pinned (OpenSpec.ofChange fnExactMakeDistributionWrong)

/-- 'laws.FnExactCombineDistributions': WHATEVER THE INPUT: true; the input reads as it did. -/
def fnExactCombineDistributionsSpec : ChangeSpec := { name := "fnExactCombineDistributions", fn := fun _ => fun
  | [d1, d2] => { results := [.lit (.bool true)], args := [d1, d2] }
  | _ => none }
def fnExactCombineDistributionsRow : OpenClaim := { program := "ytdljklicegcbpaa", sum := "ff68a4159a92ee5b30d36b52ca909ac8e7c52dbd0c7fb3fc9fcc2828e312625c", func := "loop.example/g00876/laws.FnExactCombineDistributions", spec := "fnExactCombineDistributions", unfollowed := true, recurses := true, apart := false }
def FnExactCombineDistributionsSaid : Prop := fnExactCombineDistributionsRow.holds Try.pinned (OpenSpec.ofChange fnExactCombineDistributionsSpec)

/-- ITS FALSE NEIGHBOUR: 'it returns false'. Refute it at one input. -/
def fnExactCombineDistributionsWrong : ChangeSpec := { name := "fnExactCombineDistributions", fn := fun _ => fun
  | [d1, d2] => { results := [.lit (.bool false)], args := [d1, d2] }
  | _ => none }
def FnExactCombineDistributionsWrongFalsely : Prop := fnExactCombineDistributionsRow.holds Try.pinned (OpenSpec.ofChange fnExactCombineDistributionsWrong)

/-- 'laws.FnExactLaterBy': WHATEVER THE INPUT: true; the input reads as it did. -/
def fnExactLaterBySpec : ChangeSpec := { name := "fnExactLaterBy", fn := fun _ => fun
  | [d1, d2] => { results := [.lit (.bool true)], args := [d1, d2] }
  | _ => none }
def fnExactLaterByRow : OpenClaim := { program := "ytdljklicegcbpaa", sum := "ff68a4159a92ee5b30d36b52ca909ac8e7c52dbd0c7fb3fc9fcc2828e312625c", func := "loop.example/g00876/laws.FnExactLaterBy", spec := "fnExactLaterBy", unfollowed := true, recurses := true, apart := false }
def FnExactLaterBySaid : Prop := fnExactLaterByRow.holds Try.pinned (OpenSpec.ofChange fnExactLaterBySpec)

/-- ITS FALSE NEIGHBOUR: 'it returns false'. Refute it at one input. -/
def fnExactLaterByWrong : ChangeSpec := { name := "fnExactLaterBy", fn := fun _ => fun
  | [d1, d2] => { results := [.lit (.bool false)], args := [d1, d2] }
  | _ => none }
def FnExactLaterByWrongFalsely : Prop := fnExactLaterByRow.holds Try.pinned (OpenSpec.ofChange fnExactLaterByWrong)

/-- 'laws.FnExactMixDistributions': WHATEVER THE INPUT: true; the input reads as it did. -/
def fnExactMixDistributionsSpec : ChangeSpec := { name := "fnExactMixDistributions", fn := fun _ => fun
  | [d1, d2, d3, d4] => { results := [.lit (.bool true)], args := [d1, d2, d3, d4] }
  | _ => none }
def fnExactMixDistributionsRow : OpenClaim := { program := "ytdljklicegcbpaa", sum := "ff68a4159a92ee5b30d36b52ca909ac8e7c52dbd0c7fb3fc9fcc2828e312625c", func := "loop.example/g00876/laws.FnExactMixDistributions", spec := "fnExactMixDistributions", unfollowed := true, recurses := true, apart := false }
def FnExactMixDistributionsSaid : Prop := fnExactMixDistributionsRow.holds Try.pinned (OpenSpec.ofChange fnExactMixDistributionsSpec)

/-- ITS FALSE NEIGHBOUR: 'it returns false'. Refute it at one input. -/
def fnExactMixDistributionsWrong : ChangeSpec := { name := "fnExactMixDistributions", fn := fun _ => fun
  | [d1, d2, d3, d4] => { results := [.lit (.bool false)], args := [d1, d2, d3, d4] }
  | _ => none }
def FnExactMixDistributionsWrongFalsely : Prop := fnExactMixDistributionsRow.holds Try.pinned (OpenSpec.ofChange fnExactMixDistributionsWrong)

/-- 'laws.FnExactCalibrateAge': WHATEVER THE INPUT: true; the input reads as it did. -/
def fnExactCalibrateAgeSpec : ChangeSpec := { name := "fnExactCalibrateAge", fn := fun _ => fun
  | [d1, d2] => { results := [.lit (.bool true)], args := [d1, d2] }
  | _ => none }
def fnExactCalibrateAgeRow : OpenClaim := { program := "ytdljklicegcbpaa", sum := "ff68a4159a92ee5b30d36b52ca909ac8e7c52dbd0c7fb3fc9fcc2828e312625c", func := "loop.example/g00876/laws.FnExactCalibrateAge", spec := "fnExactCalibrateAge", unfollowed := true, recurses := true, apart := false }
def FnExactCalibrateAgeSaid : Prop := fnExactCalibrateAgeRow.holds Try.pinned (OpenSpec.ofChange fnExactCalibrateAgeSpec)

/-- ITS FALSE NEIGHBOUR: 'it returns false'. Refute it at one input. -/
def fnExactCalibrateAgeWrong : ChangeSpec := { name := "fnExactCalibrateAge", fn := fun _ => fun
  | [d1, d2] => { results := [.lit (.bool false)], args := [d1, d2] }
  | _ => none }
def FnExactCalibrateAgeWrongFalsely : Prop := fnExactCalibrateAgeRow.holds Try.pinned (OpenSpec.ofChange fnExactCalibrateAgeWrong)

/-- 'laws.FnExactWigglePlacement': WHATEVER THE INPUT: true; the input reads as it did. -/
def fnExactWigglePlacementSpec : ChangeSpec := { name := "fnExactWigglePlacement", fn := fun _ => fun
  | [d1, d2, d3] => { results := [.lit (.bool true)], args := [d1, d2, d3] }
  | _ => none }
def fnExactWigglePlacementRow : OpenClaim := { program := "ytdljklicegcbpaa", sum := "ff68a4159a92ee5b30d36b52ca909ac8e7c52dbd0c7fb3fc9fcc2828e312625c", func := "loop.example/g00876/laws.FnExactWigglePlacement", spec := "fnExactWigglePlacement", unfollowed := true, recurses := true, apart := false }
def FnExactWigglePlacementSaid : Prop := fnExactWigglePlacementRow.holds Try.pinned (OpenSpec.ofChange fnExactWigglePlacementSpec)

/-- ITS FALSE NEIGHBOUR: 'it returns false'. Refute it at one input. -/
def fnExactWigglePlacementWrong : ChangeSpec := { name := "fnExactWigglePlacement", fn := fun _ => fun
  | [d1, d2, d3] => { results := [.lit (.bool false)], args := [d1, d2, d3] }
  | _ => none }
def FnExactWigglePlacementWrongFalsely : Prop := fnExactWigglePlacementRow.holds Try.pinned (OpenSpec.ofChange fnExactWigglePlacementWrong)

/- THE SECOND FORM. 'bulk': how many values and letters a reading holds, each counted each time it is reached (what is shared counts as often as it is met; a slice's spare places count too). A statement '..UptoSaid' is the law's where the arguments, and the package variables that the reading takes, are together of bulk at most 1048576: NARROWER than '..Said'. Prove '..Said' where nothing that the law and all that it calls make is longer than what came in: it says more and counts as full. Else prove '..UptoSaid'. A law counts once. -/
mutual
def uptoBulk {H : Type} : DataW H → Nat
  | .lit (.string bytes) => bytes.length + 1
  | .lit _ => 1
  | .nil => 1
  | .ptr d => uptoBulk d + 1
  | .slice elems spare => uptoBulkAll elems + uptoBulkAll spare + 1
  | .agg parts => uptoBulkAll parts + 1
  | .iface _ d => uptoBulk d + 1
  | .map entries => uptoBulkEntries entries + 1
  | .held _ => 1
def uptoBulkAll {H : Type} : List (DataW H) → Nat
  | [] => 0
  | d :: r => uptoBulk d + uptoBulkAll r
def uptoBulkEntries {H : Type} : List (Lit × DataW H) → Nat
  | [] => 0
  | x :: r => uptoBulkEntry x + uptoBulkEntries r
def uptoBulkEntry {H : Type} : Lit × DataW H → Nat
  | (.string bytes, d) => bytes.length + uptoBulk d + 1
  | (_, d) => uptoBulk d + 1
 end
def uptoSmall : (H : Type) → List (DataW H) → Bool := fun _ ds => decide (uptoBulkAll ds ≤ 1048576)
def OpenSpec.upto (s : _root_.Go.ChangeSpec) : _root_.Go.OpenSpec := { _root_.Go.OpenSpec.ofChange s with cond := some uptoSmall }

/-- 'laws.FnExactIsValidDistribution', WHERE WHAT IT READS IS OF BULK AT MOST 1048576: true; the input reads as it did. -/
def fnExactIsValidDistributionUptoRow : OpenClaim := { program := "ytdljklicegcbpaa", sum := "ff68a4159a92ee5b30d36b52ca909ac8e7c52dbd0c7fb3fc9fcc2828e312625c", func := "loop.example/g00876/laws.FnExactIsValidDistribution", spec := "fnExactIsValidDistribution", unfollowed := true, recurses := true, apart := false, narrowed := true }
def FnExactIsValidDistributionUptoSaid : Prop := fnExactIsValidDistributionUptoRow.holds Try.pinned (OpenSpec.upto fnExactIsValidDistributionSpec)

/-- 'laws.FnExactWeightAt', WHERE WHAT IT READS IS OF BULK AT MOST 1048576: true; the input reads as it did. -/
def fnExactWeightAtUptoRow : OpenClaim := { program := "ytdljklicegcbpaa", sum := "ff68a4159a92ee5b30d36b52ca909ac8e7c52dbd0c7fb3fc9fcc2828e312625c", func := "loop.example/g00876/laws.FnExactWeightAt", spec := "fnExactWeightAt", unfollowed := true, recurses := true, apart := false, narrowed := true }
def FnExactWeightAtUptoSaid : Prop := fnExactWeightAtUptoRow.holds Try.pinned (OpenSpec.upto fnExactWeightAtSpec)

/-- 'laws.FnExactResidualChance', WHERE WHAT IT READS IS OF BULK AT MOST 1048576: true; the input reads as it did. -/
def fnExactResidualChanceUptoRow : OpenClaim := { program := "ytdljklicegcbpaa", sum := "ff68a4159a92ee5b30d36b52ca909ac8e7c52dbd0c7fb3fc9fcc2828e312625c", func := "loop.example/g00876/laws.FnExactResidualChance", spec := "fnExactResidualChance", unfollowed := true, recurses := true, apart := false, narrowed := true }
def FnExactResidualChanceUptoSaid : Prop := fnExactResidualChanceUptoRow.holds Try.pinned (OpenSpec.upto fnExactResidualChanceSpec)

/-- 'laws.FnExactQuantileYear', WHERE WHAT IT READS IS OF BULK AT MOST 1048576: true; the input reads as it did. -/
def fnExactQuantileYearUptoRow : OpenClaim := { program := "ytdljklicegcbpaa", sum := "ff68a4159a92ee5b30d36b52ca909ac8e7c52dbd0c7fb3fc9fcc2828e312625c", func := "loop.example/g00876/laws.FnExactQuantileYear", spec := "fnExactQuantileYear", unfollowed := true, recurses := true, apart := false, narrowed := true }
def FnExactQuantileYearUptoSaid : Prop := fnExactQuantileYearUptoRow.holds Try.pinned (OpenSpec.upto fnExactQuantileYearSpec)

/-- 'laws.FnExactShortestInterval', WHERE WHAT IT READS IS OF BULK AT MOST 1048576: true; the input reads as it did. -/
def fnExactShortestIntervalUptoRow : OpenClaim := { program := "ytdljklicegcbpaa", sum := "ff68a4159a92ee5b30d36b52ca909ac8e7c52dbd0c7fb3fc9fcc2828e312625c", func := "loop.example/g00876/laws.FnExactShortestInterval", spec := "fnExactShortestInterval", unfollowed := true, recurses := true, apart := false, narrowed := true }
def FnExactShortestIntervalUptoSaid : Prop := fnExactShortestIntervalUptoRow.holds Try.pinned (OpenSpec.upto fnExactShortestIntervalSpec)

/-- 'laws.FnExactChanceEarlier', WHERE WHAT IT READS IS OF BULK AT MOST 1048576: true; the input reads as it did. -/
def fnExactChanceEarlierUptoRow : OpenClaim := { program := "ytdljklicegcbpaa", sum := "ff68a4159a92ee5b30d36b52ca909ac8e7c52dbd0c7fb3fc9fcc2828e312625c", func := "loop.example/g00876/laws.FnExactChanceEarlier", spec := "fnExactChanceEarlier", unfollowed := true, recurses := true, apart := false, narrowed := true }
def FnExactChanceEarlierUptoSaid : Prop := fnExactChanceEarlierUptoRow.holds Try.pinned (OpenSpec.upto fnExactChanceEarlierSpec)

/-- 'laws.FnExactShiftDistribution', WHERE WHAT IT READS IS OF BULK AT MOST 1048576: true; the input reads as it did. -/
def fnExactShiftDistributionUptoRow : OpenClaim := { program := "ytdljklicegcbpaa", sum := "ff68a4159a92ee5b30d36b52ca909ac8e7c52dbd0c7fb3fc9fcc2828e312625c", func := "loop.example/g00876/laws.FnExactShiftDistribution", spec := "fnExactShiftDistribution", unfollowed := true, recurses := true, apart := false, narrowed := true }
def FnExactShiftDistributionUptoSaid : Prop := fnExactShiftDistributionUptoRow.holds Try.pinned (OpenSpec.upto fnExactShiftDistributionSpec)

/-- 'laws.FnExactMakeDistribution', WHERE WHAT IT READS IS OF BULK AT MOST 1048576: true; the input reads as it did. -/
def fnExactMakeDistributionUptoRow : OpenClaim := { program := "ytdljklicegcbpaa", sum := "ff68a4159a92ee5b30d36b52ca909ac8e7c52dbd0c7fb3fc9fcc2828e312625c", func := "loop.example/g00876/laws.FnExactMakeDistribution", spec := "fnExactMakeDistribution", unfollowed := true, recurses := true, apart := false, narrowed := true }
def FnExactMakeDistributionUptoSaid : Prop := fnExactMakeDistributionUptoRow.holds Try.pinned (OpenSpec.upto fnExactMakeDistributionSpec)

/-- 'laws.FnExactCombineDistributions', WHERE WHAT IT READS IS OF BULK AT MOST 1048576: true; the input reads as it did. -/
def fnExactCombineDistributionsUptoRow : OpenClaim := { program := "ytdljklicegcbpaa", sum := "ff68a4159a92ee5b30d36b52ca909ac8e7c52dbd0c7fb3fc9fcc2828e312625c", func := "loop.example/g00876/laws.FnExactCombineDistributions", spec := "fnExactCombineDistributions", unfollowed := true, recurses := true, apart := false, narrowed := true }
def FnExactCombineDistributionsUptoSaid : Prop := fnExactCombineDistributionsUptoRow.holds Try.pinned (OpenSpec.upto fnExactCombineDistributionsSpec)

/-- 'laws.FnExactLaterBy', WHERE WHAT IT READS IS OF BULK AT MOST 1048576: true; the input reads as it did. -/
def fnExactLaterByUptoRow : OpenClaim := { program := "ytdljklicegcbpaa", sum := "ff68a4159a92ee5b30d36b52ca909ac8e7c52dbd0c7fb3fc9fcc2828e312625c", func := "loop.example/g00876/laws.FnExactLaterBy", spec := "fnExactLaterBy", unfollowed := true, recurses := true, apart := false, narrowed := true }
def FnExactLaterByUptoSaid : Prop := fnExactLaterByUptoRow.holds Try.pinned (OpenSpec.upto fnExactLaterBySpec)

/-- 'laws.FnExactMixDistributions', WHERE WHAT IT READS IS OF BULK AT MOST 1048576: true; the input reads as it did. -/
def fnExactMixDistributionsUptoRow : OpenClaim := { program := "ytdljklicegcbpaa", sum := "ff68a4159a92ee5b30d36b52ca909ac8e7c52dbd0c7fb3fc9fcc2828e312625c", func := "loop.example/g00876/laws.FnExactMixDistributions", spec := "fnExactMixDistributions", unfollowed := true, recurses := true, apart := false, narrowed := true }
def FnExactMixDistributionsUptoSaid : Prop := fnExactMixDistributionsUptoRow.holds Try.pinned (OpenSpec.upto fnExactMixDistributionsSpec)

/-- 'laws.FnExactCalibrateAge', WHERE WHAT IT READS IS OF BULK AT MOST 1048576: true; the input reads as it did. -/
def fnExactCalibrateAgeUptoRow : OpenClaim := { program := "ytdljklicegcbpaa", sum := "ff68a4159a92ee5b30d36b52ca909ac8e7c52dbd0c7fb3fc9fcc2828e312625c", func := "loop.example/g00876/laws.FnExactCalibrateAge", spec := "fnExactCalibrateAge", unfollowed := true, recurses := true, apart := false, narrowed := true }
def FnExactCalibrateAgeUptoSaid : Prop := fnExactCalibrateAgeUptoRow.holds Try.pinned (OpenSpec.upto fnExactCalibrateAgeSpec)

/-- 'laws.FnExactWigglePlacement', WHERE WHAT IT READS IS OF BULK AT MOST 1048576: true; the input reads as it did. -/
def fnExactWigglePlacementUptoRow : OpenClaim := { program := "ytdljklicegcbpaa", sum := "ff68a4159a92ee5b30d36b52ca909ac8e7c52dbd0c7fb3fc9fcc2828e312625c", func := "loop.example/g00876/laws.FnExactWigglePlacement", spec := "fnExactWigglePlacement", unfollowed := true, recurses := true, apart := false, narrowed := true }
def FnExactWigglePlacementUptoSaid : Prop := fnExactWigglePlacementUptoRow.holds Try.pinned (OpenSpec.upto fnExactWigglePlacementSpec)

end Rows
end Go.Proofs.Ytdljklicegcbpaa
