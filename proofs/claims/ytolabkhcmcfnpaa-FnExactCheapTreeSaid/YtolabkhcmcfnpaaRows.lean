/-
  No cell of these rows narrows 'for every input' (looked for: loops, veiled, ifaces, maps, wideKeys, modest, calm, conditions, laid).
  DERIVED. THE GIVEN ROWS OF THIS SEAT. 12 by the template 'for every input the law returns true; each argument reads behind the call as it read before'; 0 by the template 'total and deterministic' (their statements: YtolabkhcmcfnpaaTotals.lean).
  GIVEN WITH THE SEED: the statements are not yours to turn. If you find one false, say at which input.
  Laid BY PROGRAM, IN A SANDBOX (cutbox-rows.mjs): the forced cells as the released guide's own fill.sh prints them over the translation fb2c625aca0ce3ff… (all of the seat's roots in one cut). By AI agents, Wed Nov 11 2026. No macro, syntax, notation, axiom, sorry.
-/
import Derived.Test.YtolabkhcmcfnpaaChecked
import GoSem.Claim
import GoSem.ClaimJoined
import GoSem.ClaimMapViews
import Derived.JoinedTies
import Derived.KernelRfl
namespace Go.Proofs.Ytolabkhcmcfnpaa
/- THE CELL 'sum', in the pinned program and in every row, IS THE sha256 OF THE DUMP (.gsa) THAT YtolabkhcmcfnpaaProg.lean LOADS. Nothing in Lean hashes anything: it is a label: what it is worth is what the hold of that sum in a sandbox is worth. -/
noncomputable def Try.pinned : Pinned := { name := "ytolabkhcmcfnpaa", sum := "fb2c625aca0ce3ff9471acaaa53cbc8f364bf380810bbb826e91cb7fb3fbcbe3", checked := Try.checked }
namespace Rows
def none {H : Type} : Left H := { results := [], args := [] }

/-- 'laws.FnExactAreAgents': WHATEVER THE INPUT: true; the input reads as it did. -/
def fnExactAreAgentsSpec : ChangeSpec := { name := "fnExactAreAgents", fn := fun _ => fun
  | [d1, d2] => { results := [.lit (.bool true)], args := [d1, d2] }
  | _ => none }
def fnExactAreAgentsRow : OpenClaim := { program := "ytolabkhcmcfnpaa", sum := "fb2c625aca0ce3ff9471acaaa53cbc8f364bf380810bbb826e91cb7fb3fbcbe3", func := "loop.example/g01128/laws.FnExactAreAgents", spec := "fnExactAreAgents", unfollowed := true, recurses := true, apart := false }
def FnExactAreAgentsSaid : Prop := fnExactAreAgentsRow.holds Try.pinned (OpenSpec.ofChange fnExactAreAgentsSpec)

/-- ITS FALSE NEIGHBOUR: 'it returns false'. Refute it at one input. -/
def fnExactAreAgentsWrong : ChangeSpec := { name := "fnExactAreAgents", fn := fun _ => fun
  | [d1, d2] => { results := [.lit (.bool false)], args := [d1, d2] }
  | _ => none }
def FnExactAreAgentsWrongFalsely : Prop := fnExactAreAgentsRow.holds Try.pinned (OpenSpec.ofChange fnExactAreAgentsWrong)

/-- 'laws.FnExactIsJointPlan': WHATEVER THE INPUT: true; the input reads as it did. -/
def fnExactIsJointPlanSpec : ChangeSpec := { name := "fnExactIsJointPlan", fn := fun _ => fun
  | [d1, d2] => { results := [.lit (.bool true)], args := [d1, d2] }
  | _ => none }
def fnExactIsJointPlanRow : OpenClaim := { program := "ytolabkhcmcfnpaa", sum := "fb2c625aca0ce3ff9471acaaa53cbc8f364bf380810bbb826e91cb7fb3fbcbe3", func := "loop.example/g01128/laws.FnExactIsJointPlan", spec := "fnExactIsJointPlan", unfollowed := true, recurses := true, apart := false }
def FnExactIsJointPlanSaid : Prop := fnExactIsJointPlanRow.holds Try.pinned (OpenSpec.ofChange fnExactIsJointPlanSpec)

/-- ITS FALSE NEIGHBOUR: 'it returns false'. Refute it at one input. -/
def fnExactIsJointPlanWrong : ChangeSpec := { name := "fnExactIsJointPlan", fn := fun _ => fun
  | [d1, d2] => { results := [.lit (.bool false)], args := [d1, d2] }
  | _ => none }
def FnExactIsJointPlanWrongFalsely : Prop := fnExactIsJointPlanRow.holds Try.pinned (OpenSpec.ofChange fnExactIsJointPlanWrong)

/-- 'laws.FnExactCostsFrom': WHATEVER THE INPUT: true; the input reads as it did. -/
def fnExactCostsFromSpec : ChangeSpec := { name := "fnExactCostsFrom", fn := fun _ => fun
  | [d1, d2, d3] => { results := [.lit (.bool true)], args := [d1, d2, d3] }
  | _ => none }
def fnExactCostsFromRow : OpenClaim := { program := "ytolabkhcmcfnpaa", sum := "fb2c625aca0ce3ff9471acaaa53cbc8f364bf380810bbb826e91cb7fb3fbcbe3", func := "loop.example/g01128/laws.FnExactCostsFrom", spec := "fnExactCostsFrom", unfollowed := true, recurses := true, apart := false }
def FnExactCostsFromSaid : Prop := fnExactCostsFromRow.holds Try.pinned (OpenSpec.ofChange fnExactCostsFromSpec)

/-- ITS FALSE NEIGHBOUR: 'it returns false'. Refute it at one input. -/
def fnExactCostsFromWrong : ChangeSpec := { name := "fnExactCostsFrom", fn := fun _ => fun
  | [d1, d2, d3] => { results := [.lit (.bool false)], args := [d1, d2, d3] }
  | _ => none }
def FnExactCostsFromWrongFalsely : Prop := fnExactCostsFromRow.holds Try.pinned (OpenSpec.ofChange fnExactCostsFromWrong)

/-- 'laws.FnExactJointBound': WHATEVER THE INPUT: true; the input reads as it did. -/
def fnExactJointBoundSpec : ChangeSpec := { name := "fnExactJointBound", fn := fun _ => fun
  | [d1, d2, d3] => { results := [.lit (.bool true)], args := [d1, d2, d3] }
  | _ => none }
def fnExactJointBoundRow : OpenClaim := { program := "ytolabkhcmcfnpaa", sum := "fb2c625aca0ce3ff9471acaaa53cbc8f364bf380810bbb826e91cb7fb3fbcbe3", func := "loop.example/g01128/laws.FnExactJointBound", spec := "fnExactJointBound", unfollowed := true, recurses := true, apart := false }
def FnExactJointBoundSaid : Prop := fnExactJointBoundRow.holds Try.pinned (OpenSpec.ofChange fnExactJointBoundSpec)

/-- ITS FALSE NEIGHBOUR: 'it returns false'. Refute it at one input. -/
def fnExactJointBoundWrong : ChangeSpec := { name := "fnExactJointBound", fn := fun _ => fun
  | [d1, d2, d3] => { results := [.lit (.bool false)], args := [d1, d2, d3] }
  | _ => none }
def FnExactJointBoundWrongFalsely : Prop := fnExactJointBoundRow.holds Try.pinned (OpenSpec.ofChange fnExactJointBoundWrong)

/-- 'laws.FnExactJointMoves': WHATEVER THE INPUT: true; the input reads as it did. -/
def fnExactJointMovesSpec : ChangeSpec := { name := "fnExactJointMoves", fn := fun _ => fun
  | [d1, d2] => { results := [.lit (.bool true)], args := [d1, d2] }
  | _ => none }
def fnExactJointMovesRow : OpenClaim := { program := "ytolabkhcmcfnpaa", sum := "fb2c625aca0ce3ff9471acaaa53cbc8f364bf380810bbb826e91cb7fb3fbcbe3", func := "loop.example/g01128/laws.FnExactJointMoves", spec := "fnExactJointMoves", unfollowed := true, recurses := true, apart := false }
def FnExactJointMovesSaid : Prop := fnExactJointMovesRow.holds Try.pinned (OpenSpec.ofChange fnExactJointMovesSpec)

/-- ITS FALSE NEIGHBOUR: 'it returns false'. Refute it at one input. -/
def fnExactJointMovesWrong : ChangeSpec := { name := "fnExactJointMoves", fn := fun _ => fun
  | [d1, d2] => { results := [.lit (.bool false)], args := [d1, d2] }
  | _ => none }
def FnExactJointMovesWrongFalsely : Prop := fnExactJointMovesRow.holds Try.pinned (OpenSpec.ofChange fnExactJointMovesWrong)

/-- 'laws.FnExactCheapestWay': WHATEVER THE INPUT: true; the input reads as it did. -/
def fnExactCheapestWaySpec : ChangeSpec := { name := "fnExactCheapestWay", fn := fun _ => fun
  | [d1, d2, d3, d4] => { results := [.lit (.bool true)], args := [d1, d2, d3, d4] }
  | _ => none }
def fnExactCheapestWayRow : OpenClaim := { program := "ytolabkhcmcfnpaa", sum := "fb2c625aca0ce3ff9471acaaa53cbc8f364bf380810bbb826e91cb7fb3fbcbe3", func := "loop.example/g01128/laws.FnExactCheapestWay", spec := "fnExactCheapestWay", unfollowed := true, recurses := true, apart := false }
def FnExactCheapestWaySaid : Prop := fnExactCheapestWayRow.holds Try.pinned (OpenSpec.ofChange fnExactCheapestWaySpec)

/-- ITS FALSE NEIGHBOUR: 'it returns false'. Refute it at one input. -/
def fnExactCheapestWayWrong : ChangeSpec := { name := "fnExactCheapestWay", fn := fun _ => fun
  | [d1, d2, d3, d4] => { results := [.lit (.bool false)], args := [d1, d2, d3, d4] }
  | _ => none }
def FnExactCheapestWayWrongFalsely : Prop := fnExactCheapestWayRow.holds Try.pinned (OpenSpec.ofChange fnExactCheapestWayWrong)

/-- 'laws.FnExactJointDistance': WHATEVER THE INPUT: true; the input reads as it did. -/
def fnExactJointDistanceSpec : ChangeSpec := { name := "fnExactJointDistance", fn := fun _ => fun
  | [d1, d2, d3] => { results := [.lit (.bool true)], args := [d1, d2, d3] }
  | _ => none }
def fnExactJointDistanceRow : OpenClaim := { program := "ytolabkhcmcfnpaa", sum := "fb2c625aca0ce3ff9471acaaa53cbc8f364bf380810bbb826e91cb7fb3fbcbe3", func := "loop.example/g01128/laws.FnExactJointDistance", spec := "fnExactJointDistance", unfollowed := true, recurses := true, apart := false }
def FnExactJointDistanceSaid : Prop := fnExactJointDistanceRow.holds Try.pinned (OpenSpec.ofChange fnExactJointDistanceSpec)

/-- ITS FALSE NEIGHBOUR: 'it returns false'. Refute it at one input. -/
def fnExactJointDistanceWrong : ChangeSpec := { name := "fnExactJointDistance", fn := fun _ => fun
  | [d1, d2, d3] => { results := [.lit (.bool false)], args := [d1, d2, d3] }
  | _ => none }
def FnExactJointDistanceWrongFalsely : Prop := fnExactJointDistanceRow.holds Try.pinned (OpenSpec.ofChange fnExactJointDistanceWrong)

/-- 'laws.FnExactCheapTree': WHATEVER THE INPUT: true; the input reads as it did. -/
def fnExactCheapTreeSpec : ChangeSpec := { name := "fnExactCheapTree", fn := fun _ => fun
  | [d1, d2] => { results := [.lit (.bool true)], args := [d1, d2] }
  | _ => none }
def fnExactCheapTreeRow : OpenClaim := { program := "ytolabkhcmcfnpaa", sum := "fb2c625aca0ce3ff9471acaaa53cbc8f364bf380810bbb826e91cb7fb3fbcbe3", func := "loop.example/g01128/laws.FnExactCheapTree", spec := "fnExactCheapTree", unfollowed := true, recurses := true, apart := false }
def FnExactCheapTreeSaid : Prop := fnExactCheapTreeRow.holds Try.pinned (OpenSpec.ofChange fnExactCheapTreeSpec)

/-- ITS FALSE NEIGHBOUR: 'it returns false'. Refute it at one input. -/
def fnExactCheapTreeWrong : ChangeSpec := { name := "fnExactCheapTree", fn := fun _ => fun
  | [d1, d2] => { results := [.lit (.bool false)], args := [d1, d2] }
  | _ => none }
def FnExactCheapTreeWrongFalsely : Prop := fnExactCheapTreeRow.holds Try.pinned (OpenSpec.ofChange fnExactCheapTreeWrong)

/-- 'laws.FnExactMergeHeights': WHATEVER THE INPUT: true; the input reads as it did. -/
def fnExactMergeHeightsSpec : ChangeSpec := { name := "fnExactMergeHeights", fn := fun _ => fun
  | [d1, d2] => { results := [.lit (.bool true)], args := [d1, d2] }
  | _ => none }
def fnExactMergeHeightsRow : OpenClaim := { program := "ytolabkhcmcfnpaa", sum := "fb2c625aca0ce3ff9471acaaa53cbc8f364bf380810bbb826e91cb7fb3fbcbe3", func := "loop.example/g01128/laws.FnExactMergeHeights", spec := "fnExactMergeHeights", unfollowed := true, recurses := true, apart := false }
def FnExactMergeHeightsSaid : Prop := fnExactMergeHeightsRow.holds Try.pinned (OpenSpec.ofChange fnExactMergeHeightsSpec)

/-- ITS FALSE NEIGHBOUR: 'it returns false'. Refute it at one input. -/
def fnExactMergeHeightsWrong : ChangeSpec := { name := "fnExactMergeHeights", fn := fun _ => fun
  | [d1, d2] => { results := [.lit (.bool false)], args := [d1, d2] }
  | _ => none }
def FnExactMergeHeightsWrongFalsely : Prop := fnExactMergeHeightsRow.holds Try.pinned (OpenSpec.ofChange fnExactMergeHeightsWrong)

/-- 'laws.FnExactJointPlan': WHATEVER THE INPUT: true; the input reads as it did. -/
def fnExactJointPlanSpec : ChangeSpec := { name := "fnExactJointPlan", fn := fun _ => fun
  | [d1, d2, d3] => { results := [.lit (.bool true)], args := [d1, d2, d3] }
  | _ => none }
def fnExactJointPlanRow : OpenClaim := { program := "ytolabkhcmcfnpaa", sum := "fb2c625aca0ce3ff9471acaaa53cbc8f364bf380810bbb826e91cb7fb3fbcbe3", func := "loop.example/g01128/laws.FnExactJointPlan", spec := "fnExactJointPlan", unfollowed := true, recurses := true, apart := false }
def FnExactJointPlanSaid : Prop := fnExactJointPlanRow.holds Try.pinned (OpenSpec.ofChange fnExactJointPlanSpec)

/-- ITS FALSE NEIGHBOUR: 'it returns false'. Refute it at one input. -/
def fnExactJointPlanWrong : ChangeSpec := { name := "fnExactJointPlan", fn := fun _ => fun
  | [d1, d2, d3] => { results := [.lit (.bool false)], args := [d1, d2, d3] }
  | _ => none }
def FnExactJointPlanWrongFalsely : Prop := fnExactJointPlanRow.holds Try.pinned (OpenSpec.ofChange fnExactJointPlanWrong)

/-- 'laws.FnExactLeastPeak': WHATEVER THE INPUT: true; the input reads as it did. -/
def fnExactLeastPeakSpec : ChangeSpec := { name := "fnExactLeastPeak", fn := fun _ => fun
  | [d1, d2, d3, d4] => { results := [.lit (.bool true)], args := [d1, d2, d3, d4] }
  | _ => none }
def fnExactLeastPeakRow : OpenClaim := { program := "ytolabkhcmcfnpaa", sum := "fb2c625aca0ce3ff9471acaaa53cbc8f364bf380810bbb826e91cb7fb3fbcbe3", func := "loop.example/g01128/laws.FnExactLeastPeak", spec := "fnExactLeastPeak", unfollowed := true, recurses := true, apart := false }
def FnExactLeastPeakSaid : Prop := fnExactLeastPeakRow.holds Try.pinned (OpenSpec.ofChange fnExactLeastPeakSpec)

/-- ITS FALSE NEIGHBOUR: 'it returns false'. Refute it at one input. -/
def fnExactLeastPeakWrong : ChangeSpec := { name := "fnExactLeastPeak", fn := fun _ => fun
  | [d1, d2, d3, d4] => { results := [.lit (.bool false)], args := [d1, d2, d3, d4] }
  | _ => none }
def FnExactLeastPeakWrongFalsely : Prop := fnExactLeastPeakRow.holds Try.pinned (OpenSpec.ofChange fnExactLeastPeakWrong)

/-- 'laws.FnExactLowWay': WHATEVER THE INPUT: true; the input reads as it did. -/
def fnExactLowWaySpec : ChangeSpec := { name := "fnExactLowWay", fn := fun _ => fun
  | [d1, d2, d3, d4] => { results := [.lit (.bool true)], args := [d1, d2, d3, d4] }
  | _ => none }
def fnExactLowWayRow : OpenClaim := { program := "ytolabkhcmcfnpaa", sum := "fb2c625aca0ce3ff9471acaaa53cbc8f364bf380810bbb826e91cb7fb3fbcbe3", func := "loop.example/g01128/laws.FnExactLowWay", spec := "fnExactLowWay", unfollowed := true, recurses := true, apart := false }
def FnExactLowWaySaid : Prop := fnExactLowWayRow.holds Try.pinned (OpenSpec.ofChange fnExactLowWaySpec)

/-- ITS FALSE NEIGHBOUR: 'it returns false'. Refute it at one input. -/
def fnExactLowWayWrong : ChangeSpec := { name := "fnExactLowWay", fn := fun _ => fun
  | [d1, d2, d3, d4] => { results := [.lit (.bool false)], args := [d1, d2, d3, d4] }
  | _ => none }
def FnExactLowWayWrongFalsely : Prop := fnExactLowWayRow.holds Try.pinned (OpenSpec.ofChange fnExactLowWayWrong)

/- THE SECOND FORM. 'bulk': how many values and letters a reading holds, each counted each time it is reached (what is shared counts as often as it is met; a slice's spare places count too). A statement '..UptoSaid' is the law's where the arguments, and the package variables that the reading takes, are together of bulk at most 1048576: NARROWER than '..Said'. Prove '..Said' where nothing that the law and all that it calls make is longer than what came in: it says more and counts as full. Else prove '..UptoSaid'. A law counts once. -/
mutual
def uptoBulk {H : Type} : DataW H → Nat
  | .lit (.string bytes) => bytes.length + 1
  | .lit _ => 1
  | .nil => 1
  | .ptr d => uptoBulk d + 1
  | .slice elems spare => uptoBulkAll elems + uptoBulkAll spare + 1
  | .agg parts => uptoBulkAll parts + 1
  | .iface _ d => uptoBulk d + 1
  | .map entries => uptoBulkEntries entries + 1
  | .held _ => 1
def uptoBulkAll {H : Type} : List (DataW H) → Nat
  | [] => 0
  | d :: r => uptoBulk d + uptoBulkAll r
def uptoBulkEntries {H : Type} : List (Lit × DataW H) → Nat
  | [] => 0
  | x :: r => uptoBulkEntry x + uptoBulkEntries r
def uptoBulkEntry {H : Type} : Lit × DataW H → Nat
  | (.string bytes, d) => bytes.length + uptoBulk d + 1
  | (_, d) => uptoBulk d + 1
 end
def uptoSmall : (H : Type) → List (DataW H) → Bool := fun _ ds => decide (uptoBulkAll ds ≤ 1048576)
def OpenSpec.upto (s : _root_.Go.ChangeSpec) : _root_.Go.OpenSpec := { _root_.Go.OpenSpec.ofChange s with cond := some uptoSmall }

/-- 'laws.FnExactAreAgents', WHERE WHAT IT READS IS OF BULK AT MOST 1048576: true; the input reads as it did. -/
def fnExactAreAgentsUptoRow : OpenClaim := { program := "ytolabkhcmcfnpaa", sum := "fb2c625aca0ce3ff9471acaaa53cbc8f364bf380810bbb826e91cb7fb3fbcbe3", func := "loop.example/g01128/laws.FnExactAreAgents", spec := "fnExactAreAgents", unfollowed := true, recurses := true, apart := false, narrowed := true }
def FnExactAreAgentsUptoSaid : Prop := fnExactAreAgentsUptoRow.holds Try.pinned (OpenSpec.upto fnExactAreAgentsSpec)

/-- 'laws.FnExactIsJointPlan', WHERE WHAT IT READS IS OF BULK AT MOST 1048576: true; the input reads as it did. -/
def fnExactIsJointPlanUptoRow : OpenClaim := { program := "ytolabkhcmcfnpaa", sum := "fb2c625aca0ce3ff9471acaaa53cbc8f364bf380810bbb826e91cb7fb3fbcbe3", func := "loop.example/g01128/laws.FnExactIsJointPlan", spec := "fnExactIsJointPlan", unfollowed := true, recurses := true, apart := false, narrowed := true }
def FnExactIsJointPlanUptoSaid : Prop := fnExactIsJointPlanUptoRow.holds Try.pinned (OpenSpec.upto fnExactIsJointPlanSpec)

/-- 'laws.FnExactCostsFrom', WHERE WHAT IT READS IS OF BULK AT MOST 1048576: true; the input reads as it did. -/
def fnExactCostsFromUptoRow : OpenClaim := { program := "ytolabkhcmcfnpaa", sum := "fb2c625aca0ce3ff9471acaaa53cbc8f364bf380810bbb826e91cb7fb3fbcbe3", func := "loop.example/g01128/laws.FnExactCostsFrom", spec := "fnExactCostsFrom", unfollowed := true, recurses := true, apart := false, narrowed := true }
def FnExactCostsFromUptoSaid : Prop := fnExactCostsFromUptoRow.holds Try.pinned (OpenSpec.upto fnExactCostsFromSpec)

/-- 'laws.FnExactJointBound', WHERE WHAT IT READS IS OF BULK AT MOST 1048576: true; the input reads as it did. -/
def fnExactJointBoundUptoRow : OpenClaim := { program := "ytolabkhcmcfnpaa", sum := "fb2c625aca0ce3ff9471acaaa53cbc8f364bf380810bbb826e91cb7fb3fbcbe3", func := "loop.example/g01128/laws.FnExactJointBound", spec := "fnExactJointBound", unfollowed := true, recurses := true, apart := false, narrowed := true }
def FnExactJointBoundUptoSaid : Prop := fnExactJointBoundUptoRow.holds Try.pinned (OpenSpec.upto fnExactJointBoundSpec)

/-- 'laws.FnExactJointMoves', WHERE WHAT IT READS IS OF BULK AT MOST 1048576: true; the input reads as it did. -/
def fnExactJointMovesUptoRow : OpenClaim := { program := "ytolabkhcmcfnpaa", sum := "fb2c625aca0ce3ff9471acaaa53cbc8f364bf380810bbb826e91cb7fb3fbcbe3", func := "loop.example/g01128/laws.FnExactJointMoves", spec := "fnExactJointMoves", unfollowed := true, recurses := true, apart := false, narrowed := true }
def FnExactJointMovesUptoSaid : Prop := fnExactJointMovesUptoRow.holds Try.pinned (OpenSpec.upto fnExactJointMovesSpec)

/-- 'laws.FnExactCheapestWay', WHERE WHAT IT READS IS OF BULK AT MOST 1048576: true; the input reads as it did. -/
def fnExactCheapestWayUptoRow : OpenClaim := { program := "ytolabkhcmcfnpaa", sum := "fb2c625aca0ce3ff9471acaaa53cbc8f364bf380810bbb826e91cb7fb3fbcbe3", func := "loop.example/g01128/laws.FnExactCheapestWay", spec := "fnExactCheapestWay", unfollowed := true, recurses := true, apart := false, narrowed := true }
def FnExactCheapestWayUptoSaid : Prop := fnExactCheapestWayUptoRow.holds Try.pinned (OpenSpec.upto fnExactCheapestWaySpec)

/-- 'laws.FnExactJointDistance', WHERE WHAT IT READS IS OF BULK AT MOST 1048576: true; the input reads as it did. -/
def fnExactJointDistanceUptoRow : OpenClaim := { program := "ytolabkhcmcfnpaa", sum := "fb2c625aca0ce3ff9471acaaa53cbc8f364bf380810bbb826e91cb7fb3fbcbe3", func := "loop.example/g01128/laws.FnExactJointDistance", spec := "fnExactJointDistance", unfollowed := true, recurses := true, apart := false, narrowed := true }
def FnExactJointDistanceUptoSaid : Prop := fnExactJointDistanceUptoRow.holds Try.pinned (OpenSpec.upto fnExactJointDistanceSpec)

/-- 'laws.FnExactCheapTree', WHERE WHAT IT READS IS OF BULK AT MOST 1048576: true; the input reads as it did. -/
def fnExactCheapTreeUptoRow : OpenClaim := { program := "ytolabkhcmcfnpaa", sum := "fb2c625aca0ce3ff9471acaaa53cbc8f364bf380810bbb826e91cb7fb3fbcbe3", func := "loop.example/g01128/laws.FnExactCheapTree", spec := "fnExactCheapTree", unfollowed := true, recurses := true, apart := false, narrowed := true }
def FnExactCheapTreeUptoSaid : Prop := fnExactCheapTreeUptoRow.holds Try.pinned (OpenSpec.upto fnExactCheapTreeSpec)

/-- 'laws.FnExactMergeHeights', WHERE WHAT IT READS IS OF BULK AT MOST 1048576: true; the input reads as it did. -/
def fnExactMergeHeightsUptoRow : OpenClaim := { program := "ytolabkhcmcfnpaa", sum := "fb2c625aca0ce3ff9471acaaa53cbc8f364bf380810bbb826e91cb7fb3fbcbe3", func := "loop.example/g01128/laws.FnExactMergeHeights", spec := "fnExactMergeHeights", unfollowed := true, recurses := true, apart := false, narrowed := true }
def FnExactMergeHeightsUptoSaid : Prop := fnExactMergeHeightsUptoRow.holds Try.pinned (OpenSpec.upto fnExactMergeHeightsSpec)

/-- 'laws.FnExactJointPlan', WHERE WHAT IT READS IS OF BULK AT MOST 1048576: true; the input reads as it did. -/
def fnExactJointPlanUptoRow : OpenClaim := { program := "ytolabkhcmcfnpaa", sum := "fb2c625aca0ce3ff9471acaaa53cbc8f364bf380810bbb826e91cb7fb3fbcbe3", func := "loop.example/g01128/laws.FnExactJointPlan", spec := "fnExactJointPlan", unfollowed := true, recurses := true, apart := false, narrowed := true }
def FnExactJointPlanUptoSaid : Prop := fnExactJointPlanUptoRow.holds Try.pinned (OpenSpec.upto fnExactJointPlanSpec)

/-- 'laws.FnExactLeastPeak', WHERE WHAT IT READS IS OF BULK AT MOST 1048576: true; the input reads as it did. -/
def fnExactLeastPeakUptoRow : OpenClaim := { program := "ytolabkhcmcfnpaa", sum := "fb2c625aca0ce3ff9471acaaa53cbc8f364bf380810bbb826e91cb7fb3fbcbe3", func := "loop.example/g01128/laws.FnExactLeastPeak", spec := "fnExactLeastPeak", unfollowed := true, recurses := true, apart := false, narrowed := true }
def FnExactLeastPeakUptoSaid : Prop := fnExactLeastPeakUptoRow.holds Try.pinned (OpenSpec.upto fnExactLeastPeakSpec)

/-- 'laws.FnExactLowWay', WHERE WHAT IT READS IS OF BULK AT MOST 1048576: true; the input reads as it did. -/
def fnExactLowWayUptoRow : OpenClaim := { program := "ytolabkhcmcfnpaa", sum := "fb2c625aca0ce3ff9471acaaa53cbc8f364bf380810bbb826e91cb7fb3fbcbe3", func := "loop.example/g01128/laws.FnExactLowWay", spec := "fnExactLowWay", unfollowed := true, recurses := true, apart := false, narrowed := true }
def FnExactLowWayUptoSaid : Prop := fnExactLowWayUptoRow.holds Try.pinned (OpenSpec.upto fnExactLowWaySpec)

end Rows
end Go.Proofs.Ytolabkhcmcfnpaa
