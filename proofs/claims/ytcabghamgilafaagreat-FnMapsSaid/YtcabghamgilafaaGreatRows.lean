/-
  No cell of these rows narrows 'for every input' (looked for: loops, veiled, ifaces, maps, wideKeys, modest, calm, conditions, laid).
  DERIVED. THE GIVEN ROWS OF THIS SEAT. 8 by the template 'for every input the law returns true; each argument reads behind the call as it read before'; 0 by the template 'total and deterministic' (their statements: YtcabghamgilafaaGreatTotals.lean).
  GIVEN WITH THE SEED: the statements are not yours to turn. If you find one false, say at which input.
  Laid BY PROGRAM, IN A SANDBOX (cutbox-rows.mjs): the forced cells as the released guide's own fill.sh prints them over the translation cbf0f17092d48c05… (all of the seat's roots in one cut). By AI agents, Wed Nov 11 2026. No macro, syntax, notation, axiom, sorry.
-/
import Derived.Test.YtcabghamgilafaaGreatChecked
import GoSem.Claim
import GoSem.ClaimJoined
import GoSem.ClaimMapViews
import Derived.JoinedTies
import Derived.KernelRfl
namespace Go.Proofs.YtcabghamgilafaaGreat
/- THE CELL 'sum', in the pinned program and in every row, IS THE sha256 OF THE DUMP (.gsa) THAT YtcabghamgilafaaGreatProg.lean LOADS. Nothing in Lean hashes anything: it is a label: what it is worth is what the hold of that sum in a sandbox is worth. -/
noncomputable def Tryz.pinned : Pinned := { name := "ytcabghamgilafaagreat", sum := "cbf0f17092d48c050f546355450b4ee0e1404eb61bbbadc191dc85f5366930b1", checked := Tryz.checked }
namespace Rows
def none {H : Type} : Left H := { results := [], args := [] }

/-- 'laws.FnExactMapWay': WHATEVER THE INPUT: true; the input reads as it did. -/
def fnExactMapWaySpec : ChangeSpec := { name := "fnExactMapWay", fn := fun _ => fun
  | [d1, d2, d3, d4, d5] => { results := [.lit (.bool true)], args := [d1, d2, d3, d4, d5] }
  | _ => none }
def fnExactMapWayRow : OpenClaim := { program := "ytcabghamgilafaagreat", sum := "cbf0f17092d48c050f546355450b4ee0e1404eb61bbbadc191dc85f5366930b1", func := "loop.example/g01128/laws.FnExactMapWay", spec := "fnExactMapWay", unfollowed := true, recurses := true, apart := false }
def FnExactMapWaySaid : Prop := fnExactMapWayRow.holds Tryz.pinned (OpenSpec.ofChange fnExactMapWaySpec)

/-- ITS FALSE NEIGHBOUR: 'it returns false'. Refute it at one input. -/
def fnExactMapWayWrong : ChangeSpec := { name := "fnExactMapWay", fn := fun _ => fun
  | [d1, d2, d3, d4, d5] => { results := [.lit (.bool false)], args := [d1, d2, d3, d4, d5] }
  | _ => none }
def FnExactMapWayWrongFalsely : Prop := fnExactMapWayRow.holds Tryz.pinned (OpenSpec.ofChange fnExactMapWayWrong)

/-- 'laws.FnMapWindings': WHATEVER THE INPUT: true; the input reads as it did. -/
def fnMapWindingsSpec : ChangeSpec := { name := "fnMapWindings", fn := fun _ => fun
  | [d] => { results := [.lit (.bool true)], args := [d] }
  | _ => none }
def fnMapWindingsRow : OpenClaim := { program := "ytcabghamgilafaagreat", sum := "cbf0f17092d48c050f546355450b4ee0e1404eb61bbbadc191dc85f5366930b1", func := "loop.example/g01128/laws.FnMapWindings", spec := "fnMapWindings", unfollowed := true, recurses := true, apart := false }
def FnMapWindingsSaid : Prop := fnMapWindingsRow.holds Tryz.pinned (OpenSpec.ofChange fnMapWindingsSpec)

/-- ITS FALSE NEIGHBOUR: 'it returns false'. Refute it at one input. -/
def fnMapWindingsWrong : ChangeSpec := { name := "fnMapWindings", fn := fun _ => fun
  | [d] => { results := [.lit (.bool false)], args := [d] }
  | _ => none }
def FnMapWindingsWrongFalsely : Prop := fnMapWindingsRow.holds Tryz.pinned (OpenSpec.ofChange fnMapWindingsWrong)

/-- 'laws.FnFolds': WHATEVER THE INPUT: true; the input reads as it did. -/
def fnFoldsSpec : ChangeSpec := { name := "fnFolds", fn := fun _ => fun
  | [d] => { results := [.lit (.bool true)], args := [d] }
  | _ => none }
def fnFoldsRow : OpenClaim := { program := "ytcabghamgilafaagreat", sum := "cbf0f17092d48c050f546355450b4ee0e1404eb61bbbadc191dc85f5366930b1", func := "loop.example/g01128/laws.FnFolds", spec := "fnFolds", unfollowed := true, recurses := true, apart := false }
def FnFoldsSaid : Prop := fnFoldsRow.holds Tryz.pinned (OpenSpec.ofChange fnFoldsSpec)

/-- ITS FALSE NEIGHBOUR: 'it returns false'. Refute it at one input. -/
def fnFoldsWrong : ChangeSpec := { name := "fnFolds", fn := fun _ => fun
  | [d] => { results := [.lit (.bool false)], args := [d] }
  | _ => none }
def FnFoldsWrongFalsely : Prop := fnFoldsRow.holds Tryz.pinned (OpenSpec.ofChange fnFoldsWrong)

/-- 'laws.FnClasses': WHATEVER THE INPUT: true; the input reads as it did. -/
def fnClassesSpec : ChangeSpec := { name := "fnClasses", fn := fun _ => fun
  | [d] => { results := [.lit (.bool true)], args := [d] }
  | _ => none }
def fnClassesRow : OpenClaim := { program := "ytcabghamgilafaagreat", sum := "cbf0f17092d48c050f546355450b4ee0e1404eb61bbbadc191dc85f5366930b1", func := "loop.example/g01128/laws.FnClasses", spec := "fnClasses", unfollowed := true, recurses := true, apart := false }
def FnClassesSaid : Prop := fnClassesRow.holds Tryz.pinned (OpenSpec.ofChange fnClassesSpec)

/-- ITS FALSE NEIGHBOUR: 'it returns false'. Refute it at one input. -/
def fnClassesWrong : ChangeSpec := { name := "fnClasses", fn := fun _ => fun
  | [d] => { results := [.lit (.bool false)], args := [d] }
  | _ => none }
def FnClassesWrongFalsely : Prop := fnClassesRow.holds Tryz.pinned (OpenSpec.ofChange fnClassesWrong)

/-- 'laws.FnMaps': WHATEVER THE INPUT: true; the input reads as it did. -/
def fnMapsSpec : ChangeSpec := { name := "fnMaps", fn := fun _ => fun
  | [d] => { results := [.lit (.bool true)], args := [d] }
  | _ => none }
def fnMapsRow : OpenClaim := { program := "ytcabghamgilafaagreat", sum := "cbf0f17092d48c050f546355450b4ee0e1404eb61bbbadc191dc85f5366930b1", func := "loop.example/g01128/laws.FnMaps", spec := "fnMaps", unfollowed := true, recurses := true, apart := false }
def FnMapsSaid : Prop := fnMapsRow.holds Tryz.pinned (OpenSpec.ofChange fnMapsSpec)

/-- ITS FALSE NEIGHBOUR: 'it returns false'. Refute it at one input. -/
def fnMapsWrong : ChangeSpec := { name := "fnMaps", fn := fun _ => fun
  | [d] => { results := [.lit (.bool false)], args := [d] }
  | _ => none }
def FnMapsWrongFalsely : Prop := fnMapsRow.holds Tryz.pinned (OpenSpec.ofChange fnMapsWrong)

/-- 'laws.FnCosts': WHATEVER THE INPUT: true; the input reads as it did. -/
def fnCostsSpec : ChangeSpec := { name := "fnCosts", fn := fun _ => fun
  | [d] => { results := [.lit (.bool true)], args := [d] }
  | _ => none }
def fnCostsRow : OpenClaim := { program := "ytcabghamgilafaagreat", sum := "cbf0f17092d48c050f546355450b4ee0e1404eb61bbbadc191dc85f5366930b1", func := "loop.example/g01128/laws.FnCosts", spec := "fnCosts", unfollowed := true, recurses := true, apart := false }
def FnCostsSaid : Prop := fnCostsRow.holds Tryz.pinned (OpenSpec.ofChange fnCostsSpec)

/-- ITS FALSE NEIGHBOUR: 'it returns false'. Refute it at one input. -/
def fnCostsWrong : ChangeSpec := { name := "fnCosts", fn := fun _ => fun
  | [d] => { results := [.lit (.bool false)], args := [d] }
  | _ => none }
def FnCostsWrongFalsely : Prop := fnCostsRow.holds Tryz.pinned (OpenSpec.ofChange fnCostsWrong)

/-- 'laws.FnJoint': WHATEVER THE INPUT: true; the input reads as it did. -/
def fnJointSpec : ChangeSpec := { name := "fnJoint", fn := fun _ => fun
  | [d] => { results := [.lit (.bool true)], args := [d] }
  | _ => none }
def fnJointRow : OpenClaim := { program := "ytcabghamgilafaagreat", sum := "cbf0f17092d48c050f546355450b4ee0e1404eb61bbbadc191dc85f5366930b1", func := "loop.example/g01128/laws.FnJoint", spec := "fnJoint", unfollowed := true, recurses := true, apart := false }
def FnJointSaid : Prop := fnJointRow.holds Tryz.pinned (OpenSpec.ofChange fnJointSpec)

/-- ITS FALSE NEIGHBOUR: 'it returns false'. Refute it at one input. -/
def fnJointWrong : ChangeSpec := { name := "fnJoint", fn := fun _ => fun
  | [d] => { results := [.lit (.bool false)], args := [d] }
  | _ => none }
def FnJointWrongFalsely : Prop := fnJointRow.holds Tryz.pinned (OpenSpec.ofChange fnJointWrong)

/-- 'laws.FnPeaks': WHATEVER THE INPUT: true; the input reads as it did. -/
def fnPeaksSpec : ChangeSpec := { name := "fnPeaks", fn := fun _ => fun
  | [d] => { results := [.lit (.bool true)], args := [d] }
  | _ => none }
def fnPeaksRow : OpenClaim := { program := "ytcabghamgilafaagreat", sum := "cbf0f17092d48c050f546355450b4ee0e1404eb61bbbadc191dc85f5366930b1", func := "loop.example/g01128/laws.FnPeaks", spec := "fnPeaks", unfollowed := true, recurses := true, apart := false }
def FnPeaksSaid : Prop := fnPeaksRow.holds Tryz.pinned (OpenSpec.ofChange fnPeaksSpec)

/-- ITS FALSE NEIGHBOUR: 'it returns false'. Refute it at one input. -/
def fnPeaksWrong : ChangeSpec := { name := "fnPeaks", fn := fun _ => fun
  | [d] => { results := [.lit (.bool false)], args := [d] }
  | _ => none }
def FnPeaksWrongFalsely : Prop := fnPeaksRow.holds Tryz.pinned (OpenSpec.ofChange fnPeaksWrong)

/- THE SECOND FORM. 'bulk': how many values and letters a reading holds, each counted each time it is reached (what is shared counts as often as it is met; a slice's spare places count too). A statement '..UptoSaid' is the law's where the arguments, and the package variables that the reading takes, are together of bulk at most 1048576: NARROWER than '..Said'. Prove '..Said' where nothing that the law and all that it calls make is longer than what came in: it says more and counts as full. Else prove '..UptoSaid'. A law counts once. -/
mutual
def uptoBulk {H : Type} : DataW H → Nat
  | .lit (.string bytes) => bytes.length + 1
  | .lit _ => 1
  | .nil => 1
  | .ptr d => uptoBulk d + 1
  | .slice elems spare => uptoBulkAll elems + uptoBulkAll spare + 1
  | .agg parts => uptoBulkAll parts + 1
  | .iface _ d => uptoBulk d + 1
  | .map entries => uptoBulkEntries entries + 1
  | .held _ => 1
def uptoBulkAll {H : Type} : List (DataW H) → Nat
  | [] => 0
  | d :: r => uptoBulk d + uptoBulkAll r
def uptoBulkEntries {H : Type} : List (Lit × DataW H) → Nat
  | [] => 0
  | x :: r => uptoBulkEntry x + uptoBulkEntries r
def uptoBulkEntry {H : Type} : Lit × DataW H → Nat
  | (.string bytes, d) => bytes.length + uptoBulk d + 1
  | (_, d) => uptoBulk d + 1
 end
def uptoSmall : (H : Type) → List (DataW H) → Bool := fun _ ds => decide (uptoBulkAll ds ≤ 1048576)
def OpenSpec.upto (s : _root_.Go.ChangeSpec) : _root_.Go.OpenSpec := { _root_.Go.OpenSpec.ofChange s with cond := some uptoSmall }

/-- 'laws.FnExactMapWay', WHERE WHAT IT READS IS OF BULK AT MOST 1048576: true; the input reads as it did. -/
def fnExactMapWayUptoRow : OpenClaim := { program := "ytcabghamgilafaagreat", sum := "cbf0f17092d48c050f546355450b4ee0e1404eb61bbbadc191dc85f5366930b1", func := "loop.example/g01128/laws.FnExactMapWay", spec := "fnExactMapWay", unfollowed := true, recurses := true, apart := false, narrowed := true }
def FnExactMapWayUptoSaid : Prop := fnExactMapWayUptoRow.holds Tryz.pinned (OpenSpec.upto fnExactMapWaySpec)

/-- 'laws.FnMapWindings', WHERE WHAT IT READS IS OF BULK AT MOST 1048576: true; the input reads as it did. -/
def fnMapWindingsUptoRow : OpenClaim := { program := "ytcabghamgilafaagreat", sum := "cbf0f17092d48c050f546355450b4ee0e1404eb61bbbadc191dc85f5366930b1", func := "loop.example/g01128/laws.FnMapWindings", spec := "fnMapWindings", unfollowed := true, recurses := true, apart := false, narrowed := true }
def FnMapWindingsUptoSaid : Prop := fnMapWindingsUptoRow.holds Tryz.pinned (OpenSpec.upto fnMapWindingsSpec)

/-- 'laws.FnFolds', WHERE WHAT IT READS IS OF BULK AT MOST 1048576: true; the input reads as it did. -/
def fnFoldsUptoRow : OpenClaim := { program := "ytcabghamgilafaagreat", sum := "cbf0f17092d48c050f546355450b4ee0e1404eb61bbbadc191dc85f5366930b1", func := "loop.example/g01128/laws.FnFolds", spec := "fnFolds", unfollowed := true, recurses := true, apart := false, narrowed := true }
def FnFoldsUptoSaid : Prop := fnFoldsUptoRow.holds Tryz.pinned (OpenSpec.upto fnFoldsSpec)

/-- 'laws.FnClasses', WHERE WHAT IT READS IS OF BULK AT MOST 1048576: true; the input reads as it did. -/
def fnClassesUptoRow : OpenClaim := { program := "ytcabghamgilafaagreat", sum := "cbf0f17092d48c050f546355450b4ee0e1404eb61bbbadc191dc85f5366930b1", func := "loop.example/g01128/laws.FnClasses", spec := "fnClasses", unfollowed := true, recurses := true, apart := false, narrowed := true }
def FnClassesUptoSaid : Prop := fnClassesUptoRow.holds Tryz.pinned (OpenSpec.upto fnClassesSpec)

/-- 'laws.FnMaps', WHERE WHAT IT READS IS OF BULK AT MOST 1048576: true; the input reads as it did. -/
def fnMapsUptoRow : OpenClaim := { program := "ytcabghamgilafaagreat", sum := "cbf0f17092d48c050f546355450b4ee0e1404eb61bbbadc191dc85f5366930b1", func := "loop.example/g01128/laws.FnMaps", spec := "fnMaps", unfollowed := true, recurses := true, apart := false, narrowed := true }
def FnMapsUptoSaid : Prop := fnMapsUptoRow.holds Tryz.pinned (OpenSpec.upto fnMapsSpec)

/-- 'laws.FnCosts', WHERE WHAT IT READS IS OF BULK AT MOST 1048576: true; the input reads as it did. -/
def fnCostsUptoRow : OpenClaim := { program := "ytcabghamgilafaagreat", sum := "cbf0f17092d48c050f546355450b4ee0e1404eb61bbbadc191dc85f5366930b1", func := "loop.example/g01128/laws.FnCosts", spec := "fnCosts", unfollowed := true, recurses := true, apart := false, narrowed := true }
def FnCostsUptoSaid : Prop := fnCostsUptoRow.holds Tryz.pinned (OpenSpec.upto fnCostsSpec)

/-- 'laws.FnJoint', WHERE WHAT IT READS IS OF BULK AT MOST 1048576: true; the input reads as it did. -/
def fnJointUptoRow : OpenClaim := { program := "ytcabghamgilafaagreat", sum := "cbf0f17092d48c050f546355450b4ee0e1404eb61bbbadc191dc85f5366930b1", func := "loop.example/g01128/laws.FnJoint", spec := "fnJoint", unfollowed := true, recurses := true, apart := false, narrowed := true }
def FnJointUptoSaid : Prop := fnJointUptoRow.holds Tryz.pinned (OpenSpec.upto fnJointSpec)

/-- 'laws.FnPeaks', WHERE WHAT IT READS IS OF BULK AT MOST 1048576: true; the input reads as it did. -/
def fnPeaksUptoRow : OpenClaim := { program := "ytcabghamgilafaagreat", sum := "cbf0f17092d48c050f546355450b4ee0e1404eb61bbbadc191dc85f5366930b1", func := "loop.example/g01128/laws.FnPeaks", spec := "fnPeaks", unfollowed := true, recurses := true, apart := false, narrowed := true }
def FnPeaksUptoSaid : Prop := fnPeaksUptoRow.holds Tryz.pinned (OpenSpec.upto fnPeaksSpec)

end Rows
end Go.Proofs.YtcabghamgilafaaGreat
