/-
  No cell of these rows narrows 'for every input' (looked for: loops, veiled, ifaces, maps, wideKeys, modest, calm, conditions, laid).
  DERIVED. THE GIVEN ROWS OF THIS SEAT. 3 by the template 'for every input the law returns true; each argument reads behind the call as it read before'; 0 by the template 'total and deterministic' (their statements: YtcabghamgilafaaTotals.lean).
  GIVEN WITH THE SEED: the statements are not yours to turn. If you find one false, say at which input.
  Laid BY PROGRAM, IN A SANDBOX (cutbox-rows.mjs): the forced cells as the released guide's own fill.sh prints them over the translation dc33a570a153a274… (all of the seat's roots in one cut). By AI agents, Wed Nov 11 2026. No macro, syntax, notation, axiom, sorry.
-/
import Derived.Test.YtcabghamgilafaaChecked
import GoSem.Claim
import GoSem.ClaimJoined
import GoSem.ClaimMapViews
import Derived.JoinedTies
import Derived.KernelRfl
namespace Go.Proofs.Ytcabghamgilafaa
/- THE CELL 'sum', in the pinned program and in every row, IS THE sha256 OF THE DUMP (.gsa) THAT YtcabghamgilafaaProg.lean LOADS. Nothing in Lean hashes anything: it is a label: what it is worth is what the hold of that sum in a sandbox is worth. -/
noncomputable def Try.pinned : Pinned := { name := "ytcabghamgilafaa", sum := "dc33a570a153a27440787ec3151a15d41a31a4279eff4f70385c406f904dd63d", checked := Try.checked }
namespace Rows
def none {H : Type} : Left H := { results := [], args := [] }

/-- 'laws.FnExactWindingLabels': WHATEVER THE INPUT: true; the input reads as it did. -/
def fnExactWindingLabelsSpec : ChangeSpec := { name := "fnExactWindingLabels", fn := fun _ => fun
  | [d1, d2] => { results := [.lit (.bool true)], args := [d1, d2] }
  | _ => none }
def fnExactWindingLabelsRow : OpenClaim := { program := "ytcabghamgilafaa", sum := "dc33a570a153a27440787ec3151a15d41a31a4279eff4f70385c406f904dd63d", func := "loop.example/g01128/laws.FnExactWindingLabels", spec := "fnExactWindingLabels", unfollowed := true, recurses := true, apart := false }
def FnExactWindingLabelsSaid : Prop := fnExactWindingLabelsRow.holds Try.pinned (OpenSpec.ofChange fnExactWindingLabelsSpec)

/-- ITS FALSE NEIGHBOUR: 'it returns false'. Refute it at one input. -/
def fnExactWindingLabelsWrong : ChangeSpec := { name := "fnExactWindingLabels", fn := fun _ => fun
  | [d1, d2] => { results := [.lit (.bool false)], args := [d1, d2] }
  | _ => none }
def FnExactWindingLabelsWrongFalsely : Prop := fnExactWindingLabelsRow.holds Try.pinned (OpenSpec.ofChange fnExactWindingLabelsWrong)

/-- 'laws.FnExactMapSpace': WHATEVER THE INPUT: true; the input reads as it did. -/
def fnExactMapSpaceSpec : ChangeSpec := { name := "fnExactMapSpace", fn := fun _ => fun
  | [d1, d2, d3] => { results := [.lit (.bool true)], args := [d1, d2, d3] }
  | _ => none }
def fnExactMapSpaceRow : OpenClaim := { program := "ytcabghamgilafaa", sum := "dc33a570a153a27440787ec3151a15d41a31a4279eff4f70385c406f904dd63d", func := "loop.example/g01128/laws.FnExactMapSpace", spec := "fnExactMapSpace", unfollowed := true, recurses := true, apart := false }
def FnExactMapSpaceSaid : Prop := fnExactMapSpaceRow.holds Try.pinned (OpenSpec.ofChange fnExactMapSpaceSpec)

/-- ITS FALSE NEIGHBOUR: 'it returns false'. Refute it at one input. -/
def fnExactMapSpaceWrong : ChangeSpec := { name := "fnExactMapSpace", fn := fun _ => fun
  | [d1, d2, d3] => { results := [.lit (.bool false)], args := [d1, d2, d3] }
  | _ => none }
def FnExactMapSpaceWrongFalsely : Prop := fnExactMapSpaceRow.holds Try.pinned (OpenSpec.ofChange fnExactMapSpaceWrong)

/-- 'laws.FnCheapTrees': WHATEVER THE INPUT: true; the input reads as it did. -/
def fnCheapTreesSpec : ChangeSpec := { name := "fnCheapTrees", fn := fun _ => fun
  | [d] => { results := [.lit (.bool true)], args := [d] }
  | _ => none }
def fnCheapTreesRow : OpenClaim := { program := "ytcabghamgilafaa", sum := "dc33a570a153a27440787ec3151a15d41a31a4279eff4f70385c406f904dd63d", func := "loop.example/g01128/laws.FnCheapTrees", spec := "fnCheapTrees", unfollowed := true, recurses := true, apart := false }
def FnCheapTreesSaid : Prop := fnCheapTreesRow.holds Try.pinned (OpenSpec.ofChange fnCheapTreesSpec)

/-- ITS FALSE NEIGHBOUR: 'it returns false'. Refute it at one input. -/
def fnCheapTreesWrong : ChangeSpec := { name := "fnCheapTrees", fn := fun _ => fun
  | [d] => { results := [.lit (.bool false)], args := [d] }
  | _ => none }
def FnCheapTreesWrongFalsely : Prop := fnCheapTreesRow.holds Try.pinned (OpenSpec.ofChange fnCheapTreesWrong)

/- THE SECOND FORM. 'bulk': how many values and letters a reading holds, each counted each time it is reached (what is shared counts as often as it is met; a slice's spare places count too). A statement '..UptoSaid' is the law's where the arguments, and the package variables that the reading takes, are together of bulk at most 1048576: NARROWER than '..Said'. Prove '..Said' where nothing that the law and all that it calls make is longer than what came in: it says more and counts as full. Else prove '..UptoSaid'. A law counts once. -/
mutual
def uptoBulk {H : Type} : DataW H → Nat
  | .lit (.string bytes) => bytes.length + 1
  | .lit _ => 1
  | .nil => 1
  | .ptr d => uptoBulk d + 1
  | .slice elems spare => uptoBulkAll elems + uptoBulkAll spare + 1
  | .agg parts => uptoBulkAll parts + 1
  | .iface _ d => uptoBulk d + 1
  | .map entries => uptoBulkEntries entries + 1
  | .held _ => 1
def uptoBulkAll {H : Type} : List (DataW H) → Nat
  | [] => 0
  | d :: r => uptoBulk d + uptoBulkAll r
def uptoBulkEntries {H : Type} : List (Lit × DataW H) → Nat
  | [] => 0
  | x :: r => uptoBulkEntry x + uptoBulkEntries r
def uptoBulkEntry {H : Type} : Lit × DataW H → Nat
  | (.string bytes, d) => bytes.length + uptoBulk d + 1
  | (_, d) => uptoBulk d + 1
 end
def uptoSmall : (H : Type) → List (DataW H) → Bool := fun _ ds => decide (uptoBulkAll ds ≤ 1048576)
def OpenSpec.upto (s : _root_.Go.ChangeSpec) : _root_.Go.OpenSpec := { _root_.Go.OpenSpec.ofChange s with cond := some uptoSmall }

/-- 'laws.FnExactWindingLabels', WHERE WHAT IT READS IS OF BULK AT MOST 1048576: true; the input reads as it did. -/
def fnExactWindingLabelsUptoRow : OpenClaim := { program := "ytcabghamgilafaa", sum := "dc33a570a153a27440787ec3151a15d41a31a4279eff4f70385c406f904dd63d", func := "loop.example/g01128/laws.FnExactWindingLabels", spec := "fnExactWindingLabels", unfollowed := true, recurses := true, apart := false, narrowed := true }
def FnExactWindingLabelsUptoSaid : Prop := fnExactWindingLabelsUptoRow.holds Try.pinned (OpenSpec.upto fnExactWindingLabelsSpec)

/-- 'laws.FnExactMapSpace', WHERE WHAT IT READS IS OF BULK AT MOST 1048576: true; the input reads as it did. -/
def fnExactMapSpaceUptoRow : OpenClaim := { program := "ytcabghamgilafaa", sum := "dc33a570a153a27440787ec3151a15d41a31a4279eff4f70385c406f904dd63d", func := "loop.example/g01128/laws.FnExactMapSpace", spec := "fnExactMapSpace", unfollowed := true, recurses := true, apart := false, narrowed := true }
def FnExactMapSpaceUptoSaid : Prop := fnExactMapSpaceUptoRow.holds Try.pinned (OpenSpec.upto fnExactMapSpaceSpec)

/-- 'laws.FnCheapTrees', WHERE WHAT IT READS IS OF BULK AT MOST 1048576: true; the input reads as it did. -/
def fnCheapTreesUptoRow : OpenClaim := { program := "ytcabghamgilafaa", sum := "dc33a570a153a27440787ec3151a15d41a31a4279eff4f70385c406f904dd63d", func := "loop.example/g01128/laws.FnCheapTrees", spec := "fnCheapTrees", unfollowed := true, recurses := true, apart := false, narrowed := true }
def FnCheapTreesUptoSaid : Prop := fnCheapTreesUptoRow.holds Try.pinned (OpenSpec.upto fnCheapTreesSpec)

end Rows
end Go.Proofs.Ytcabghamgilafaa
