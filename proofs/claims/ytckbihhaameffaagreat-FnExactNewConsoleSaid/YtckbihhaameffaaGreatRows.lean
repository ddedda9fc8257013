/-
  No cell of these rows narrows 'for every input' (looked for: loops, veiled, ifaces, maps, wideKeys, modest, calm, conditions, laid).
  DERIVED. THE GIVEN ROWS OF THIS SEAT. 7 by the template 'for every input the law returns true; each argument reads behind the call as it read before'; 0 by the template 'total and deterministic' (their statements: YtckbihhaameffaaGreatTotals.lean).
  GIVEN WITH THE SEED: the statements are not yours to turn. If you find one false, say at which input.
  Laid BY PROGRAM, IN A SANDBOX (cutbox-rows.mjs): the forced cells as the released guide's own fill.sh prints them over the translation b3dd0073b29b1552… (all of the seat's roots in one cut). By AI agents, Wed Nov 11 2026. No macro, syntax, notation, axiom, sorry.
-/
import Derived.Test.YtckbihhaameffaaGreatChecked
import GoSem.Claim
import GoSem.ClaimJoined
import GoSem.ClaimMapViews
import Derived.JoinedTies
import Derived.KernelRfl
namespace Go.Proofs.YtckbihhaameffaaGreat
/- THE CELL 'sum', in the pinned program and in every row, IS THE sha256 OF THE DUMP (.gsa) THAT YtckbihhaameffaaGreatProg.lean LOADS. Nothing in Lean hashes anything: it is a label: what it is worth is what the hold of that sum in a sandbox is worth. -/
noncomputable def Tryz.pinned : Pinned := { name := "ytckbihhaameffaagreat", sum := "b3dd0073b29b1552b313328de8dfc3059989ea04f21c626c2533ad18625601d5", checked := Tryz.checked }
namespace Rows
def none {H : Type} : Left H := { results := [], args := [] }

/-- 'laws.FnExactNewConsole': WHATEVER THE INPUT: true; the input reads as it did. -/
def fnExactNewConsoleSpec : ChangeSpec := { name := "fnExactNewConsole", fn := fun _ => fun
  | [d] => { results := [.lit (.bool true)], args := [d] }
  | _ => none }
def fnExactNewConsoleRow : OpenClaim := { program := "ytckbihhaameffaagreat", sum := "b3dd0073b29b1552b313328de8dfc3059989ea04f21c626c2533ad18625601d5", func := "loop.example/g01128/laws.FnExactNewConsole", spec := "fnExactNewConsole", unfollowed := true, recurses := true, apart := false }
def FnExactNewConsoleSaid : Prop := fnExactNewConsoleRow.holds Tryz.pinned (OpenSpec.ofChange fnExactNewConsoleSpec)

/-- ITS FALSE NEIGHBOUR: 'it returns false'. Refute it at one input. -/
def fnExactNewConsoleWrong : ChangeSpec := { name := "fnExactNewConsole", fn := fun _ => fun
  | [d] => { results := [.lit (.bool false)], args := [d] }
  | _ => none }
def FnExactNewConsoleWrongFalsely : Prop := fnExactNewConsoleRow.holds Tryz.pinned (OpenSpec.ofChange fnExactNewConsoleWrong)

/-- 'laws.FnExactBoardHome': WHATEVER THE INPUT: true; the input reads as it did. -/
def fnExactBoardHomeSpec : ChangeSpec := { name := "fnExactBoardHome", fn := fun _ => fun
  | [d] => { results := [.lit (.bool true)], args := [d] }
  | _ => none }
def fnExactBoardHomeRow : OpenClaim := { program := "ytckbihhaameffaagreat", sum := "b3dd0073b29b1552b313328de8dfc3059989ea04f21c626c2533ad18625601d5", func := "loop.example/g01128/laws.FnExactBoardHome", spec := "fnExactBoardHome", unfollowed := true, recurses := true, apart := false }
def FnExactBoardHomeSaid : Prop := fnExactBoardHomeRow.holds Tryz.pinned (OpenSpec.ofChange fnExactBoardHomeSpec)

/-- ITS FALSE NEIGHBOUR: 'it returns false'. Refute it at one input. -/
def fnExactBoardHomeWrong : ChangeSpec := { name := "fnExactBoardHome", fn := fun _ => fun
  | [d] => { results := [.lit (.bool false)], args := [d] }
  | _ => none }
def FnExactBoardHomeWrongFalsely : Prop := fnExactBoardHomeRow.holds Tryz.pinned (OpenSpec.ofChange fnExactBoardHomeWrong)

/-- 'laws.FnExactTokensTo': WHATEVER THE INPUT: true; the input reads as it did. -/
def fnExactTokensToSpec : ChangeSpec := { name := "fnExactTokensTo", fn := fun _ => fun
  | [d1, d2] => { results := [.lit (.bool true)], args := [d1, d2] }
  | _ => none }
def fnExactTokensToRow : OpenClaim := { program := "ytckbihhaameffaagreat", sum := "b3dd0073b29b1552b313328de8dfc3059989ea04f21c626c2533ad18625601d5", func := "loop.example/g01128/laws.FnExactTokensTo", spec := "fnExactTokensTo", unfollowed := true, recurses := true, apart := false }
def FnExactTokensToSaid : Prop := fnExactTokensToRow.holds Tryz.pinned (OpenSpec.ofChange fnExactTokensToSpec)

/-- ITS FALSE NEIGHBOUR: 'it returns false'. Refute it at one input. -/
def fnExactTokensToWrong : ChangeSpec := { name := "fnExactTokensTo", fn := fun _ => fun
  | [d1, d2] => { results := [.lit (.bool false)], args := [d1, d2] }
  | _ => none }
def FnExactTokensToWrongFalsely : Prop := fnExactTokensToRow.holds Tryz.pinned (OpenSpec.ofChange fnExactTokensToWrong)

/-- 'laws.FnExactEditStudio': WHATEVER THE INPUT: true; the input reads as it did. -/
def fnExactEditStudioSpec : ChangeSpec := { name := "fnExactEditStudio", fn := fun _ => fun
  | [d1, d2] => { results := [.lit (.bool true)], args := [d1, d2] }
  | _ => none }
def fnExactEditStudioRow : OpenClaim := { program := "ytckbihhaameffaagreat", sum := "b3dd0073b29b1552b313328de8dfc3059989ea04f21c626c2533ad18625601d5", func := "loop.example/g01128/laws.FnExactEditStudio", spec := "fnExactEditStudio", unfollowed := true, recurses := true, apart := false }
def FnExactEditStudioSaid : Prop := fnExactEditStudioRow.holds Tryz.pinned (OpenSpec.ofChange fnExactEditStudioSpec)

/-- ITS FALSE NEIGHBOUR: 'it returns false'. Refute it at one input. -/
def fnExactEditStudioWrong : ChangeSpec := { name := "fnExactEditStudio", fn := fun _ => fun
  | [d1, d2] => { results := [.lit (.bool false)], args := [d1, d2] }
  | _ => none }
def FnExactEditStudioWrongFalsely : Prop := fnExactEditStudioRow.holds Tryz.pinned (OpenSpec.ofChange fnExactEditStudioWrong)

/-- 'laws.FnExactEditAll': WHATEVER THE INPUT: true; the input reads as it did. -/
def fnExactEditAllSpec : ChangeSpec := { name := "fnExactEditAll", fn := fun _ => fun
  | [d1, d2] => { results := [.lit (.bool true)], args := [d1, d2] }
  | _ => none }
def fnExactEditAllRow : OpenClaim := { program := "ytckbihhaameffaagreat", sum := "b3dd0073b29b1552b313328de8dfc3059989ea04f21c626c2533ad18625601d5", func := "loop.example/g01128/laws.FnExactEditAll", spec := "fnExactEditAll", unfollowed := true, recurses := true, apart := false }
def FnExactEditAllSaid : Prop := fnExactEditAllRow.holds Tryz.pinned (OpenSpec.ofChange fnExactEditAllSpec)

/-- ITS FALSE NEIGHBOUR: 'it returns false'. Refute it at one input. -/
def fnExactEditAllWrong : ChangeSpec := { name := "fnExactEditAll", fn := fun _ => fun
  | [d1, d2] => { results := [.lit (.bool false)], args := [d1, d2] }
  | _ => none }
def FnExactEditAllWrongFalsely : Prop := fnExactEditAllRow.holds Tryz.pinned (OpenSpec.ofChange fnExactEditAllWrong)

/-- 'laws.FnStudios': WHATEVER THE INPUT: true; the input reads as it did. -/
def fnStudiosSpec : ChangeSpec := { name := "fnStudios", fn := fun _ => fun
  | [d] => { results := [.lit (.bool true)], args := [d] }
  | _ => none }
def fnStudiosRow : OpenClaim := { program := "ytckbihhaameffaagreat", sum := "b3dd0073b29b1552b313328de8dfc3059989ea04f21c626c2533ad18625601d5", func := "loop.example/g01128/laws.FnStudios", spec := "fnStudios", unfollowed := true, recurses := true, apart := false }
def FnStudiosSaid : Prop := fnStudiosRow.holds Tryz.pinned (OpenSpec.ofChange fnStudiosSpec)

/-- ITS FALSE NEIGHBOUR: 'it returns false'. Refute it at one input. -/
def fnStudiosWrong : ChangeSpec := { name := "fnStudios", fn := fun _ => fun
  | [d] => { results := [.lit (.bool false)], args := [d] }
  | _ => none }
def FnStudiosWrongFalsely : Prop := fnStudiosRow.holds Tryz.pinned (OpenSpec.ofChange fnStudiosWrong)

/-- 'laws.FnStudioWalks': WHATEVER THE INPUT: true; the input reads as it did. -/
def fnStudioWalksSpec : ChangeSpec := { name := "fnStudioWalks", fn := fun _ => fun
  | [d] => { results := [.lit (.bool true)], args := [d] }
  | _ => none }
def fnStudioWalksRow : OpenClaim := { program := "ytckbihhaameffaagreat", sum := "b3dd0073b29b1552b313328de8dfc3059989ea04f21c626c2533ad18625601d5", func := "loop.example/g01128/laws.FnStudioWalks", spec := "fnStudioWalks", unfollowed := true, recurses := true, apart := false }
def FnStudioWalksSaid : Prop := fnStudioWalksRow.holds Tryz.pinned (OpenSpec.ofChange fnStudioWalksSpec)

/-- ITS FALSE NEIGHBOUR: 'it returns false'. Refute it at one input. -/
def fnStudioWalksWrong : ChangeSpec := { name := "fnStudioWalks", fn := fun _ => fun
  | [d] => { results := [.lit (.bool false)], args := [d] }
  | _ => none }
def FnStudioWalksWrongFalsely : Prop := fnStudioWalksRow.holds Tryz.pinned (OpenSpec.ofChange fnStudioWalksWrong)

/- THE SECOND FORM. 'bulk': how many values and letters a reading holds, each counted each time it is reached (what is shared counts as often as it is met; a slice's spare places count too). A statement '..UptoSaid' is the law's where the arguments, and the package variables that the reading takes, are together of bulk at most 1048576: NARROWER than '..Said'. Prove '..Said' where nothing that the law and all that it calls make is longer than what came in: it says more and counts as full. Else prove '..UptoSaid'. A law counts once. -/
mutual
def uptoBulk {H : Type} : DataW H → Nat
  | .lit (.string bytes) => bytes.length + 1
  | .lit _ => 1
  | .nil => 1
  | .ptr d => uptoBulk d + 1
  | .slice elems spare => uptoBulkAll elems + uptoBulkAll spare + 1
  | .agg parts => uptoBulkAll parts + 1
  | .iface _ d => uptoBulk d + 1
  | .map entries => uptoBulkEntries entries + 1
  | .held _ => 1
def uptoBulkAll {H : Type} : List (DataW H) → Nat
  | [] => 0
  | d :: r => uptoBulk d + uptoBulkAll r
def uptoBulkEntries {H : Type} : List (Lit × DataW H) → Nat
  | [] => 0
  | x :: r => uptoBulkEntry x + uptoBulkEntries r
def uptoBulkEntry {H : Type} : Lit × DataW H → Nat
  | (.string bytes, d) => bytes.length + uptoBulk d + 1
  | (_, d) => uptoBulk d + 1
 end
def uptoSmall : (H : Type) → List (DataW H) → Bool := fun _ ds => decide (uptoBulkAll ds ≤ 1048576)
def OpenSpec.upto (s : _root_.Go.ChangeSpec) : _root_.Go.OpenSpec := { _root_.Go.OpenSpec.ofChange s with cond := some uptoSmall }

/-- 'laws.FnExactNewConsole', WHERE WHAT IT READS IS OF BULK AT MOST 1048576: true; the input reads as it did. -/
def fnExactNewConsoleUptoRow : OpenClaim := { program := "ytckbihhaameffaagreat", sum := "b3dd0073b29b1552b313328de8dfc3059989ea04f21c626c2533ad18625601d5", func := "loop.example/g01128/laws.FnExactNewConsole", spec := "fnExactNewConsole", unfollowed := true, recurses := true, apart := false, narrowed := true }
def FnExactNewConsoleUptoSaid : Prop := fnExactNewConsoleUptoRow.holds Tryz.pinned (OpenSpec.upto fnExactNewConsoleSpec)

/-- 'laws.FnExactBoardHome', WHERE WHAT IT READS IS OF BULK AT MOST 1048576: true; the input reads as it did. -/
def fnExactBoardHomeUptoRow : OpenClaim := { program := "ytckbihhaameffaagreat", sum := "b3dd0073b29b1552b313328de8dfc3059989ea04f21c626c2533ad18625601d5", func := "loop.example/g01128/laws.FnExactBoardHome", spec := "fnExactBoardHome", unfollowed := true, recurses := true, apart := false, narrowed := true }
def FnExactBoardHomeUptoSaid : Prop := fnExactBoardHomeUptoRow.holds Tryz.pinned (OpenSpec.upto fnExactBoardHomeSpec)

/-- 'laws.FnExactTokensTo', WHERE WHAT IT READS IS OF BULK AT MOST 1048576: true; the input reads as it did. -/
def fnExactTokensToUptoRow : OpenClaim := { program := "ytckbihhaameffaagreat", sum := "b3dd0073b29b1552b313328de8dfc3059989ea04f21c626c2533ad18625601d5", func := "loop.example/g01128/laws.FnExactTokensTo", spec := "fnExactTokensTo", unfollowed := true, recurses := true, apart := false, narrowed := true }
def FnExactTokensToUptoSaid : Prop := fnExactTokensToUptoRow.holds Tryz.pinned (OpenSpec.upto fnExactTokensToSpec)

/-- 'laws.FnExactEditStudio', WHERE WHAT IT READS IS OF BULK AT MOST 1048576: true; the input reads as it did. -/
def fnExactEditStudioUptoRow : OpenClaim := { program := "ytckbihhaameffaagreat", sum := "b3dd0073b29b1552b313328de8dfc3059989ea04f21c626c2533ad18625601d5", func := "loop.example/g01128/laws.FnExactEditStudio", spec := "fnExactEditStudio", unfollowed := true, recurses := true, apart := false, narrowed := true }
def FnExactEditStudioUptoSaid : Prop := fnExactEditStudioUptoRow.holds Tryz.pinned (OpenSpec.upto fnExactEditStudioSpec)

/-- 'laws.FnExactEditAll', WHERE WHAT IT READS IS OF BULK AT MOST 1048576: true; the input reads as it did. -/
def fnExactEditAllUptoRow : OpenClaim := { program := "ytckbihhaameffaagreat", sum := "b3dd0073b29b1552b313328de8dfc3059989ea04f21c626c2533ad18625601d5", func := "loop.example/g01128/laws.FnExactEditAll", spec := "fnExactEditAll", unfollowed := true, recurses := true, apart := false, narrowed := true }
def FnExactEditAllUptoSaid : Prop := fnExactEditAllUptoRow.holds Tryz.pinned (OpenSpec.upto fnExactEditAllSpec)

/-- 'laws.FnStudios', WHERE WHAT IT READS IS OF BULK AT MOST 1048576: true; the input reads as it did. -/
def fnStudiosUptoRow : OpenClaim := { program := "ytckbihhaameffaagreat", sum := "b3dd0073b29b1552b313328de8dfc3059989ea04f21c626c2533ad18625601d5", func := "loop.example/g01128/laws.FnStudios", spec := "fnStudios", unfollowed := true, recurses := true, apart := false, narrowed := true }
def FnStudiosUptoSaid : Prop := fnStudiosUptoRow.holds Tryz.pinned (OpenSpec.upto fnStudiosSpec)

/-- 'laws.FnStudioWalks', WHERE WHAT IT READS IS OF BULK AT MOST 1048576: true; the input reads as it did. -/
def fnStudioWalksUptoRow : OpenClaim := { program := "ytckbihhaameffaagreat", sum := "b3dd0073b29b1552b313328de8dfc3059989ea04f21c626c2533ad18625601d5", func := "loop.example/g01128/laws.FnStudioWalks", spec := "fnStudioWalks", unfollowed := true, recurses := true, apart := false, narrowed := true }
def FnStudioWalksUptoSaid : Prop := fnStudioWalksUptoRow.holds Tryz.pinned (OpenSpec.upto fnStudioWalksSpec)

end Rows
end Go.Proofs.YtckbihhaameffaaGreat
