-- words of the kit's print, pruned by this repo's wip/tools/prune.py: checked by Lean alone
import Derived.Test.YtiiaadgibkpaaaaWWords
import Derived.Laws.StructEq
namespace Go.Proofs.YtiiaadgibkpaaaaW.PrintWords
open Go.RowKit
section
variable {P : Program} {d : Nat} {xs ys : Array Value} {f : Field} {fs : List Field} {a b : Value} {r s : Bool} {w : World}
end
end Go.Proofs.YtiiaadgibkpaaaaW.PrintWords
