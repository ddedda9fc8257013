-- words of the kit's print, pruned by this repo's wip/tools/prune.py: checked by Lean alone
import Derived.Test.YtklolnaonampeaaDoorWX
import Derived.ChangeKeysEq
namespace Go.Proofs.YtklolnaonampeaaDoorW.PrintWords
open Go.RowKit
section
variable {P : Program} {d : Nat} {xs ys : Array Value} {e : TypeId} {c i : Nat} {is : List Nat} {a b : Value} {r s : Bool} {w : World}
end
end Go.Proofs.YtklolnaonampeaaDoorW.PrintWords
