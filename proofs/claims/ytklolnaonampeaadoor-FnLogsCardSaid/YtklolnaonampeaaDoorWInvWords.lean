-- words of the kit's print, pruned by this repo's wip/tools/prune.py: checked by Lean alone
import Derived.Test.YtklolnaonampeaaDoorWInv
import Derived.Test.YtklolnaonampeaaDoorWFootNe
namespace Go.Proofs.YtklolnaonampeaaDoorW.PrintWords
open Go.RowKit
end Go.Proofs.YtklolnaonampeaaDoorW.PrintWords
namespace Go.Proofs.YtklolnaonampeaaDoorW.PrintLast
section
variable {ops : Array Oper} {a : Act} {o og : Oper} {g : Nat} {t : Tmp} {u : Bool}
end
end Go.Proofs.YtklolnaonampeaaDoorW.PrintLast
