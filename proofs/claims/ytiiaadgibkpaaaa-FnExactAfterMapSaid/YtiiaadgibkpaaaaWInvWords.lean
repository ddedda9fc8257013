-- words of the kit's print, pruned by this repo's wip/tools/prune.py: checked by Lean alone
import Derived.Test.YtiiaadgibkpaaaaWInv
import Derived.Test.YtiiaadgibkpaaaaWFootNe
namespace Go.Proofs.YtiiaadgibkpaaaaW.PrintWords
open Go.RowKit
end Go.Proofs.YtiiaadgibkpaaaaW.PrintWords
namespace Go.Proofs.YtiiaadgibkpaaaaW.PrintLast
section
variable {ops : Array Oper} {a : Act} {o og : Oper} {g : Nat} {t : Tmp} {u : Bool}
end
end Go.Proofs.YtiiaadgibkpaaaaW.PrintLast
