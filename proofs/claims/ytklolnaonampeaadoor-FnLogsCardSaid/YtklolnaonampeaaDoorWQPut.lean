-- words of the kit's print, pruned by this repo's wip/tools/prune.py: checked by Lean alone
import Derived.Test.YtklolnaonampeaaDoorWWords
import Derived.Test.YtklolnaonampeaaDoorWLast
namespace Go.Proofs.YtklolnaonampeaaDoorW.PrintWords
open Go.RowKit
namespace Kd
section
variable {α : Type} {d : Kd α} {e base g o n cap : Nat} {ok okp : Nat → Prop} {w W : World} {v : Value} {xs : List α}
end
section
variable {α : Type} {enc : α → Value} {h1 : ∀ x, (enc x).oneCell' = true} {e base g o n cap : Nat} {ok : Nat → Prop} {W : World} {xs : List α}
end
end Kd
end Go.Proofs.YtklolnaonampeaaDoorW.PrintWords
