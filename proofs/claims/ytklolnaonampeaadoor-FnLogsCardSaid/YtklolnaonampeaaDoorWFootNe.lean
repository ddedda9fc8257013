-- words of the kit's print, pruned by this repo's wip/tools/prune.py: checked by Lean alone
import Derived.Test.YtklolnaonampeaaDoorWN
namespace Go.Proofs.YtklolnaonampeaaDoorW.PrintWords
open Go.RowKit
namespace Kd
section
variable {α : Type} {d : Kd α} {W : World} {g n : Nat} {S ok : Nat → Prop} {A : Option Addr} {ad : Addr} {xs : List α}
end
end Kd
end Go.Proofs.YtklolnaonampeaaDoorW.PrintWords
