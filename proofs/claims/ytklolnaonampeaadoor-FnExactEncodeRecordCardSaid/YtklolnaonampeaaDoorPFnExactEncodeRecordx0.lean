-- written by wip/tools of this repo out of the translation (a turned copy of the kit's print): checked by Lean alone
import Derived.Test.YtklolnaonampeaaDoorProg
import Derived.Test.YtklolnaonampeaaDoorWX
import Derived.Test.YtklolnaonampeaaDoorWY
import Derived.Test.YtklolnaonampeaaDoorWZ
import Derived.Below
import Derived.Deep.Draws
import Derived.Deep.AppendLies
import Derived.Maps.AppendAt
import Derived.OwnWalk
import Derived.Laws.BytesArg
import Derived.Laws.MakeOwn
import Derived.Laws.OwnMore
import Derived.Deep.OwnRows
import Derived.Tactics
import Derived.Lib.ConvBytes
import Derived.Laws.Slices
import Derived.WalkKit
import Derived.KernelRfl
import Derived.RowKit3
import Derived.Deep.LoopGhost
import Derived.Deep.QuietTactic
import Derived.BigQuiet
import Derived.WideLaws
import Derived.Deep.DeepCutAuto
import Derived.Deep.CutBlock
import Derived.Deep.RegionHeld3
import Derived.Laws.Rows
import Derived.Lib.AppendStr
import Derived.ArgAppend
import Derived.Laws.IdiomCopy
import Derived.OrdersHeld
import Derived.Laws.BitsLemmas
import Derived.RowKit
import Derived.OrdersHeld
import Derived.Laws.BitsLemmas
import Derived.Test.YtklolnaonampeaaDoorGiven
import Derived.Test.YtklolnaonampeaaDoorWWords
import Derived.Test.YtklolnaonampeaaDoorWLast
import Derived.Test.YtklolnaonampeaaDoorWTab
import Derived.Test.YtklolnaonampeaaDoorWFour
import Derived.Test.YtklolnaonampeaaDoorWQPut
import Derived.Test.YtklolnaonampeaaDoorWApart
import Derived.Test.YtklolnaonampeaaDoorWArr
import Derived.Test.YtklolnaonampeaaDoorWZeros
import Derived.Test.YtklolnaonampeaaDoorWFoot
import Derived.Test.YtklolnaonampeaaDoorWKept
import Derived.Test.YtklolnaonampeaaDoorWShare
import Derived.Test.YtklolnaonampeaaDoorWN
import Derived.Test.YtklolnaonampeaaDoorWFootNe
import Derived.Test.YtklolnaonampeaaDoorWAt
import Derived.Test.YtklolnaonampeaaDoorWEqStruct
import Derived.Test.YtklolnaonampeaaDoorWRepsOne
import Derived.Test.YtklolnaonampeaaDoorWInv
import Derived.Test.YtklolnaonampeaaDoorWInvWords
import Derived.Test.YtklolnaonampeaaDoorWGuard
import Derived.Test.YtklolnaonampeaaDoorWNEv
import Derived.Test.YtklolnaonampeaaDoorWMore
namespace Go.Proofs.YtklolnaonampeaaDoor.PFnExactEncodeRecord
open Go.RowKit Go.Proofs.YtklolnaonampeaaDoorW.PrintWords Go.Proofs.YtklolnaonampeaaDoorW.PrintLast Go.Proofs.YtklolnaonampeaaDoorW.PrintMore
attribute [local go_sem] max2_int min2_int max_two min_two max_three min_three max_four min_four   -- for this text's walks alone
set_option linter.unusedVariables false
set_option linter.unusedSimpArgs false



def errW : Option Int → Value
 | none => .nilIface
 | some c => .iface 0 (.int .i64 c)
theorem errW_none : errW none = .nilIface := rfl
theorem errW_some (c : Int) : errW (some c) = .iface 0 (.int .i64 c) := rfl

-- the values' own types

end Go.Proofs.YtklolnaonampeaaDoor.PFnExactEncodeRecord
