-- written by wip/tools of this repo out of the translation (a turned copy of the kit's print): checked by Lean alone
import Derived.Test.YtklolnaonampeaaProg
import Derived.Below
import Derived.Deep.Draws
import Derived.Deep.AppendLies
import Derived.Maps.AppendAt
import Derived.OwnWalk
import Derived.Laws.BytesArg
import Derived.Laws.MakeOwn
import Derived.Laws.OwnMore
import Derived.Deep.OwnRows
import Derived.Tactics
import Derived.Lib.ConvBytes
import Derived.Laws.Slices
import Derived.WalkKit
import Derived.KernelRfl
import Derived.RowKit3
import Derived.Deep.LoopGhost
import Derived.Deep.QuietTactic
import Derived.BigQuiet
import Derived.WideLaws
import Derived.Deep.DeepCutAuto
import Derived.Deep.CutBlock
import Derived.Deep.RegionHeld3
import Derived.Laws.Rows
import Derived.Lib.AppendStr
import Derived.ArgAppend
import Derived.Laws.IdiomCopy
import Derived.OrdersHeld
import Derived.Laws.BitsLemmas
import Derived.RowKit
import Derived.OrdersHeld
import Derived.Laws.BitsLemmas
import Derived.Test.YtklolnaonampeaaGiven
import Derived.Test.YtklolnaonampeaaWWords
import Derived.Test.YtklolnaonampeaaWLast
import Derived.Test.YtklolnaonampeaaWTab
import Derived.Test.YtklolnaonampeaaWFour
import Derived.Test.YtklolnaonampeaaWQPut
import Derived.Test.YtklolnaonampeaaWApart
import Derived.Test.YtklolnaonampeaaWArr
import Derived.Test.YtklolnaonampeaaWZeros
import Derived.Test.YtklolnaonampeaaWFoot
import Derived.Test.YtklolnaonampeaaWKept
import Derived.Test.YtklolnaonampeaaWShare
import Derived.Test.YtklolnaonampeaaWN
import Derived.Test.YtklolnaonampeaaWFootNe
import Derived.Test.YtklolnaonampeaaWAt
import Derived.Test.YtklolnaonampeaaWEqStruct
import Derived.Test.YtklolnaonampeaaWRepsOne
import Derived.Test.YtklolnaonampeaaWInv
import Derived.Test.YtklolnaonampeaaWInvWords
import Derived.Test.YtklolnaonampeaaWGuard
import Derived.Test.YtklolnaonampeaaWNEv
import Derived.Test.YtklolnaonampeaaWMore
namespace Go.Proofs.Ytklolnaonampeaa.PFnExactIsValidRecord
open Go.RowKit Go.Proofs.YtklolnaonampeaaW.PrintWords Go.Proofs.YtklolnaonampeaaW.PrintLast Go.Proofs.YtklolnaonampeaaW.PrintMore
attribute [local go_sem] max2_int min2_int max_two min_two max_three min_three max_four min_four   -- for this text's walks alone
set_option linter.unusedVariables false
set_option linter.unusedSimpArgs false



def errW : Option Int → Value
  | none => .nilIface
  | some c => .iface 0 (.int .i64 c)
theorem errW_none : errW none = .nilIface := rfl
theorem errW_some (c : Int) : errW (some c) = .iface 0 (.int .i64 c) := rfl

-- the values' own types

end Go.Proofs.Ytklolnaonampeaa.PFnExactIsValidRecord
