-- written by wip/tools of this repo out of the translation (a turned copy of the kit's print): checked by Lean alone
import Derived.Test.YtklolnaonampeaaDoorPFnLogsx0
import Derived.Test.YtklolnaonampeaaDoorPFnLogsx1
import Derived.Test.YtklolnaonampeaaDoorPFnLogsx2
import Derived.Test.YtklolnaonampeaaDoorPFnLogsx3
import Derived.Test.YtklolnaonampeaaDoorPFnLogsx4
import Derived.Test.YtklolnaonampeaaDoorPFnLogsx5
import Derived.Test.YtklolnaonampeaaDoorPFnLogsx6
import Derived.Test.YtklolnaonampeaaDoorPFnLogsx7
import Derived.Test.YtklolnaonampeaaDoorPFnLogsx8
import Derived.Test.YtklolnaonampeaaDoorPFnLogsx9
import Derived.Test.YtklolnaonampeaaDoorPFnLogsx10
namespace Go.Proofs.YtklolnaonampeaaDoor.PFnLogs
open Go.RowKit Go.Proofs.YtklolnaonampeaaDoorW.PrintWords Go.Proofs.YtklolnaonampeaaDoorW.PrintLast Go.Proofs.YtklolnaonampeaaDoorW.PrintMore
attribute [local go_sem] max2_int min2_int max_two min_two max_three min_three max_four min_four   -- for this text's walks alone
set_option linter.unusedVariables false
set_option linter.unusedSimpArgs false

end Go.Proofs.YtklolnaonampeaaDoor.PFnLogs
