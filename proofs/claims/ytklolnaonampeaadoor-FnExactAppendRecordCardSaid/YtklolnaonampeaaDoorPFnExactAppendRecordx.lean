-- written by wip/tools of this repo out of the translation (a turned copy of the kit's print): checked by Lean alone
import Derived.Test.YtklolnaonampeaaDoorPFnExactAppendRecordx0
import Derived.Test.YtklolnaonampeaaDoorPFnExactAppendRecordx1
import Derived.Test.YtklolnaonampeaaDoorPFnExactAppendRecordx2
import Derived.Test.YtklolnaonampeaaDoorPFnExactAppendRecordx3
import Derived.Test.YtklolnaonampeaaDoorPFnExactAppendRecordx4
import Derived.Test.YtklolnaonampeaaDoorPFnExactAppendRecordx5
import Derived.Test.YtklolnaonampeaaDoorPFnExactAppendRecordx6
import Derived.Test.YtklolnaonampeaaDoorPFnExactAppendRecordx7
namespace Go.Proofs.YtklolnaonampeaaDoor.PFnExactAppendRecord
open Go.RowKit Go.Proofs.YtklolnaonampeaaDoorW.PrintWords Go.Proofs.YtklolnaonampeaaDoorW.PrintLast Go.Proofs.YtklolnaonampeaaDoorW.PrintMore
attribute [local go_sem] max2_int min2_int max_two min_two max_three min_three max_four min_four   -- for this text's walks alone
set_option linter.unusedVariables false
set_option linter.unusedSimpArgs false

end Go.Proofs.YtklolnaonampeaaDoor.PFnExactAppendRecord
