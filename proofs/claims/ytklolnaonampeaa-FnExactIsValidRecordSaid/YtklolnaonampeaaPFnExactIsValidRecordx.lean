-- written by wip/tools of this repo out of the translation (a turned copy of the kit's print): checked by Lean alone
import Derived.Test.YtklolnaonampeaaPFnExactIsValidRecordx0
import Derived.Test.YtklolnaonampeaaPFnExactIsValidRecordx1
namespace Go.Proofs.Ytklolnaonampeaa.PFnExactIsValidRecord
open Go.RowKit Go.Proofs.YtklolnaonampeaaW.PrintWords Go.Proofs.YtklolnaonampeaaW.PrintLast Go.Proofs.YtklolnaonampeaaW.PrintMore
attribute [local go_sem] max2_int min2_int max_two min_two max_three min_three max_four min_four   -- for this text's walks alone
set_option linter.unusedVariables false
set_option linter.unusedSimpArgs false

end Go.Proofs.Ytklolnaonampeaa.PFnExactIsValidRecord
