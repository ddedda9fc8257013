-- written by wip/tools of this repo out of the translation (a turned copy of the kit's print): checked by Lean alone
import Derived.Test.YtiiaadgibkpaaaaPFnExactCycleOfx0
import Derived.Test.YtiiaadgibkpaaaaPFnExactCycleOfx1
import Derived.Test.YtiiaadgibkpaaaaPFnExactCycleOfx2
import Derived.Test.YtiiaadgibkpaaaaPFnExactCycleOfx3
import Derived.Test.YtiiaadgibkpaaaaPFnExactCycleOfx4
import Derived.Test.YtiiaadgibkpaaaaPFnExactCycleOfx5
namespace Go.Proofs.Ytiiaadgibkpaaaa.PFnExactCycleOf
open Go.RowKit Go.Proofs.YtiiaadgibkpaaaaW.PrintWords Go.Proofs.YtiiaadgibkpaaaaW.PrintLast Go.Proofs.YtiiaadgibkpaaaaW.PrintMore
attribute [local go_sem] max2_int min2_int max_two min_two max_three min_three max_four min_four   -- for this text's walks alone
set_option linter.unusedVariables false
set_option linter.unusedSimpArgs false

end Go.Proofs.Ytiiaadgibkpaaaa.PFnExactCycleOf
