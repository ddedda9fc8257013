-- written by wip/tools of this repo out of the translation (a turned copy of the kit's print): checked by Lean alone
import Derived.Test.YtiiaadgibkpaaaaPFnExactIsMapx0
import Derived.Test.YtiiaadgibkpaaaaPFnExactIsMapx1
import Derived.Test.YtiiaadgibkpaaaaPFnExactIsMapx2
import Derived.Test.YtiiaadgibkpaaaaPFnExactIsMapx3
import Derived.Test.YtiiaadgibkpaaaaPFnExactIsMapx4
import Derived.Test.YtiiaadgibkpaaaaPFnExactIsMapx5
import Derived.Test.YtiiaadgibkpaaaaPFnExactIsMapx6
import Derived.Test.YtiiaadgibkpaaaaPFnExactIsMapx7
import Derived.Test.YtiiaadgibkpaaaaPFnExactIsMapx8
import Derived.Test.YtiiaadgibkpaaaaPFnExactIsMapx9
import Derived.Test.YtiiaadgibkpaaaaPFnExactIsMapx10
import Derived.Test.YtiiaadgibkpaaaaPFnExactIsMapx11
namespace Go.Proofs.Ytiiaadgibkpaaaa.PFnExactIsMap
open Go.RowKit Go.Proofs.YtiiaadgibkpaaaaW.PrintWords Go.Proofs.YtiiaadgibkpaaaaW.PrintLast Go.Proofs.YtiiaadgibkpaaaaW.PrintMore
attribute [local go_sem] max2_int min2_int max_two min_two max_three min_three max_four min_four   -- for this text's walks alone
set_option linter.unusedVariables false
set_option linter.unusedSimpArgs false

end Go.Proofs.Ytiiaadgibkpaaaa.PFnExactIsMap
