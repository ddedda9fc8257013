-- written by wip/tools of this repo out of the translation (a turned copy of the kit's print): checked by Lean alone
import Derived.Test.YtiiaadgibkpaaaaPFnExactAfterMapx0
import Derived.Test.YtiiaadgibkpaaaaPFnExactAfterMapx1
import Derived.Test.YtiiaadgibkpaaaaPFnExactAfterMapx2
import Derived.Test.YtiiaadgibkpaaaaPFnExactAfterMapx3
import Derived.Test.YtiiaadgibkpaaaaPFnExactAfterMapx4
import Derived.Test.YtiiaadgibkpaaaaPFnExactAfterMapx5
import Derived.Test.YtiiaadgibkpaaaaPFnExactAfterMapx6
import Derived.Test.YtiiaadgibkpaaaaPFnExactAfterMapx7
import Derived.Test.YtiiaadgibkpaaaaPFnExactAfterMapx8
import Derived.Test.YtiiaadgibkpaaaaPFnExactAfterMapx9
import Derived.Test.YtiiaadgibkpaaaaPFnExactAfterMapx10
import Derived.Test.YtiiaadgibkpaaaaPFnExactAfterMapx11
import Derived.Test.YtiiaadgibkpaaaaPFnExactAfterMapx12
namespace Go.Proofs.Ytiiaadgibkpaaaa.PFnExactAfterMap
open Go.RowKit Go.Proofs.YtiiaadgibkpaaaaW.PrintWords Go.Proofs.YtiiaadgibkpaaaaW.PrintLast Go.Proofs.YtiiaadgibkpaaaaW.PrintMore
attribute [local go_sem] max2_int min2_int max_two min_two max_three min_three max_four min_four   -- for this text's walks alone
set_option linter.unusedVariables false
set_option linter.unusedSimpArgs false

end Go.Proofs.Ytiiaadgibkpaaaa.PFnExactAfterMap
