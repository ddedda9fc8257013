-- written by wip/tools of this repo out of the translation (a turned copy of the kit's print): checked by Lean alone
import Derived.Test.YtiiaadgibkpaaaaPFnExactWayCostx0
import Derived.Test.YtiiaadgibkpaaaaPFnExactWayCostx1
import Derived.Test.YtiiaadgibkpaaaaPFnExactWayCostx2
import Derived.Test.YtiiaadgibkpaaaaPFnExactWayCostx3
import Derived.Test.YtiiaadgibkpaaaaPFnExactWayCostx4
import Derived.Test.YtiiaadgibkpaaaaPFnExactWayCostx5
import Derived.Test.YtiiaadgibkpaaaaPFnExactWayCostx6
import Derived.Test.YtiiaadgibkpaaaaPFnExactWayCostx7
import Derived.Test.YtiiaadgibkpaaaaPFnExactWayCostx8
import Derived.Test.YtiiaadgibkpaaaaPFnExactWayCostx9
import Derived.Test.YtiiaadgibkpaaaaPFnExactWayCostx10
import Derived.Test.YtiiaadgibkpaaaaPFnExactWayCostx11
import Derived.Test.YtiiaadgibkpaaaaPFnExactWayCostx12
import Derived.Test.YtiiaadgibkpaaaaPFnExactWayCostx13
namespace Go.Proofs.Ytiiaadgibkpaaaa.PFnExactWayCost
open Go.RowKit Go.Proofs.YtiiaadgibkpaaaaW.PrintWords Go.Proofs.YtiiaadgibkpaaaaW.PrintLast Go.Proofs.YtiiaadgibkpaaaaW.PrintMore
attribute [local go_sem] max2_int min2_int max_two min_two max_three min_three max_four min_four   -- for this text's walks alone
set_option linter.unusedVariables false
set_option linter.unusedSimpArgs false

end Go.Proofs.Ytiiaadgibkpaaaa.PFnExactWayCost
