-- written by wip/tools of this repo out of the translation (a turned copy of the kit's print): checked by Lean alone
import Derived.Test.YtiiaadgibkpaaaaPFnExactAreFairPricesx0
import Derived.Test.YtiiaadgibkpaaaaPFnExactAreFairPricesx1
import Derived.Test.YtiiaadgibkpaaaaPFnExactAreFairPricesx2
import Derived.Test.YtiiaadgibkpaaaaPFnExactAreFairPricesx3
import Derived.Test.YtiiaadgibkpaaaaPFnExactAreFairPricesx4
import Derived.Test.YtiiaadgibkpaaaaPFnExactAreFairPricesx5
import Derived.Test.YtiiaadgibkpaaaaPFnExactAreFairPricesx6
import Derived.Test.YtiiaadgibkpaaaaPFnExactAreFairPricesx7
import Derived.Test.YtiiaadgibkpaaaaPFnExactAreFairPricesx8
import Derived.Test.YtiiaadgibkpaaaaPFnExactAreFairPricesx9
import Derived.Test.YtiiaadgibkpaaaaPFnExactAreFairPricesx10
namespace Go.Proofs.Ytiiaadgibkpaaaa.PFnExactAreFairPrices
open Go.RowKit Go.Proofs.YtiiaadgibkpaaaaW.PrintWords Go.Proofs.YtiiaadgibkpaaaaW.PrintLast Go.Proofs.YtiiaadgibkpaaaaW.PrintMore
attribute [local go_sem] max2_int min2_int max_two min_two max_three min_three max_four min_four   -- for this text's walks alone
set_option linter.unusedVariables false
set_option linter.unusedSimpArgs false

end Go.Proofs.Ytiiaadgibkpaaaa.PFnExactAreFairPrices
