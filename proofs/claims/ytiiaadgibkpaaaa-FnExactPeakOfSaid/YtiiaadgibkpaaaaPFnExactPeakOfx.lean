-- written by wip/tools of this repo out of the translation (a turned copy of the kit's print): checked by Lean alone
import Derived.Test.YtiiaadgibkpaaaaPFnExactPeakOfx0
import Derived.Test.YtiiaadgibkpaaaaPFnExactPeakOfx1
import Derived.Test.YtiiaadgibkpaaaaPFnExactPeakOfx2
import Derived.Test.YtiiaadgibkpaaaaPFnExactPeakOfx3
import Derived.Test.YtiiaadgibkpaaaaPFnExactPeakOfx4
import Derived.Test.YtiiaadgibkpaaaaPFnExactPeakOfx5
import Derived.Test.YtiiaadgibkpaaaaPFnExactPeakOfx6
import Derived.Test.YtiiaadgibkpaaaaPFnExactPeakOfx7
import Derived.Test.YtiiaadgibkpaaaaPFnExactPeakOfx8
import Derived.Test.YtiiaadgibkpaaaaPFnExactPeakOfx9
import Derived.Test.YtiiaadgibkpaaaaPFnExactPeakOfx10
import Derived.Test.YtiiaadgibkpaaaaPFnExactPeakOfx11
import Derived.Test.YtiiaadgibkpaaaaPFnExactPeakOfx12
import Derived.Test.YtiiaadgibkpaaaaPFnExactPeakOfx13
namespace Go.Proofs.Ytiiaadgibkpaaaa.PFnExactPeakOf
open Go.RowKit Go.Proofs.YtiiaadgibkpaaaaW.PrintWords Go.Proofs.YtiiaadgibkpaaaaW.PrintLast Go.Proofs.YtiiaadgibkpaaaaW.PrintMore
attribute [local go_sem] max2_int min2_int max_two min_two max_three min_three max_four min_four   -- for this text's walks alone
set_option linter.unusedVariables false
set_option linter.unusedSimpArgs false

end Go.Proofs.Ytiiaadgibkpaaaa.PFnExactPeakOf
