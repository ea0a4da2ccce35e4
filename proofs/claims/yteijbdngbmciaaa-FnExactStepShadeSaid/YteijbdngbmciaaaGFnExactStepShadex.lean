-- Written by the session's own program (gen.py) out of the translation's print. Lean checks it.
import Derived.Test.YteijbdngbmciaaaGFnExactStepShadex0
import Derived.Test.YteijbdngbmciaaaGFnExactStepShadex1
import Derived.Test.YteijbdngbmciaaaGFnExactStepShadex2
import Derived.Test.YteijbdngbmciaaaGFnExactStepShadex3
namespace Go.Proofs.Yteijbdngbmciaaa.GFnExactStepShade
open Go.RowKit Go.Proofs.YteijbdngbmciaaaW.PrintWords Go.Proofs.YteijbdngbmciaaaW.PrintLast Go.Proofs.YteijbdngbmciaaaW.PrintMore
attribute [local go_sem] max2_int min2_int max_two min_two max_three min_three max_four min_four   -- for this text's walks alone
set_option linter.unusedVariables false
set_option linter.unusedSimpArgs false

end Go.Proofs.Yteijbdngbmciaaa.GFnExactStepShade
