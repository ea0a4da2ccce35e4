-- Written by the session's own program (gen.py) out of the translation's print. Lean checks it.
import Derived.Test.YteijbdngbmciaaaGFnExactScaleRecipex0
import Derived.Test.YteijbdngbmciaaaGFnExactScaleRecipex1
import Derived.Test.YteijbdngbmciaaaGFnExactScaleRecipex2
import Derived.Test.YteijbdngbmciaaaGFnExactScaleRecipex3
import Derived.Test.YteijbdngbmciaaaGFnExactScaleRecipex4
import Derived.Test.YteijbdngbmciaaaGFnExactScaleRecipex5
import Derived.Test.YteijbdngbmciaaaGFnExactScaleRecipex6
import Derived.Test.YteijbdngbmciaaaGFnExactScaleRecipex7
namespace Go.Proofs.Yteijbdngbmciaaa.GFnExactScaleRecipe
open Go.RowKit Go.Proofs.YteijbdngbmciaaaW.PrintWords Go.Proofs.YteijbdngbmciaaaW.PrintLast Go.Proofs.YteijbdngbmciaaaW.PrintMore
attribute [local go_sem] max2_int min2_int max_two min_two max_three min_three max_four min_four   -- for this text's walks alone
set_option linter.unusedVariables false
set_option linter.unusedSimpArgs false

end Go.Proofs.Yteijbdngbmciaaa.GFnExactScaleRecipe
