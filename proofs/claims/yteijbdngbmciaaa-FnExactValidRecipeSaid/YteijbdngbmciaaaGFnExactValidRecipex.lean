-- Written by the session's own program (gen.py) out of the translation's print. Lean checks it.
import Derived.Test.YteijbdngbmciaaaGFnExactValidRecipex0
import Derived.Test.YteijbdngbmciaaaGFnExactValidRecipex1
import Derived.Test.YteijbdngbmciaaaGFnExactValidRecipex2
import Derived.Test.YteijbdngbmciaaaGFnExactValidRecipex3
import Derived.Test.YteijbdngbmciaaaGFnExactValidRecipex4
namespace Go.Proofs.Yteijbdngbmciaaa.GFnExactValidRecipe
open Go.RowKit Go.Proofs.YteijbdngbmciaaaW.PrintWords Go.Proofs.YteijbdngbmciaaaW.PrintLast Go.Proofs.YteijbdngbmciaaaW.PrintMore
attribute [local go_sem] max2_int min2_int max_two min_two max_three min_three max_four min_four   -- for this text's walks alone
set_option linter.unusedVariables false
set_option linter.unusedSimpArgs false

end Go.Proofs.Yteijbdngbmciaaa.GFnExactValidRecipe
