-- Written by the session's own program (gen.py) out of the translation's print. Lean checks it.
import Derived.Test.YteijbdngbmciaaaGFnExactRecipeTimex0
import Derived.Test.YteijbdngbmciaaaGFnExactRecipeTimex1
import Derived.Test.YteijbdngbmciaaaGFnExactRecipeTimex2
import Derived.Test.YteijbdngbmciaaaGFnExactRecipeTimex3
import Derived.Test.YteijbdngbmciaaaGFnExactRecipeTimex4
import Derived.Test.YteijbdngbmciaaaGFnExactRecipeTimex5
namespace Go.Proofs.Yteijbdngbmciaaa.GFnExactRecipeTime
open Go.RowKit Go.Proofs.YteijbdngbmciaaaW.PrintWords Go.Proofs.YteijbdngbmciaaaW.PrintLast Go.Proofs.YteijbdngbmciaaaW.PrintMore
attribute [local go_sem] max2_int min2_int max_two min_two max_three min_three max_four min_four   -- for this text's walks alone
set_option linter.unusedVariables false
set_option linter.unusedSimpArgs false

end Go.Proofs.Yteijbdngbmciaaa.GFnExactRecipeTime
