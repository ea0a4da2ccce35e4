-- Written by the session's own program (gen.py) out of the translation's print. Lean checks it.
import Derived.Test.YteijbdngbmciaaaGFnExactRecipeShadesx0
import Derived.Test.YteijbdngbmciaaaGFnExactRecipeShadesx1
import Derived.Test.YteijbdngbmciaaaGFnExactRecipeShadesx2
import Derived.Test.YteijbdngbmciaaaGFnExactRecipeShadesx3
import Derived.Test.YteijbdngbmciaaaGFnExactRecipeShadesx4
import Derived.Test.YteijbdngbmciaaaGFnExactRecipeShadesx5
import Derived.Test.YteijbdngbmciaaaGFnExactRecipeShadesx6
import Derived.Test.YteijbdngbmciaaaGFnExactRecipeShadesx7
import Derived.Test.YteijbdngbmciaaaGFnExactRecipeShadesx8
namespace Go.Proofs.Yteijbdngbmciaaa.GFnExactRecipeShades
open Go.RowKit Go.Proofs.YteijbdngbmciaaaW.PrintWords Go.Proofs.YteijbdngbmciaaaW.PrintLast Go.Proofs.YteijbdngbmciaaaW.PrintMore
attribute [local go_sem] max2_int min2_int max_two min_two max_three min_three max_four min_four   -- for this text's walks alone
set_option linter.unusedVariables false
set_option linter.unusedSimpArgs false

end Go.Proofs.Yteijbdngbmciaaa.GFnExactRecipeShades
