-- Written by the session's own program (gen.py) out of the translation's print. Lean checks it.
import Derived.Test.YteijbdngbmciaaaDoorGFnExactRecipeTextx0
import Derived.Test.YteijbdngbmciaaaDoorGFnExactRecipeTextx1
import Derived.Test.YteijbdngbmciaaaDoorGFnExactRecipeTextx2
import Derived.Test.YteijbdngbmciaaaDoorGFnExactRecipeTextx3
import Derived.Test.YteijbdngbmciaaaDoorGFnExactRecipeTextx4
import Derived.Test.YteijbdngbmciaaaDoorGFnExactRecipeTextx5
import Derived.Test.YteijbdngbmciaaaDoorGFnExactRecipeTextx6
namespace Go.Proofs.YteijbdngbmciaaaDoor.GFnExactRecipeText
open Go.RowKit Go.Proofs.YteijbdngbmciaaaDoorW.PrintWords Go.Proofs.YteijbdngbmciaaaDoorW.PrintLast Go.Proofs.YteijbdngbmciaaaDoorW.PrintMore
attribute [local go_sem] max2_int min2_int max_two min_two max_three min_three max_four min_four   -- for this text's walks alone
set_option linter.unusedVariables false
set_option linter.unusedSimpArgs false

end Go.Proofs.YteijbdngbmciaaaDoor.GFnExactRecipeText
