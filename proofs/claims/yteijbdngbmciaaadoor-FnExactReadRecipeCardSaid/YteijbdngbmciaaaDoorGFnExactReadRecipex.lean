-- Written by the session's own program (gen.py) out of the translation's print. Lean checks it.
import Derived.Test.YteijbdngbmciaaaDoorGFnExactReadRecipex0
import Derived.Test.YteijbdngbmciaaaDoorGFnExactReadRecipex1
import Derived.Test.YteijbdngbmciaaaDoorGFnExactReadRecipex2
import Derived.Test.YteijbdngbmciaaaDoorGFnExactReadRecipex3
import Derived.Test.YteijbdngbmciaaaDoorGFnExactReadRecipex4
import Derived.Test.YteijbdngbmciaaaDoorGFnExactReadRecipex5
import Derived.Test.YteijbdngbmciaaaDoorGFnExactReadRecipex6
import Derived.Test.YteijbdngbmciaaaDoorGFnExactReadRecipex7
import Derived.Test.YteijbdngbmciaaaDoorGFnExactReadRecipex8
import Derived.Test.YteijbdngbmciaaaDoorGFnExactReadRecipex9
import Derived.Test.YteijbdngbmciaaaDoorGFnExactReadRecipex10
namespace Go.Proofs.YteijbdngbmciaaaDoor.GFnExactReadRecipe
open Go.RowKit Go.Proofs.YteijbdngbmciaaaDoorW.PrintWords Go.Proofs.YteijbdngbmciaaaDoorW.PrintLast Go.Proofs.YteijbdngbmciaaaDoorW.PrintMore
attribute [local go_sem] max2_int min2_int max_two min_two max_three min_three max_four min_four   -- for this text's walks alone
set_option linter.unusedVariables false
set_option linter.unusedSimpArgs false

end Go.Proofs.YteijbdngbmciaaaDoor.GFnExactReadRecipe
