-- Written by the session's own program (gen.py) out of the translation's print. Lean checks it.
import Derived.Test.YtjmjbmahljlnlaaGFnExactEarlyPlanx0
import Derived.Test.YtjmjbmahljlnlaaGFnExactEarlyPlanx1
import Derived.Test.YtjmjbmahljlnlaaGFnExactEarlyPlanx2
import Derived.Test.YtjmjbmahljlnlaaGFnExactEarlyPlanx3
import Derived.Test.YtjmjbmahljlnlaaGFnExactEarlyPlanx4
import Derived.Test.YtjmjbmahljlnlaaGFnExactEarlyPlanx5
import Derived.Test.YtjmjbmahljlnlaaGFnExactEarlyPlanx6
import Derived.Test.YtjmjbmahljlnlaaGFnExactEarlyPlanx7
namespace Go.Proofs.Ytjmjbmahljlnlaa.GFnExactEarlyPlan
open Go.RowKit Go.Proofs.YtjmjbmahljlnlaaW.PrintWords Go.Proofs.YtjmjbmahljlnlaaW.PrintLast Go.Proofs.YtjmjbmahljlnlaaW.PrintMore
attribute [local go_sem] max2_int min2_int max_two min_two max_three min_three max_four min_four   -- for this text's walks alone
set_option linter.unusedVariables false
set_option linter.unusedSimpArgs false

end Go.Proofs.Ytjmjbmahljlnlaa.GFnExactEarlyPlan
