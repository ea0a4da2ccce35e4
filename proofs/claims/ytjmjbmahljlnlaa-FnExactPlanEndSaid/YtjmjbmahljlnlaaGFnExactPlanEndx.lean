-- Written by the session's own program (gen.py) out of the translation's print. Lean checks it.
import Derived.Test.YtjmjbmahljlnlaaGFnExactPlanEndx0
import Derived.Test.YtjmjbmahljlnlaaGFnExactPlanEndx1
import Derived.Test.YtjmjbmahljlnlaaGFnExactPlanEndx2
import Derived.Test.YtjmjbmahljlnlaaGFnExactPlanEndx3
import Derived.Test.YtjmjbmahljlnlaaGFnExactPlanEndx4
import Derived.Test.YtjmjbmahljlnlaaGFnExactPlanEndx5
import Derived.Test.YtjmjbmahljlnlaaGFnExactPlanEndx6
namespace Go.Proofs.Ytjmjbmahljlnlaa.GFnExactPlanEnd
open Go.RowKit Go.Proofs.YtjmjbmahljlnlaaW.PrintWords Go.Proofs.YtjmjbmahljlnlaaW.PrintLast Go.Proofs.YtjmjbmahljlnlaaW.PrintMore
attribute [local go_sem] max2_int min2_int max_two min_two max_three min_three max_four min_four   -- for this text's walks alone
set_option linter.unusedVariables false
set_option linter.unusedSimpArgs false

end Go.Proofs.Ytjmjbmahljlnlaa.GFnExactPlanEnd
