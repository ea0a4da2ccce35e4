-- Written by the session's own program (gen.py) out of the translation's print. Lean checks it.
import Derived.Test.YtjmjbmahljlnlaaGFnExactWorkingTimex0
import Derived.Test.YtjmjbmahljlnlaaGFnExactWorkingTimex1
import Derived.Test.YtjmjbmahljlnlaaGFnExactWorkingTimex2
import Derived.Test.YtjmjbmahljlnlaaGFnExactWorkingTimex3
import Derived.Test.YtjmjbmahljlnlaaGFnExactWorkingTimex4
import Derived.Test.YtjmjbmahljlnlaaGFnExactWorkingTimex5
namespace Go.Proofs.Ytjmjbmahljlnlaa.GFnExactWorkingTime
open Go.RowKit Go.Proofs.YtjmjbmahljlnlaaW.PrintWords Go.Proofs.YtjmjbmahljlnlaaW.PrintLast Go.Proofs.YtjmjbmahljlnlaaW.PrintMore
attribute [local go_sem] max2_int min2_int max_two min_two max_three min_three max_four min_four   -- for this text's walks alone
set_option linter.unusedVariables false
set_option linter.unusedSimpArgs false

end Go.Proofs.Ytjmjbmahljlnlaa.GFnExactWorkingTime
