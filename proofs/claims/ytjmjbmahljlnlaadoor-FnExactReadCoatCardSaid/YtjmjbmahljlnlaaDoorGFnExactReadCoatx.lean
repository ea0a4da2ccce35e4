-- Written by the session's own program (gen.py) out of the translation's print. Lean checks it.
import Derived.Test.YtjmjbmahljlnlaaDoorGFnExactReadCoatx0
import Derived.Test.YtjmjbmahljlnlaaDoorGFnExactReadCoatx1
import Derived.Test.YtjmjbmahljlnlaaDoorGFnExactReadCoatx2
import Derived.Test.YtjmjbmahljlnlaaDoorGFnExactReadCoatx3
import Derived.Test.YtjmjbmahljlnlaaDoorGFnExactReadCoatx4
import Derived.Test.YtjmjbmahljlnlaaDoorGFnExactReadCoatx5
import Derived.Test.YtjmjbmahljlnlaaDoorGFnExactReadCoatx6
import Derived.Test.YtjmjbmahljlnlaaDoorGFnExactReadCoatx7
namespace Go.Proofs.YtjmjbmahljlnlaaDoor.GFnExactReadCoat
open Go.RowKit Go.Proofs.YtjmjbmahljlnlaaDoorW.PrintWords Go.Proofs.YtjmjbmahljlnlaaDoorW.PrintLast Go.Proofs.YtjmjbmahljlnlaaDoorW.PrintMore
attribute [local go_sem] max2_int min2_int max_two min_two max_three min_three max_four min_four   -- for this text's walks alone
set_option linter.unusedVariables false
set_option linter.unusedSimpArgs false

end Go.Proofs.YtjmjbmahljlnlaaDoor.GFnExactReadCoat
