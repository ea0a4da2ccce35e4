-- Written by the session's own program (gen.py) out of the translation's print. Lean checks it.
import Derived.Test.YtjmjbmahljlnlaaDoorGFnExactReadBladex0
import Derived.Test.YtjmjbmahljlnlaaDoorGFnExactReadBladex1
import Derived.Test.YtjmjbmahljlnlaaDoorGFnExactReadBladex2
import Derived.Test.YtjmjbmahljlnlaaDoorGFnExactReadBladex3
import Derived.Test.YtjmjbmahljlnlaaDoorGFnExactReadBladex4
import Derived.Test.YtjmjbmahljlnlaaDoorGFnExactReadBladex5
namespace Go.Proofs.YtjmjbmahljlnlaaDoor.GFnExactReadBlade
open Go.RowKit Go.Proofs.YtjmjbmahljlnlaaDoorW.PrintWords Go.Proofs.YtjmjbmahljlnlaaDoorW.PrintLast Go.Proofs.YtjmjbmahljlnlaaDoorW.PrintMore
attribute [local go_sem] max2_int min2_int max_two min_two max_three min_three max_four min_four   -- for this text's walks alone
set_option linter.unusedVariables false
set_option linter.unusedSimpArgs false

end Go.Proofs.YtjmjbmahljlnlaaDoor.GFnExactReadBlade
