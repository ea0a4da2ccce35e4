-- Written by the session's own program (gen.py) out of the translation's print. Lean checks it.
import Derived.Test.YtopopjkoanpjiaaDoorGFnExactTilingTextx0
import Derived.Test.YtopopjkoanpjiaaDoorGFnExactTilingTextx1
import Derived.Test.YtopopjkoanpjiaaDoorGFnExactTilingTextx2
import Derived.Test.YtopopjkoanpjiaaDoorGFnExactTilingTextx3
import Derived.Test.YtopopjkoanpjiaaDoorGFnExactTilingTextx4
import Derived.Test.YtopopjkoanpjiaaDoorGFnExactTilingTextx5
import Derived.Test.YtopopjkoanpjiaaDoorGFnExactTilingTextx6
import Derived.Test.YtopopjkoanpjiaaDoorGFnExactTilingTextx7
import Derived.Test.YtopopjkoanpjiaaDoorGFnExactTilingTextx8
import Derived.Test.YtopopjkoanpjiaaDoorGFnExactTilingTextx9
namespace Go.Proofs.YtopopjkoanpjiaaDoor.GFnExactTilingText
open Go.RowKit Go.Proofs.YtopopjkoanpjiaaDoorW.PrintWords Go.Proofs.YtopopjkoanpjiaaDoorW.PrintLast Go.Proofs.YtopopjkoanpjiaaDoorW.PrintMore
attribute [local go_sem] max2_int min2_int max_two min_two max_three min_three max_four min_four   -- for this text's walks alone
set_option linter.unusedVariables false
set_option linter.unusedSimpArgs false

end Go.Proofs.YtopopjkoanpjiaaDoor.GFnExactTilingText
