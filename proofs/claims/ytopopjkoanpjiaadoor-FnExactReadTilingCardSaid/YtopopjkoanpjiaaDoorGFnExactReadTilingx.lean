-- Written by the session's own program (gen.py) out of the translation's print. Lean checks it.
import Derived.Test.YtopopjkoanpjiaaDoorGFnExactReadTilingx0
import Derived.Test.YtopopjkoanpjiaaDoorGFnExactReadTilingx1
import Derived.Test.YtopopjkoanpjiaaDoorGFnExactReadTilingx2
import Derived.Test.YtopopjkoanpjiaaDoorGFnExactReadTilingx3
import Derived.Test.YtopopjkoanpjiaaDoorGFnExactReadTilingx4
import Derived.Test.YtopopjkoanpjiaaDoorGFnExactReadTilingx5
import Derived.Test.YtopopjkoanpjiaaDoorGFnExactReadTilingx6
import Derived.Test.YtopopjkoanpjiaaDoorGFnExactReadTilingx7
import Derived.Test.YtopopjkoanpjiaaDoorGFnExactReadTilingx8
import Derived.Test.YtopopjkoanpjiaaDoorGFnExactReadTilingx9
import Derived.Test.YtopopjkoanpjiaaDoorGFnExactReadTilingx10
import Derived.Test.YtopopjkoanpjiaaDoorGFnExactReadTilingx11
namespace Go.Proofs.YtopopjkoanpjiaaDoor.GFnExactReadTiling
open Go.RowKit Go.Proofs.YtopopjkoanpjiaaDoorW.PrintWords Go.Proofs.YtopopjkoanpjiaaDoorW.PrintLast Go.Proofs.YtopopjkoanpjiaaDoorW.PrintMore
attribute [local go_sem] max2_int min2_int max_two min_two max_three min_three max_four min_four   -- for this text's walks alone
set_option linter.unusedVariables false
set_option linter.unusedSimpArgs false

end Go.Proofs.YtopopjkoanpjiaaDoor.GFnExactReadTiling
