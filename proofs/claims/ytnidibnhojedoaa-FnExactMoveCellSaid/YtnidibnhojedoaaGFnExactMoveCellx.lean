-- Written by the session's own program (gen.py) out of the translation's print. Lean checks it.
import Derived.Test.YtnidibnhojedoaaGFnExactMoveCellx0
import Derived.Test.YtnidibnhojedoaaGFnExactMoveCellx1
import Derived.Test.YtnidibnhojedoaaGFnExactMoveCellx2
import Derived.Test.YtnidibnhojedoaaGFnExactMoveCellx3
import Derived.Test.YtnidibnhojedoaaGFnExactMoveCellx4
import Derived.Test.YtnidibnhojedoaaGFnExactMoveCellx5
import Derived.Test.YtnidibnhojedoaaGFnExactMoveCellx6
import Derived.Test.YtnidibnhojedoaaGFnExactMoveCellx7
import Derived.Test.YtnidibnhojedoaaGFnExactMoveCellx8
import Derived.Test.YtnidibnhojedoaaGFnExactMoveCellx9
import Derived.Test.YtnidibnhojedoaaGFnExactMoveCellx10
namespace Go.Proofs.Ytnidibnhojedoaa.GFnExactMoveCell
open Go.RowKit Go.Proofs.YtnidibnhojedoaaW.PrintWords Go.Proofs.YtnidibnhojedoaaW.PrintLast Go.Proofs.YtnidibnhojedoaaW.PrintMore
attribute [local go_sem] max2_int min2_int max_two min_two max_three min_three max_four min_four   -- for this text's walks alone
set_option linter.unusedVariables false
set_option linter.unusedSimpArgs false

end Go.Proofs.Ytnidibnhojedoaa.GFnExactMoveCell
