-- Written by the session's own program (gen.py) out of the translation's print. Lean checks it.
import Derived.Test.YtnidibnhojedoaaGFnExactShiftTilingx0
import Derived.Test.YtnidibnhojedoaaGFnExactShiftTilingx1
import Derived.Test.YtnidibnhojedoaaGFnExactShiftTilingx2
import Derived.Test.YtnidibnhojedoaaGFnExactShiftTilingx3
import Derived.Test.YtnidibnhojedoaaGFnExactShiftTilingx4
import Derived.Test.YtnidibnhojedoaaGFnExactShiftTilingx5
import Derived.Test.YtnidibnhojedoaaGFnExactShiftTilingx6
import Derived.Test.YtnidibnhojedoaaGFnExactShiftTilingx7
import Derived.Test.YtnidibnhojedoaaGFnExactShiftTilingx8
import Derived.Test.YtnidibnhojedoaaGFnExactShiftTilingx9
import Derived.Test.YtnidibnhojedoaaGFnExactShiftTilingx10
namespace Go.Proofs.Ytnidibnhojedoaa.GFnExactShiftTiling
open Go.RowKit Go.Proofs.YtnidibnhojedoaaW.PrintWords Go.Proofs.YtnidibnhojedoaaW.PrintLast Go.Proofs.YtnidibnhojedoaaW.PrintMore
attribute [local go_sem] max2_int min2_int max_two min_two max_three min_three max_four min_four   -- for this text's walks alone
set_option linter.unusedVariables false
set_option linter.unusedSimpArgs false

end Go.Proofs.Ytnidibnhojedoaa.GFnExactShiftTiling
