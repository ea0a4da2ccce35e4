-- Written by the session's own program (gen.py) out of the translation's print. Lean checks it.
import Derived.Test.YtnidibnhojedoaaGFnExactRepeatAreax0
import Derived.Test.YtnidibnhojedoaaGFnExactRepeatAreax1
import Derived.Test.YtnidibnhojedoaaGFnExactRepeatAreax2
import Derived.Test.YtnidibnhojedoaaGFnExactRepeatAreax3
import Derived.Test.YtnidibnhojedoaaGFnExactRepeatAreax4
import Derived.Test.YtnidibnhojedoaaGFnExactRepeatAreax5
import Derived.Test.YtnidibnhojedoaaGFnExactRepeatAreax6
import Derived.Test.YtnidibnhojedoaaGFnExactRepeatAreax7
import Derived.Test.YtnidibnhojedoaaGFnExactRepeatAreax8
import Derived.Test.YtnidibnhojedoaaGFnExactRepeatAreax9
import Derived.Test.YtnidibnhojedoaaGFnExactRepeatAreax10
import Derived.Test.YtnidibnhojedoaaGFnExactRepeatAreax11
import Derived.Test.YtnidibnhojedoaaGFnExactRepeatAreax12
import Derived.Test.YtnidibnhojedoaaGFnExactRepeatAreax13
namespace Go.Proofs.Ytnidibnhojedoaa.GFnExactRepeatArea
open Go.RowKit Go.Proofs.YtnidibnhojedoaaW.PrintWords Go.Proofs.YtnidibnhojedoaaW.PrintLast Go.Proofs.YtnidibnhojedoaaW.PrintMore
attribute [local go_sem] max2_int min2_int max_two min_two max_three min_three max_four min_four   -- for this text's walks alone
set_option linter.unusedVariables false
set_option linter.unusedSimpArgs false

end Go.Proofs.Ytnidibnhojedoaa.GFnExactRepeatArea
