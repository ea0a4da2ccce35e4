-- Written by the session's own program (gen.py) out of the translation's print. Lean checks it.
import Derived.Test.YtnidibnhojedoaaGFnExactValidMotionx0
import Derived.Test.YtnidibnhojedoaaGFnExactValidMotionx1
import Derived.Test.YtnidibnhojedoaaGFnExactValidMotionx2
import Derived.Test.YtnidibnhojedoaaGFnExactValidMotionx3
import Derived.Test.YtnidibnhojedoaaGFnExactValidMotionx4
import Derived.Test.YtnidibnhojedoaaGFnExactValidMotionx5
import Derived.Test.YtnidibnhojedoaaGFnExactValidMotionx6
import Derived.Test.YtnidibnhojedoaaGFnExactValidMotionx7
import Derived.Test.YtnidibnhojedoaaGFnExactValidMotionx8
import Derived.Test.YtnidibnhojedoaaGFnExactValidMotionx9
namespace Go.Proofs.Ytnidibnhojedoaa.GFnExactValidMotion
open Go.RowKit Go.Proofs.YtnidibnhojedoaaW.PrintWords Go.Proofs.YtnidibnhojedoaaW.PrintLast Go.Proofs.YtnidibnhojedoaaW.PrintMore
attribute [local go_sem] max2_int min2_int max_two min_two max_three min_three max_four min_four   -- for this text's walks alone
set_option linter.unusedVariables false
set_option linter.unusedSimpArgs false

end Go.Proofs.Ytnidibnhojedoaa.GFnExactValidMotion
