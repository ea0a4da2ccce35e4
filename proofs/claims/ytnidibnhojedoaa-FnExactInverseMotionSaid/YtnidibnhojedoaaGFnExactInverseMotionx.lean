-- Written by the session's own program (gen.py) out of the translation's print. Lean checks it.
import Derived.Test.YtnidibnhojedoaaGFnExactInverseMotionx0
import Derived.Test.YtnidibnhojedoaaGFnExactInverseMotionx1
import Derived.Test.YtnidibnhojedoaaGFnExactInverseMotionx2
import Derived.Test.YtnidibnhojedoaaGFnExactInverseMotionx3
import Derived.Test.YtnidibnhojedoaaGFnExactInverseMotionx4
import Derived.Test.YtnidibnhojedoaaGFnExactInverseMotionx5
import Derived.Test.YtnidibnhojedoaaGFnExactInverseMotionx6
import Derived.Test.YtnidibnhojedoaaGFnExactInverseMotionx7
import Derived.Test.YtnidibnhojedoaaGFnExactInverseMotionx8
import Derived.Test.YtnidibnhojedoaaGFnExactInverseMotionx9
import Derived.Test.YtnidibnhojedoaaGFnExactInverseMotionx10
namespace Go.Proofs.Ytnidibnhojedoaa.GFnExactInverseMotion
open Go.RowKit Go.Proofs.YtnidibnhojedoaaW.PrintWords Go.Proofs.YtnidibnhojedoaaW.PrintLast Go.Proofs.YtnidibnhojedoaaW.PrintMore
attribute [local go_sem] max2_int min2_int max_two min_two max_three min_three max_four min_four   -- for this text's walks alone
set_option linter.unusedVariables false
set_option linter.unusedSimpArgs false

end Go.Proofs.Ytnidibnhojedoaa.GFnExactInverseMotion
