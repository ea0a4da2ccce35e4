-- Written by the session's own program (gen.py) out of the translation's print. Lean checks it.
import Derived.Test.YtnidibnhojedoaaGFnExactComposeMotionsx0
import Derived.Test.YtnidibnhojedoaaGFnExactComposeMotionsx1
import Derived.Test.YtnidibnhojedoaaGFnExactComposeMotionsx2
import Derived.Test.YtnidibnhojedoaaGFnExactComposeMotionsx3
import Derived.Test.YtnidibnhojedoaaGFnExactComposeMotionsx4
import Derived.Test.YtnidibnhojedoaaGFnExactComposeMotionsx5
import Derived.Test.YtnidibnhojedoaaGFnExactComposeMotionsx6
import Derived.Test.YtnidibnhojedoaaGFnExactComposeMotionsx7
import Derived.Test.YtnidibnhojedoaaGFnExactComposeMotionsx8
import Derived.Test.YtnidibnhojedoaaGFnExactComposeMotionsx9
import Derived.Test.YtnidibnhojedoaaGFnExactComposeMotionsx10
import Derived.Test.YtnidibnhojedoaaGFnExactComposeMotionsx11
import Derived.Test.YtnidibnhojedoaaGFnExactComposeMotionsx12
namespace Go.Proofs.Ytnidibnhojedoaa.GFnExactComposeMotions
open Go.RowKit Go.Proofs.YtnidibnhojedoaaW.PrintWords Go.Proofs.YtnidibnhojedoaaW.PrintLast Go.Proofs.YtnidibnhojedoaaW.PrintMore
attribute [local go_sem] max2_int min2_int max_two min_two max_three min_three max_four min_four   -- for this text's walks alone
set_option linter.unusedVariables false
set_option linter.unusedSimpArgs false

end Go.Proofs.Ytnidibnhojedoaa.GFnExactComposeMotions
