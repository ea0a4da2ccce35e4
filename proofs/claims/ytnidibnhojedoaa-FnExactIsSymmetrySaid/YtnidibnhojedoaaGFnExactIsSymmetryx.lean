-- Written by the session's own program (gen.py) out of the translation's print. Lean checks it.
import Derived.Test.YtnidibnhojedoaaGFnExactIsSymmetryx0
import Derived.Test.YtnidibnhojedoaaGFnExactIsSymmetryx1
import Derived.Test.YtnidibnhojedoaaGFnExactIsSymmetryx2
import Derived.Test.YtnidibnhojedoaaGFnExactIsSymmetryx3
import Derived.Test.YtnidibnhojedoaaGFnExactIsSymmetryx4
import Derived.Test.YtnidibnhojedoaaGFnExactIsSymmetryx5
import Derived.Test.YtnidibnhojedoaaGFnExactIsSymmetryx6
import Derived.Test.YtnidibnhojedoaaGFnExactIsSymmetryx7
import Derived.Test.YtnidibnhojedoaaGFnExactIsSymmetryx8
import Derived.Test.YtnidibnhojedoaaGFnExactIsSymmetryx9
import Derived.Test.YtnidibnhojedoaaGFnExactIsSymmetryx10
import Derived.Test.YtnidibnhojedoaaGFnExactIsSymmetryx11
import Derived.Test.YtnidibnhojedoaaGFnExactIsSymmetryx12
import Derived.Test.YtnidibnhojedoaaGFnExactIsSymmetryx13
namespace Go.Proofs.Ytnidibnhojedoaa.GFnExactIsSymmetry
open Go.RowKit Go.Proofs.YtnidibnhojedoaaW.PrintWords Go.Proofs.YtnidibnhojedoaaW.PrintLast Go.Proofs.YtnidibnhojedoaaW.PrintMore
attribute [local go_sem] max2_int min2_int max_two min_two max_three min_three max_four min_four   -- for this text's walks alone
set_option linter.unusedVariables false
set_option linter.unusedSimpArgs false

end Go.Proofs.Ytnidibnhojedoaa.GFnExactIsSymmetry
