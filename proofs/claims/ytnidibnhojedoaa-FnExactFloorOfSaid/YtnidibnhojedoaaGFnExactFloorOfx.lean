-- Written by the session's own program (gen.py) out of the translation's print. Lean checks it.
import Derived.Test.YtnidibnhojedoaaGFnExactFloorOfx0
import Derived.Test.YtnidibnhojedoaaGFnExactFloorOfx1
import Derived.Test.YtnidibnhojedoaaGFnExactFloorOfx2
import Derived.Test.YtnidibnhojedoaaGFnExactFloorOfx3
import Derived.Test.YtnidibnhojedoaaGFnExactFloorOfx4
import Derived.Test.YtnidibnhojedoaaGFnExactFloorOfx5
import Derived.Test.YtnidibnhojedoaaGFnExactFloorOfx6
import Derived.Test.YtnidibnhojedoaaGFnExactFloorOfx7
import Derived.Test.YtnidibnhojedoaaGFnExactFloorOfx8
import Derived.Test.YtnidibnhojedoaaGFnExactFloorOfx9
import Derived.Test.YtnidibnhojedoaaGFnExactFloorOfx10
namespace Go.Proofs.Ytnidibnhojedoaa.GFnExactFloorOf
open Go.RowKit Go.Proofs.YtnidibnhojedoaaW.PrintWords Go.Proofs.YtnidibnhojedoaaW.PrintLast Go.Proofs.YtnidibnhojedoaaW.PrintMore
attribute [local go_sem] max2_int min2_int max_two min_two max_three min_three max_four min_four   -- for this text's walks alone
set_option linter.unusedVariables false
set_option linter.unusedSimpArgs false

end Go.Proofs.Ytnidibnhojedoaa.GFnExactFloorOf
