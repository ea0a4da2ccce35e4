-- Written by the session's own program (gen.py) out of the translation's print. Lean checks it.
import Derived.Test.YtakagkflgkoiiaaDoorGFnExactReadShapex0
import Derived.Test.YtakagkflgkoiiaaDoorGFnExactReadShapex1
import Derived.Test.YtakagkflgkoiiaaDoorGFnExactReadShapex2
import Derived.Test.YtakagkflgkoiiaaDoorGFnExactReadShapex3
import Derived.Test.YtakagkflgkoiiaaDoorGFnExactReadShapex4
import Derived.Test.YtakagkflgkoiiaaDoorGFnExactReadShapex5
namespace Go.Proofs.YtakagkflgkoiiaaDoor.GFnExactReadShape
open Go.RowKit Go.Proofs.YtakagkflgkoiiaaDoorW.PrintWords Go.Proofs.YtakagkflgkoiiaaDoorW.PrintLast Go.Proofs.YtakagkflgkoiiaaDoorW.PrintMore
attribute [local go_sem] max2_int min2_int max_two min_two max_three min_three max_four min_four   -- for this text's walks alone
set_option linter.unusedVariables false
set_option linter.unusedSimpArgs false

end Go.Proofs.YtakagkflgkoiiaaDoor.GFnExactReadShape
