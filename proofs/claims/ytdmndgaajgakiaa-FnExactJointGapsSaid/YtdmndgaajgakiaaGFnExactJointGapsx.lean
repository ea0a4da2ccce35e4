-- Written by the session's own program (gen.py) out of the translation's print. Lean checks it.
import Derived.Test.YtdmndgaajgakiaaGFnExactJointGapsx0
import Derived.Test.YtdmndgaajgakiaaGFnExactJointGapsx1
import Derived.Test.YtdmndgaajgakiaaGFnExactJointGapsx2
import Derived.Test.YtdmndgaajgakiaaGFnExactJointGapsx3
import Derived.Test.YtdmndgaajgakiaaGFnExactJointGapsx4
import Derived.Test.YtdmndgaajgakiaaGFnExactJointGapsx5
import Derived.Test.YtdmndgaajgakiaaGFnExactJointGapsx6
namespace Go.Proofs.Ytdmndgaajgakiaa.GFnExactJointGaps
open Go.RowKit Go.Proofs.YtdmndgaajgakiaaW.PrintWords Go.Proofs.YtdmndgaajgakiaaW.PrintLast Go.Proofs.YtdmndgaajgakiaaW.PrintMore
attribute [local go_sem] max2_int min2_int max_two min_two max_three min_three max_four min_four   -- for this text's walks alone
set_option linter.unusedVariables false
set_option linter.unusedSimpArgs false

end Go.Proofs.Ytdmndgaajgakiaa.GFnExactJointGaps
