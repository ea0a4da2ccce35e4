-- Written by the session's own program (gen.py) out of the translation's print. Lean checks it.
import Derived.Test.YtdmndgaajgakiaaGFnExactWidestGapx0
import Derived.Test.YtdmndgaajgakiaaGFnExactWidestGapx1
import Derived.Test.YtdmndgaajgakiaaGFnExactWidestGapx2
import Derived.Test.YtdmndgaajgakiaaGFnExactWidestGapx3
import Derived.Test.YtdmndgaajgakiaaGFnExactWidestGapx4
import Derived.Test.YtdmndgaajgakiaaGFnExactWidestGapx5
namespace Go.Proofs.Ytdmndgaajgakiaa.GFnExactWidestGap
open Go.RowKit Go.Proofs.YtdmndgaajgakiaaW.PrintWords Go.Proofs.YtdmndgaajgakiaaW.PrintLast Go.Proofs.YtdmndgaajgakiaaW.PrintMore
attribute [local go_sem] max2_int min2_int max_two min_two max_three min_three max_four min_four   -- for this text's walks alone
set_option linter.unusedVariables false
set_option linter.unusedSimpArgs false

end Go.Proofs.Ytdmndgaajgakiaa.GFnExactWidestGap
