-- Written by the session's own program (gen.py) out of the translation's print. Lean checks it.
import Derived.Test.YtakagkflgkoiiaaGFnExactShapeTextx0
import Derived.Test.YtakagkflgkoiiaaGFnExactShapeTextx1
import Derived.Test.YtakagkflgkoiiaaGFnExactShapeTextx2
import Derived.Test.YtakagkflgkoiiaaGFnExactShapeTextx3
import Derived.Test.YtakagkflgkoiiaaGFnExactShapeTextx4
namespace Go.Proofs.Ytakagkflgkoiiaa.GFnExactShapeText
open Go.RowKit Go.Proofs.YtakagkflgkoiiaaW.PrintWords Go.Proofs.YtakagkflgkoiiaaW.PrintLast Go.Proofs.YtakagkflgkoiiaaW.PrintMore
attribute [local go_sem] max2_int min2_int max_two min_two max_three min_three max_four min_four   -- for this text's walks alone
set_option linter.unusedVariables false
set_option linter.unusedSimpArgs false

end Go.Proofs.Ytakagkflgkoiiaa.GFnExactShapeText
