-- Written by the session's own program (gen.py) out of the translation's print. Lean checks it.
import Derived.Test.YtakagkflgkoiiaaGFnExactLaidCellsx0
import Derived.Test.YtakagkflgkoiiaaGFnExactLaidCellsx1
import Derived.Test.YtakagkflgkoiiaaGFnExactLaidCellsx2
import Derived.Test.YtakagkflgkoiiaaGFnExactLaidCellsx3
import Derived.Test.YtakagkflgkoiiaaGFnExactLaidCellsx4
import Derived.Test.YtakagkflgkoiiaaGFnExactLaidCellsx5
import Derived.Test.YtakagkflgkoiiaaGFnExactLaidCellsx6
import Derived.Test.YtakagkflgkoiiaaGFnExactLaidCellsx7
import Derived.Test.YtakagkflgkoiiaaGFnExactLaidCellsx8
import Derived.Test.YtakagkflgkoiiaaGFnExactLaidCellsx9
import Derived.Test.YtakagkflgkoiiaaGFnExactLaidCellsx10
import Derived.Test.YtakagkflgkoiiaaGFnExactLaidCellsx11
import Derived.Test.YtakagkflgkoiiaaGFnExactLaidCellsx12
import Derived.Test.YtakagkflgkoiiaaGFnExactLaidCellsx13
import Derived.Test.YtakagkflgkoiiaaGFnExactLaidCellsx14
namespace Go.Proofs.Ytakagkflgkoiiaa.GFnExactLaidCells
open Go.RowKit Go.Proofs.YtakagkflgkoiiaaW.PrintWords Go.Proofs.YtakagkflgkoiiaaW.PrintLast Go.Proofs.YtakagkflgkoiiaaW.PrintMore
attribute [local go_sem] max2_int min2_int max_two min_two max_three min_three max_four min_four   -- for this text's walks alone
set_option linter.unusedVariables false
set_option linter.unusedSimpArgs false

end Go.Proofs.Ytakagkflgkoiiaa.GFnExactLaidCells
