-- Written by the session's own program (gen.py) out of the translation's print. Lean checks it.
import Derived.Test.YtakagkflgkoiiaaGFnExactValidPiecesx0
import Derived.Test.YtakagkflgkoiiaaGFnExactValidPiecesx1
import Derived.Test.YtakagkflgkoiiaaGFnExactValidPiecesx2
import Derived.Test.YtakagkflgkoiiaaGFnExactValidPiecesx3
import Derived.Test.YtakagkflgkoiiaaGFnExactValidPiecesx4
import Derived.Test.YtakagkflgkoiiaaGFnExactValidPiecesx5
import Derived.Test.YtakagkflgkoiiaaGFnExactValidPiecesx6
import Derived.Test.YtakagkflgkoiiaaGFnExactValidPiecesx7
import Derived.Test.YtakagkflgkoiiaaGFnExactValidPiecesx8
import Derived.Test.YtakagkflgkoiiaaGFnExactValidPiecesx9
import Derived.Test.YtakagkflgkoiiaaGFnExactValidPiecesx10
namespace Go.Proofs.Ytakagkflgkoiiaa.GFnExactValidPieces
open Go.RowKit Go.Proofs.YtakagkflgkoiiaaW.PrintWords Go.Proofs.YtakagkflgkoiiaaW.PrintLast Go.Proofs.YtakagkflgkoiiaaW.PrintMore
attribute [local go_sem] max2_int min2_int max_two min_two max_three min_three max_four min_four   -- for this text's walks alone
set_option linter.unusedVariables false
set_option linter.unusedSimpArgs false

end Go.Proofs.Ytakagkflgkoiiaa.GFnExactValidPieces
