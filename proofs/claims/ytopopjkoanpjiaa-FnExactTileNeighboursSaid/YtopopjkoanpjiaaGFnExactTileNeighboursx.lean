-- Written by the session's own program (gen.py) out of the translation's print. Lean checks it.
import Derived.Test.YtopopjkoanpjiaaGFnExactTileNeighboursx0
import Derived.Test.YtopopjkoanpjiaaGFnExactTileNeighboursx1
import Derived.Test.YtopopjkoanpjiaaGFnExactTileNeighboursx2
import Derived.Test.YtopopjkoanpjiaaGFnExactTileNeighboursx3
import Derived.Test.YtopopjkoanpjiaaGFnExactTileNeighboursx4
import Derived.Test.YtopopjkoanpjiaaGFnExactTileNeighboursx5
import Derived.Test.YtopopjkoanpjiaaGFnExactTileNeighboursx6
import Derived.Test.YtopopjkoanpjiaaGFnExactTileNeighboursx7
import Derived.Test.YtopopjkoanpjiaaGFnExactTileNeighboursx8
import Derived.Test.YtopopjkoanpjiaaGFnExactTileNeighboursx9
import Derived.Test.YtopopjkoanpjiaaGFnExactTileNeighboursx10
namespace Go.Proofs.Ytopopjkoanpjiaa.GFnExactTileNeighbours
open Go.RowKit Go.Proofs.YtopopjkoanpjiaaW.PrintWords Go.Proofs.YtopopjkoanpjiaaW.PrintLast Go.Proofs.YtopopjkoanpjiaaW.PrintMore
attribute [local go_sem] max2_int min2_int max_two min_two max_three min_three max_four min_four   -- for this text's walks alone
set_option linter.unusedVariables false
set_option linter.unusedSimpArgs false

end Go.Proofs.Ytopopjkoanpjiaa.GFnExactTileNeighbours
