-- Written by the session's own program (gen.py) out of the translation's print. Lean checks it.
import Derived.Test.YtnidibnhojedoaaGFnExactTileOrbitsx0
import Derived.Test.YtnidibnhojedoaaGFnExactTileOrbitsx1
import Derived.Test.YtnidibnhojedoaaGFnExactTileOrbitsx2
import Derived.Test.YtnidibnhojedoaaGFnExactTileOrbitsx3
import Derived.Test.YtnidibnhojedoaaGFnExactTileOrbitsx4
import Derived.Test.YtnidibnhojedoaaGFnExactTileOrbitsx5
import Derived.Test.YtnidibnhojedoaaGFnExactTileOrbitsx6
import Derived.Test.YtnidibnhojedoaaGFnExactTileOrbitsx7
import Derived.Test.YtnidibnhojedoaaGFnExactTileOrbitsx8
import Derived.Test.YtnidibnhojedoaaGFnExactTileOrbitsx9
import Derived.Test.YtnidibnhojedoaaGFnExactTileOrbitsx10
import Derived.Test.YtnidibnhojedoaaGFnExactTileOrbitsx11
import Derived.Test.YtnidibnhojedoaaGFnExactTileOrbitsx12
import Derived.Test.YtnidibnhojedoaaGFnExactTileOrbitsx13
import Derived.Test.YtnidibnhojedoaaGFnExactTileOrbitsx14
import Derived.Test.YtnidibnhojedoaaGFnExactTileOrbitsx15
namespace Go.Proofs.Ytnidibnhojedoaa.GFnExactTileOrbits
open Go.RowKit Go.Proofs.YtnidibnhojedoaaW.PrintWords Go.Proofs.YtnidibnhojedoaaW.PrintLast Go.Proofs.YtnidibnhojedoaaW.PrintMore
attribute [local go_sem] max2_int min2_int max_two min_two max_three min_three max_four min_four   -- for this text's walks alone
set_option linter.unusedVariables false
set_option linter.unusedSimpArgs false

end Go.Proofs.Ytnidibnhojedoaa.GFnExactTileOrbits
