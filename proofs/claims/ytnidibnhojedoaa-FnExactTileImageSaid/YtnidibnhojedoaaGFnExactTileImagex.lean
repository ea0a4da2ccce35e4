-- Written by the session's own program (gen.py) out of the translation's print. Lean checks it.
import Derived.Test.YtnidibnhojedoaaGFnExactTileImagex0
import Derived.Test.YtnidibnhojedoaaGFnExactTileImagex1
import Derived.Test.YtnidibnhojedoaaGFnExactTileImagex2
import Derived.Test.YtnidibnhojedoaaGFnExactTileImagex3
import Derived.Test.YtnidibnhojedoaaGFnExactTileImagex4
import Derived.Test.YtnidibnhojedoaaGFnExactTileImagex5
import Derived.Test.YtnidibnhojedoaaGFnExactTileImagex6
import Derived.Test.YtnidibnhojedoaaGFnExactTileImagex7
import Derived.Test.YtnidibnhojedoaaGFnExactTileImagex8
import Derived.Test.YtnidibnhojedoaaGFnExactTileImagex9
import Derived.Test.YtnidibnhojedoaaGFnExactTileImagex10
import Derived.Test.YtnidibnhojedoaaGFnExactTileImagex11
import Derived.Test.YtnidibnhojedoaaGFnExactTileImagex12
import Derived.Test.YtnidibnhojedoaaGFnExactTileImagex13
namespace Go.Proofs.Ytnidibnhojedoaa.GFnExactTileImage
open Go.RowKit Go.Proofs.YtnidibnhojedoaaW.PrintWords Go.Proofs.YtnidibnhojedoaaW.PrintLast Go.Proofs.YtnidibnhojedoaaW.PrintMore
attribute [local go_sem] max2_int min2_int max_two min_two max_three min_three max_four min_four   -- for this text's walks alone
set_option linter.unusedVariables false
set_option linter.unusedSimpArgs false

end Go.Proofs.Ytnidibnhojedoaa.GFnExactTileImage
