-- Written by the session's own program (gen.py) out of the translation's print. Lean checks it.
import Derived.Test.YtdmiihpblfkamaaGFnShadesx0
import Derived.Test.YtdmiihpblfkamaaGFnShadesx1
import Derived.Test.YtdmiihpblfkamaaGFnShadesx2
namespace Go.Proofs.Ytdmiihpblfkamaa.GFnShades
open Go.RowKit Go.Proofs.YtdmiihpblfkamaaW.PrintWords Go.Proofs.YtdmiihpblfkamaaW.PrintLast Go.Proofs.YtdmiihpblfkamaaW.PrintMore
attribute [local go_sem] max2_int min2_int max_two min_two max_three min_three max_four min_four   -- for this text's walks alone
set_option linter.unusedVariables false
set_option linter.unusedSimpArgs false

end Go.Proofs.Ytdmiihpblfkamaa.GFnShades
