-- Written by the session's own program (gen.py) out of the translation's print. Lean checks it.
import Derived.Test.YtdmiihpblfkamaaProg
import Derived.Below
import Derived.Deep.Draws
import Derived.Deep.AppendLies
import Derived.Maps.AppendAt
import Derived.OwnWalk
import Derived.Laws.BytesArg
import Derived.Laws.MakeOwn
import Derived.Laws.OwnMore
import Derived.Deep.OwnRows
import Derived.Tactics
import Derived.Lib.ConvBytes
import Derived.Laws.Slices
import Derived.WalkKit
import Derived.KernelRfl
import Derived.RowKit3
import Derived.Deep.LoopGhost
import Derived.Deep.QuietTactic
import Derived.BigQuiet
import Derived.WideLaws
import Derived.Deep.DeepCutAuto
import Derived.Deep.CutBlock
import Derived.Deep.RegionHeld3
import Derived.Laws.Rows
import Derived.Lib.AppendStr
import Derived.ArgAppend
import Derived.Laws.IdiomCopy
import Derived.OrdersHeld
import Derived.Laws.BitsLemmas
import Derived.RowKit
import Derived.Test.YtdmiihpblfkamaaWWords
import Derived.Test.YtdmiihpblfkamaaWLast
import Derived.Test.YtdmiihpblfkamaaWTab
import Derived.Test.YtdmiihpblfkamaaWFour
import Derived.Test.YtdmiihpblfkamaaWQPut
import Derived.Test.YtdmiihpblfkamaaWApart
import Derived.Test.YtdmiihpblfkamaaWArr
import Derived.Test.YtdmiihpblfkamaaWZeros
import Derived.Test.YtdmiihpblfkamaaWFoot
import Derived.Test.YtdmiihpblfkamaaWKept
import Derived.Test.YtdmiihpblfkamaaWShare
import Derived.Test.YtdmiihpblfkamaaWN
import Derived.Test.YtdmiihpblfkamaaWFootNe
import Derived.Test.YtdmiihpblfkamaaWAt
import Derived.Test.YtdmiihpblfkamaaWEqStruct
import Derived.Test.YtdmiihpblfkamaaWRepsOne
import Derived.Test.YtdmiihpblfkamaaWInv
import Derived.Test.YtdmiihpblfkamaaWInvWords
import Derived.Test.YtdmiihpblfkamaaWGuard
import Derived.Test.YtdmiihpblfkamaaWNEv
import Derived.Test.YtdmiihpblfkamaaWMore
import Derived.Test.YtdmiihpblfkamaaXOpen
namespace Go.Proofs.Ytdmiihpblfkamaa.GFnShades
open Go.RowKit Go.Proofs.YtdmiihpblfkamaaW.PrintWords Go.Proofs.YtdmiihpblfkamaaW.PrintLast Go.Proofs.YtdmiihpblfkamaaW.PrintMore
attribute [local go_sem] max2_int min2_int max_two min_two max_three min_three max_four min_four   -- for this text's walks alone
set_option linter.unusedVariables false
set_option linter.unusedSimpArgs false



def errW : Option Int → Value
  | none => .nilIface
  | some c => .iface 0 (.int .i64 c)
theorem errW_none : errW none = .nilIface := rfl
theorem errW_some (c : Int) : errW (some c) = .iface 0 (.int .i64 c) := rfl

theorem info9 : (Try.prog.info? 9).map (fun i => (i.zero, i.size, i.bytes)) = some (some (.string ⟨#[]⟩), 1, 16) := by kernel_rfl
-- the values' own types

end Go.Proofs.Ytdmiihpblfkamaa.GFnShades
