-- Written by the session's own program (gen.py) out of the translation's print. Lean checks it.
import Derived.Test.YtakagkflgkoiiaaProg
import Derived.Below
import Derived.Deep.Draws
import Derived.Deep.AppendLies
import Derived.Maps.AppendAt
import Derived.OwnWalk
import Derived.Laws.BytesArg
import Derived.Laws.MakeOwn
import Derived.Laws.OwnMore
import Derived.Deep.OwnRows
import Derived.Tactics
import Derived.Lib.ConvBytes
import Derived.Laws.Slices
import Derived.WalkKit
import Derived.KernelRfl
import Derived.RowKit3
import Derived.Deep.LoopGhost
import Derived.Deep.QuietTactic
import Derived.BigQuiet
import Derived.WideLaws
import Derived.Deep.DeepCutAuto
import Derived.Deep.CutBlock
import Derived.Deep.RegionHeld3
import Derived.Laws.Rows
import Derived.Lib.AppendStr
import Derived.ArgAppend
import Derived.Laws.IdiomCopy
import Derived.OrdersHeld
import Derived.Laws.BitsLemmas
import Derived.RowKit
import Derived.Test.YtakagkflgkoiiaaWWords
import Derived.Test.YtakagkflgkoiiaaWLast
import Derived.Test.YtakagkflgkoiiaaWTab
import Derived.Test.YtakagkflgkoiiaaWFour
import Derived.Test.YtakagkflgkoiiaaWQPut
import Derived.Test.YtakagkflgkoiiaaWApart
import Derived.Test.YtakagkflgkoiiaaWArr
import Derived.Test.YtakagkflgkoiiaaWZeros
import Derived.Test.YtakagkflgkoiiaaWFoot
import Derived.Test.YtakagkflgkoiiaaWKept
import Derived.Test.YtakagkflgkoiiaaWShare
import Derived.Test.YtakagkflgkoiiaaWN
import Derived.Test.YtakagkflgkoiiaaWFootNe
import Derived.Test.YtakagkflgkoiiaaWAt
import Derived.Test.YtakagkflgkoiiaaWEqStruct
import Derived.Test.YtakagkflgkoiiaaWRepsOne
import Derived.Test.YtakagkflgkoiiaaWInv
import Derived.Test.YtakagkflgkoiiaaWInvWords
import Derived.Test.YtakagkflgkoiiaaWGuard
import Derived.Test.YtakagkflgkoiiaaWNEv
import Derived.Test.YtakagkflgkoiiaaWMore
import Derived.Test.YtakagkflgkoiiaaXOpen
namespace Go.Proofs.Ytakagkflgkoiiaa.GFnExactFrameShape
open Go.RowKit Go.Proofs.YtakagkflgkoiiaaW.PrintWords Go.Proofs.YtakagkflgkoiiaaW.PrintLast Go.Proofs.YtakagkflgkoiiaaW.PrintMore
attribute [local go_sem] max2_int min2_int max_two min_two max_three min_three max_four min_four   -- for this text's walks alone
set_option linter.unusedVariables false
set_option linter.unusedSimpArgs false



def errW : Option Int → Value
  | none => .nilIface
  | some c => .iface 0 (.int .i64 c)
theorem errW_none : errW none = .nilIface := rfl
theorem errW_some (c : Int) : errW (some c) = .iface 0 (.int .i64 c) := rfl

theorem info2 : (Try.prog.info? 2).map (fun i => (i.zero, i.size, i.bytes)) = some (some (.int .i64 0), 1, 8) := by kernel_rfl
-- the values' own types

end Go.Proofs.Ytakagkflgkoiiaa.GFnExactFrameShape
