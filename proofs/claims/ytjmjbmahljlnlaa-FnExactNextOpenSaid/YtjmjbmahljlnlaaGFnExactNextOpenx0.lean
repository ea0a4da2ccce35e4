-- Written by the session's own program (gen.py) out of the translation's print. Lean checks it.
import Derived.Test.YtjmjbmahljlnlaaProg
import Derived.Below
import Derived.Deep.Draws
import Derived.Deep.AppendLies
import Derived.Maps.AppendAt
import Derived.OwnWalk
import Derived.Laws.BytesArg
import Derived.Laws.MakeOwn
import Derived.Laws.OwnMore
import Derived.Deep.OwnRows
import Derived.Tactics
import Derived.Lib.ConvBytes
import Derived.Laws.Slices
import Derived.WalkKit
import Derived.KernelRfl
import Derived.RowKit3
import Derived.Deep.LoopGhost
import Derived.Deep.QuietTactic
import Derived.BigQuiet
import Derived.WideLaws
import Derived.Deep.DeepCutAuto
import Derived.Deep.CutBlock
import Derived.Deep.RegionHeld3
import Derived.Laws.Rows
import Derived.Lib.AppendStr
import Derived.ArgAppend
import Derived.Laws.IdiomCopy
import Derived.OrdersHeld
import Derived.Laws.BitsLemmas
import Derived.RowKit
import Derived.Test.YtjmjbmahljlnlaaWWords
import Derived.Test.YtjmjbmahljlnlaaWLast
import Derived.Test.YtjmjbmahljlnlaaWTab
import Derived.Test.YtjmjbmahljlnlaaWFour
import Derived.Test.YtjmjbmahljlnlaaWQPut
import Derived.Test.YtjmjbmahljlnlaaWApart
import Derived.Test.YtjmjbmahljlnlaaWArr
import Derived.Test.YtjmjbmahljlnlaaWZeros
import Derived.Test.YtjmjbmahljlnlaaWFoot
import Derived.Test.YtjmjbmahljlnlaaWKept
import Derived.Test.YtjmjbmahljlnlaaWShare
import Derived.Test.YtjmjbmahljlnlaaWN
import Derived.Test.YtjmjbmahljlnlaaWFootNe
import Derived.Test.YtjmjbmahljlnlaaWAt
import Derived.Test.YtjmjbmahljlnlaaWEqStruct
import Derived.Test.YtjmjbmahljlnlaaWRepsOne
import Derived.Test.YtjmjbmahljlnlaaWInv
import Derived.Test.YtjmjbmahljlnlaaWInvWords
import Derived.Test.YtjmjbmahljlnlaaWGuard
import Derived.Test.YtjmjbmahljlnlaaWNEv
import Derived.Test.YtjmjbmahljlnlaaWMore
import Derived.Test.YtjmjbmahljlnlaaXOpen
namespace Go.Proofs.Ytjmjbmahljlnlaa.GFnExactNextOpen
open Go.RowKit Go.Proofs.YtjmjbmahljlnlaaW.PrintWords Go.Proofs.YtjmjbmahljlnlaaW.PrintLast Go.Proofs.YtjmjbmahljlnlaaW.PrintMore
attribute [local go_sem] max2_int min2_int max_two min_two max_three min_three max_four min_four   -- for this text's walks alone
set_option linter.unusedVariables false
set_option linter.unusedSimpArgs false



def errW : Option Int → Value
  | none => .nilIface
  | some c => .iface 0 (.int .i64 c)
theorem errW_none : errW none = .nilIface := rfl
theorem errW_some (c : Int) : errW (some c) = .iface 0 (.int .i64 c) := rfl

-- the values' own types

end Go.Proofs.Ytjmjbmahljlnlaa.GFnExactNextOpen
