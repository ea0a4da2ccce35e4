/-
  No cell of these rows narrows 'for every input' (looked for: loops, veiled, ifaces, maps, wideKeys, modest, calm, conditions, laid).
  DERIVED. THE GIVEN ROWS OF THIS SEAT. 8 by the template 'for every input the law returns true; each argument reads behind the call as it read before'; 0 by the template 'total and deterministic' (their statements: YtjmjbmahljlnlaaTotals.lean).
  GIVEN WITH THE SEED: the statements are not yours to turn. If you find one false, say at which input.
  Laid BY PROGRAM, IN A SANDBOX (cutbox-rows.mjs): the forced cells as the released guide's own fill.sh prints them over the translation 8871ab9e5371153d… (all of the seat's roots in one cut). By AI agents, Wed Nov 11 2026. No macro, syntax, notation, axiom, sorry.
-/
import Derived.Test.YtjmjbmahljlnlaaChecked
import GoSem.Claim
import GoSem.ClaimJoined
import GoSem.ClaimMapViews
import Derived.JoinedTies
import Derived.KernelRfl
namespace Go.Proofs.Ytjmjbmahljlnlaa
/- THE CELL 'sum', in the pinned program and in every row, IS THE sha256 OF THE DUMP (.gsa) THAT YtjmjbmahljlnlaaProg.lean LOADS. Nothing in Lean hashes anything: it is a label: what it is worth is what the hold of that sum in a sandbox is worth. -/
noncomputable def Try.pinned : Pinned := { name := "ytjmjbmahljlnlaa", sum := "8871ab9e5371153d7e970f68472b5ac20c10130be728aec371a11813ba86ec34", checked := Try.checked }
namespace Rows
def none {H : Type} : Left H := { results := [], args := [] }

/-- 'laws.FnExactNextOpen': WHATEVER THE INPUT: true; the input reads as it did. -/
def fnExactNextOpenSpec : ChangeSpec := { name := "fnExactNextOpen", fn := fun _ => fun
  | [d1, d2, d3, d4] => { results := [.lit (.bool true)], args := [d1, d2, d3, d4] }
  | _ => none }
def fnExactNextOpenRow : OpenClaim := { program := "ytjmjbmahljlnlaa", sum := "8871ab9e5371153d7e970f68472b5ac20c10130be728aec371a11813ba86ec34", func := "loop.example/g00956/laws.FnExactNextOpen", spec := "fnExactNextOpen", apart := false }
def FnExactNextOpenSaid : Prop := fnExactNextOpenRow.holds Try.pinned (OpenSpec.ofChange fnExactNextOpenSpec)

/-- ITS FALSE NEIGHBOUR: 'it returns false'. Refute it at one input. -/
def fnExactNextOpenWrong : ChangeSpec := { name := "fnExactNextOpen", fn := fun _ => fun
  | [d1, d2, d3, d4] => { results := [.lit (.bool false)], args := [d1, d2, d3, d4] }
  | _ => none }
def FnExactNextOpenWrongFalsely : Prop := fnExactNextOpenRow.holds Try.pinned (OpenSpec.ofChange fnExactNextOpenWrong)

/-- 'laws.FnExactValidCoat': WHATEVER THE INPUT: true; the input reads as it did. -/
def fnExactValidCoatSpec : ChangeSpec := { name := "fnExactValidCoat", fn := fun _ => fun
  | [d] => { results := [.lit (.bool true)], args := [d] }
  | _ => none }
def fnExactValidCoatRow : OpenClaim := { program := "ytjmjbmahljlnlaa", sum := "8871ab9e5371153d7e970f68472b5ac20c10130be728aec371a11813ba86ec34", func := "loop.example/g00956/laws.FnExactValidCoat", spec := "fnExactValidCoat", apart := false }
def FnExactValidCoatSaid : Prop := fnExactValidCoatRow.holds Try.pinned (OpenSpec.ofChange fnExactValidCoatSpec)

/-- ITS FALSE NEIGHBOUR: 'it returns false'. Refute it at one input. -/
def fnExactValidCoatWrong : ChangeSpec := { name := "fnExactValidCoat", fn := fun _ => fun
  | [d] => { results := [.lit (.bool false)], args := [d] }
  | _ => none }
def FnExactValidCoatWrongFalsely : Prop := fnExactValidCoatRow.holds Try.pinned (OpenSpec.ofChange fnExactValidCoatWrong)

/-- 'laws.FnExactDryIn': WHATEVER THE INPUT: true; the input reads as it did. -/
def fnExactDryInSpec : ChangeSpec := { name := "fnExactDryIn", fn := fun _ => fun
  | [d1, d2] => { results := [.lit (.bool true)], args := [d1, d2] }
  | _ => none }
def fnExactDryInRow : OpenClaim := { program := "ytjmjbmahljlnlaa", sum := "8871ab9e5371153d7e970f68472b5ac20c10130be728aec371a11813ba86ec34", func := "loop.example/g00956/laws.FnExactDryIn", spec := "fnExactDryIn", apart := false }
def FnExactDryInSaid : Prop := fnExactDryInRow.holds Try.pinned (OpenSpec.ofChange fnExactDryInSpec)

/-- ITS FALSE NEIGHBOUR: 'it returns false'. Refute it at one input. -/
def fnExactDryInWrong : ChangeSpec := { name := "fnExactDryIn", fn := fun _ => fun
  | [d1, d2] => { results := [.lit (.bool false)], args := [d1, d2] }
  | _ => none }
def FnExactDryInWrongFalsely : Prop := fnExactDryInRow.holds Try.pinned (OpenSpec.ofChange fnExactDryInWrong)

/-- 'laws.FnExactValidCoats': WHATEVER THE INPUT: true; the input reads as it did. -/
def fnExactValidCoatsSpec : ChangeSpec := { name := "fnExactValidCoats", fn := fun _ => fun
  | [d] => { results := [.lit (.bool true)], args := [d] }
  | _ => none }
def fnExactValidCoatsRow : OpenClaim := { program := "ytjmjbmahljlnlaa", sum := "8871ab9e5371153d7e970f68472b5ac20c10130be728aec371a11813ba86ec34", func := "loop.example/g00956/laws.FnExactValidCoats", spec := "fnExactValidCoats", unfollowed := true, recurses := true, apart := false }
def FnExactValidCoatsSaid : Prop := fnExactValidCoatsRow.holds Try.pinned (OpenSpec.ofChange fnExactValidCoatsSpec)

/-- ITS FALSE NEIGHBOUR: 'it returns false'. Refute it at one input. -/
def fnExactValidCoatsWrong : ChangeSpec := { name := "fnExactValidCoats", fn := fun _ => fun
  | [d] => { results := [.lit (.bool false)], args := [d] }
  | _ => none }
def FnExactValidCoatsWrongFalsely : Prop := fnExactValidCoatsRow.holds Try.pinned (OpenSpec.ofChange fnExactValidCoatsWrong)

/-- 'laws.FnExactWorkingTime': WHATEVER THE INPUT: true; the input reads as it did. -/
def fnExactWorkingTimeSpec : ChangeSpec := { name := "fnExactWorkingTime", fn := fun _ => fun
  | [d] => { results := [.lit (.bool true)], args := [d] }
  | _ => none }
def fnExactWorkingTimeRow : OpenClaim := { program := "ytjmjbmahljlnlaa", sum := "8871ab9e5371153d7e970f68472b5ac20c10130be728aec371a11813ba86ec34", func := "loop.example/g00956/laws.FnExactWorkingTime", spec := "fnExactWorkingTime", unfollowed := true, recurses := true, apart := false }
def FnExactWorkingTimeSaid : Prop := fnExactWorkingTimeRow.holds Try.pinned (OpenSpec.ofChange fnExactWorkingTimeSpec)

/-- ITS FALSE NEIGHBOUR: 'it returns false'. Refute it at one input. -/
def fnExactWorkingTimeWrong : ChangeSpec := { name := "fnExactWorkingTime", fn := fun _ => fun
  | [d] => { results := [.lit (.bool false)], args := [d] }
  | _ => none }
def FnExactWorkingTimeWrongFalsely : Prop := fnExactWorkingTimeRow.holds Try.pinned (OpenSpec.ofChange fnExactWorkingTimeWrong)

/-- 'laws.FnExactPlanEnd': WHATEVER THE INPUT: true; the input reads as it did. -/
def fnExactPlanEndSpec : ChangeSpec := { name := "fnExactPlanEnd", fn := fun _ => fun
  | [d1, d2] => { results := [.lit (.bool true)], args := [d1, d2] }
  | _ => none }
def fnExactPlanEndRow : OpenClaim := { program := "ytjmjbmahljlnlaa", sum := "8871ab9e5371153d7e970f68472b5ac20c10130be728aec371a11813ba86ec34", func := "loop.example/g00956/laws.FnExactPlanEnd", spec := "fnExactPlanEnd", unfollowed := true, recurses := true, apart := false }
def FnExactPlanEndSaid : Prop := fnExactPlanEndRow.holds Try.pinned (OpenSpec.ofChange fnExactPlanEndSpec)

/-- ITS FALSE NEIGHBOUR: 'it returns false'. Refute it at one input. -/
def fnExactPlanEndWrong : ChangeSpec := { name := "fnExactPlanEnd", fn := fun _ => fun
  | [d1, d2] => { results := [.lit (.bool false)], args := [d1, d2] }
  | _ => none }
def FnExactPlanEndWrongFalsely : Prop := fnExactPlanEndRow.holds Try.pinned (OpenSpec.ofChange fnExactPlanEndWrong)

/-- 'laws.FnExactIsCoatPlan': WHATEVER THE INPUT: true; the input reads as it did. -/
def fnExactIsCoatPlanSpec : ChangeSpec := { name := "fnExactIsCoatPlan", fn := fun _ => fun
  | [d1, d2, d3, d4, d5] => { results := [.lit (.bool true)], args := [d1, d2, d3, d4, d5] }
  | _ => none }
def fnExactIsCoatPlanRow : OpenClaim := { program := "ytjmjbmahljlnlaa", sum := "8871ab9e5371153d7e970f68472b5ac20c10130be728aec371a11813ba86ec34", func := "loop.example/g00956/laws.FnExactIsCoatPlan", spec := "fnExactIsCoatPlan", unfollowed := true, recurses := true, apart := false }
def FnExactIsCoatPlanSaid : Prop := fnExactIsCoatPlanRow.holds Try.pinned (OpenSpec.ofChange fnExactIsCoatPlanSpec)

/-- ITS FALSE NEIGHBOUR: 'it returns false'. Refute it at one input. -/
def fnExactIsCoatPlanWrong : ChangeSpec := { name := "fnExactIsCoatPlan", fn := fun _ => fun
  | [d1, d2, d3, d4, d5] => { results := [.lit (.bool false)], args := [d1, d2, d3, d4, d5] }
  | _ => none }
def FnExactIsCoatPlanWrongFalsely : Prop := fnExactIsCoatPlanRow.holds Try.pinned (OpenSpec.ofChange fnExactIsCoatPlanWrong)

/-- 'laws.FnExactEarlyPlan': WHATEVER THE INPUT: true; the input reads as it did. -/
def fnExactEarlyPlanSpec : ChangeSpec := { name := "fnExactEarlyPlan", fn := fun _ => fun
  | [d1, d2, d3, d4] => { results := [.lit (.bool true)], args := [d1, d2, d3, d4] }
  | _ => none }
def fnExactEarlyPlanRow : OpenClaim := { program := "ytjmjbmahljlnlaa", sum := "8871ab9e5371153d7e970f68472b5ac20c10130be728aec371a11813ba86ec34", func := "loop.example/g00956/laws.FnExactEarlyPlan", spec := "fnExactEarlyPlan", unfollowed := true, recurses := true, apart := false }
def FnExactEarlyPlanSaid : Prop := fnExactEarlyPlanRow.holds Try.pinned (OpenSpec.ofChange fnExactEarlyPlanSpec)

/-- ITS FALSE NEIGHBOUR: 'it returns false'. Refute it at one input. -/
def fnExactEarlyPlanWrong : ChangeSpec := { name := "fnExactEarlyPlan", fn := fun _ => fun
  | [d1, d2, d3, d4] => { results := [.lit (.bool false)], args := [d1, d2, d3, d4] }
  | _ => none }
def FnExactEarlyPlanWrongFalsely : Prop := fnExactEarlyPlanRow.holds Try.pinned (OpenSpec.ofChange fnExactEarlyPlanWrong)

/- THE SECOND FORM. 'bulk': how many values and letters a reading holds, each counted each time it is reached (what is shared counts as often as it is met; a slice's spare places count too). A statement '..UptoSaid' is the law's where the arguments, and the package variables that the reading takes, are together of bulk at most 1048576: NARROWER than '..Said'. Prove '..Said' where nothing that the law and all that it calls make is longer than what came in: it says more and counts as full. Else prove '..UptoSaid'. A law counts once. -/
mutual
def uptoBulk {H : Type} : DataW H → Nat
  | .lit (.string bytes) => bytes.length + 1
  | .lit _ => 1
  | .nil => 1
  | .ptr d => uptoBulk d + 1
  | .slice elems spare => uptoBulkAll elems + uptoBulkAll spare + 1
  | .agg parts => uptoBulkAll parts + 1
  | .iface _ d => uptoBulk d + 1
  | .map entries => uptoBulkEntries entries + 1
  | .held _ => 1
def uptoBulkAll {H : Type} : List (DataW H) → Nat
  | [] => 0
  | d :: r => uptoBulk d + uptoBulkAll r
def uptoBulkEntries {H : Type} : List (Lit × DataW H) → Nat
  | [] => 0
  | x :: r => uptoBulkEntry x + uptoBulkEntries r
def uptoBulkEntry {H : Type} : Lit × DataW H → Nat
  | (.string bytes, d) => bytes.length + uptoBulk d + 1
  | (_, d) => uptoBulk d + 1
 end
def uptoSmall : (H : Type) → List (DataW H) → Bool := fun _ ds => decide (uptoBulkAll ds ≤ 1048576)
def OpenSpec.upto (s : _root_.Go.ChangeSpec) : _root_.Go.OpenSpec := { _root_.Go.OpenSpec.ofChange s with cond := some uptoSmall }

/-- 'laws.FnExactNextOpen', WHERE WHAT IT READS IS OF BULK AT MOST 1048576: true; the input reads as it did. -/
def fnExactNextOpenUptoRow : OpenClaim := { program := "ytjmjbmahljlnlaa", sum := "8871ab9e5371153d7e970f68472b5ac20c10130be728aec371a11813ba86ec34", func := "loop.example/g00956/laws.FnExactNextOpen", spec := "fnExactNextOpen", apart := false, narrowed := true }
def FnExactNextOpenUptoSaid : Prop := fnExactNextOpenUptoRow.holds Try.pinned (OpenSpec.upto fnExactNextOpenSpec)

/-- 'laws.FnExactValidCoat', WHERE WHAT IT READS IS OF BULK AT MOST 1048576: true; the input reads as it did. -/
def fnExactValidCoatUptoRow : OpenClaim := { program := "ytjmjbmahljlnlaa", sum := "8871ab9e5371153d7e970f68472b5ac20c10130be728aec371a11813ba86ec34", func := "loop.example/g00956/laws.FnExactValidCoat", spec := "fnExactValidCoat", apart := false, narrowed := true }
def FnExactValidCoatUptoSaid : Prop := fnExactValidCoatUptoRow.holds Try.pinned (OpenSpec.upto fnExactValidCoatSpec)

/-- 'laws.FnExactDryIn', WHERE WHAT IT READS IS OF BULK AT MOST 1048576: true; the input reads as it did. -/
def fnExactDryInUptoRow : OpenClaim := { program := "ytjmjbmahljlnlaa", sum := "8871ab9e5371153d7e970f68472b5ac20c10130be728aec371a11813ba86ec34", func := "loop.example/g00956/laws.FnExactDryIn", spec := "fnExactDryIn", apart := false, narrowed := true }
def FnExactDryInUptoSaid : Prop := fnExactDryInUptoRow.holds Try.pinned (OpenSpec.upto fnExactDryInSpec)

/-- 'laws.FnExactValidCoats', WHERE WHAT IT READS IS OF BULK AT MOST 1048576: true; the input reads as it did. -/
def fnExactValidCoatsUptoRow : OpenClaim := { program := "ytjmjbmahljlnlaa", sum := "8871ab9e5371153d7e970f68472b5ac20c10130be728aec371a11813ba86ec34", func := "loop.example/g00956/laws.FnExactValidCoats", spec := "fnExactValidCoats", unfollowed := true, recurses := true, apart := false, narrowed := true }
def FnExactValidCoatsUptoSaid : Prop := fnExactValidCoatsUptoRow.holds Try.pinned (OpenSpec.upto fnExactValidCoatsSpec)

/-- 'laws.FnExactWorkingTime', WHERE WHAT IT READS IS OF BULK AT MOST 1048576: true; the input reads as it did. -/
def fnExactWorkingTimeUptoRow : OpenClaim := { program := "ytjmjbmahljlnlaa", sum := "8871ab9e5371153d7e970f68472b5ac20c10130be728aec371a11813ba86ec34", func := "loop.example/g00956/laws.FnExactWorkingTime", spec := "fnExactWorkingTime", unfollowed := true, recurses := true, apart := false, narrowed := true }
def FnExactWorkingTimeUptoSaid : Prop := fnExactWorkingTimeUptoRow.holds Try.pinned (OpenSpec.upto fnExactWorkingTimeSpec)

/-- 'laws.FnExactPlanEnd', WHERE WHAT IT READS IS OF BULK AT MOST 1048576: true; the input reads as it did. -/
def fnExactPlanEndUptoRow : OpenClaim := { program := "ytjmjbmahljlnlaa", sum := "8871ab9e5371153d7e970f68472b5ac20c10130be728aec371a11813ba86ec34", func := "loop.example/g00956/laws.FnExactPlanEnd", spec := "fnExactPlanEnd", unfollowed := true, recurses := true, apart := false, narrowed := true }
def FnExactPlanEndUptoSaid : Prop := fnExactPlanEndUptoRow.holds Try.pinned (OpenSpec.upto fnExactPlanEndSpec)

/-- 'laws.FnExactIsCoatPlan', WHERE WHAT IT READS IS OF BULK AT MOST 1048576: true; the input reads as it did. -/
def fnExactIsCoatPlanUptoRow : OpenClaim := { program := "ytjmjbmahljlnlaa", sum := "8871ab9e5371153d7e970f68472b5ac20c10130be728aec371a11813ba86ec34", func := "loop.example/g00956/laws.FnExactIsCoatPlan", spec := "fnExactIsCoatPlan", unfollowed := true, recurses := true, apart := false, narrowed := true }
def FnExactIsCoatPlanUptoSaid : Prop := fnExactIsCoatPlanUptoRow.holds Try.pinned (OpenSpec.upto fnExactIsCoatPlanSpec)

/-- 'laws.FnExactEarlyPlan', WHERE WHAT IT READS IS OF BULK AT MOST 1048576: true; the input reads as it did. -/
def fnExactEarlyPlanUptoRow : OpenClaim := { program := "ytjmjbmahljlnlaa", sum := "8871ab9e5371153d7e970f68472b5ac20c10130be728aec371a11813ba86ec34", func := "loop.example/g00956/laws.FnExactEarlyPlan", spec := "fnExactEarlyPlan", unfollowed := true, recurses := true, apart := false, narrowed := true }
def FnExactEarlyPlanUptoSaid : Prop := fnExactEarlyPlanUptoRow.holds Try.pinned (OpenSpec.upto fnExactEarlyPlanSpec)

end Rows
end Go.Proofs.Ytjmjbmahljlnlaa
