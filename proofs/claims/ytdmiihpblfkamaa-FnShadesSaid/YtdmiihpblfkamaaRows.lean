/-
  No cell of these rows narrows 'for every input' (looked for: loops, veiled, ifaces, maps, wideKeys, modest, calm, conditions, laid).
  DERIVED. THE GIVEN ROWS OF THIS SEAT. 8 by the template 'for every input the law returns true; each argument reads behind the call as it read before'; 0 by the template 'total and deterministic' (their statements: YtdmiihpblfkamaaTotals.lean).
  GIVEN WITH THE SEED: the statements are not yours to turn. If you find one false, say at which input.
  Laid BY PROGRAM, IN A SANDBOX (cutbox-rows.mjs): the forced cells as the released guide's own fill.sh prints them over the translation d194b49856f2eec5… (all of the seat's roots in one cut). By AI agents, Wed Nov 11 2026. No macro, syntax, notation, axiom, sorry.
-/
import Derived.Test.YtdmiihpblfkamaaChecked
import GoSem.Claim
import GoSem.ClaimJoined
import GoSem.ClaimMapViews
import Derived.JoinedTies
import Derived.KernelRfl
namespace Go.Proofs.Ytdmiihpblfkamaa
/- THE CELL 'sum', in the pinned program and in every row, IS THE sha256 OF THE DUMP (.gsa) THAT YtdmiihpblfkamaaProg.lean LOADS. Nothing in Lean hashes anything: it is a label: what it is worth is what the hold of that sum in a sandbox is worth. -/
noncomputable def Try.pinned : Pinned := { name := "ytdmiihpblfkamaa", sum := "d194b49856f2eec59e908615371cd4828cc50f15fe5ad94253f7070a3f44f8fc", checked := Try.checked }
namespace Rows
def none {H : Type} : Left H := { results := [], args := [] }

/-- 'laws.FnExactValidStep': WHATEVER THE INPUT: true; the input reads as it did. -/
def fnExactValidStepSpec : ChangeSpec := { name := "fnExactValidStep", fn := fun _ => fun
  | [d] => { results := [.lit (.bool true)], args := [d] }
  | _ => none }
def fnExactValidStepRow : OpenClaim := { program := "ytdmiihpblfkamaa", sum := "d194b49856f2eec59e908615371cd4828cc50f15fe5ad94253f7070a3f44f8fc", func := "loop.example/g00956/laws.FnExactValidStep", spec := "fnExactValidStep", apart := false }
def FnExactValidStepSaid : Prop := fnExactValidStepRow.holds Try.pinned (OpenSpec.ofChange fnExactValidStepSpec)

/-- ITS FALSE NEIGHBOUR: 'it returns false'. Refute it at one input. -/
def fnExactValidStepWrong : ChangeSpec := { name := "fnExactValidStep", fn := fun _ => fun
  | [d] => { results := [.lit (.bool false)], args := [d] }
  | _ => none }
def FnExactValidStepWrongFalsely : Prop := fnExactValidStepRow.holds Try.pinned (OpenSpec.ofChange fnExactValidStepWrong)

/-- 'laws.FnExactDaysToSettle': WHATEVER THE INPUT: true; the input reads as it did. -/
def fnExactDaysToSettleSpec : ChangeSpec := { name := "fnExactDaysToSettle", fn := fun _ => fun
  | [d1, d2, d3, d4] => { results := [.lit (.bool true)], args := [d1, d2, d3, d4] }
  | _ => none }
def fnExactDaysToSettleRow : OpenClaim := { program := "ytdmiihpblfkamaa", sum := "d194b49856f2eec59e908615371cd4828cc50f15fe5ad94253f7070a3f44f8fc", func := "loop.example/g00956/laws.FnExactDaysToSettle", spec := "fnExactDaysToSettle", apart := false }
def FnExactDaysToSettleSaid : Prop := fnExactDaysToSettleRow.holds Try.pinned (OpenSpec.ofChange fnExactDaysToSettleSpec)

/-- ITS FALSE NEIGHBOUR: 'it returns false'. Refute it at one input. -/
def fnExactDaysToSettleWrong : ChangeSpec := { name := "fnExactDaysToSettle", fn := fun _ => fun
  | [d1, d2, d3, d4] => { results := [.lit (.bool false)], args := [d1, d2, d3, d4] }
  | _ => none }
def FnExactDaysToSettleWrongFalsely : Prop := fnExactDaysToSettleRow.holds Try.pinned (OpenSpec.ofChange fnExactDaysToSettleWrong)

/-- 'laws.FnExactSandGain': WHATEVER THE INPUT: true; the input reads as it did. -/
def fnExactSandGainSpec : ChangeSpec := { name := "fnExactSandGain", fn := fun _ => fun
  | [d1, d2, d3] => { results := [.lit (.bool true)], args := [d1, d2, d3] }
  | _ => none }
def fnExactSandGainRow : OpenClaim := { program := "ytdmiihpblfkamaa", sum := "d194b49856f2eec59e908615371cd4828cc50f15fe5ad94253f7070a3f44f8fc", func := "loop.example/g00956/laws.FnExactSandGain", spec := "fnExactSandGain", apart := false }
def FnExactSandGainSaid : Prop := fnExactSandGainRow.holds Try.pinned (OpenSpec.ofChange fnExactSandGainSpec)

/-- ITS FALSE NEIGHBOUR: 'it returns false'. Refute it at one input. -/
def fnExactSandGainWrong : ChangeSpec := { name := "fnExactSandGain", fn := fun _ => fun
  | [d1, d2, d3] => { results := [.lit (.bool false)], args := [d1, d2, d3] }
  | _ => none }
def FnExactSandGainWrongFalsely : Prop := fnExactSandGainRow.holds Try.pinned (OpenSpec.ofChange fnExactSandGainWrong)

/-- 'laws.FnExactSandTime': WHATEVER THE INPUT: true; the input reads as it did. -/
def fnExactSandTimeSpec : ChangeSpec := { name := "fnExactSandTime", fn := fun _ => fun
  | [d1, d2, d3] => { results := [.lit (.bool true)], args := [d1, d2, d3] }
  | _ => none }
def fnExactSandTimeRow : OpenClaim := { program := "ytdmiihpblfkamaa", sum := "d194b49856f2eec59e908615371cd4828cc50f15fe5ad94253f7070a3f44f8fc", func := "loop.example/g00956/laws.FnExactSandTime", spec := "fnExactSandTime", apart := false }
def FnExactSandTimeSaid : Prop := fnExactSandTimeRow.holds Try.pinned (OpenSpec.ofChange fnExactSandTimeSpec)

/-- ITS FALSE NEIGHBOUR: 'it returns false'. Refute it at one input. -/
def fnExactSandTimeWrong : ChangeSpec := { name := "fnExactSandTime", fn := fun _ => fun
  | [d1, d2, d3] => { results := [.lit (.bool false)], args := [d1, d2, d3] }
  | _ => none }
def FnExactSandTimeWrongFalsely : Prop := fnExactSandTimeRow.holds Try.pinned (OpenSpec.ofChange fnExactSandTimeWrong)

/-- 'laws.FnExactSameRecipe': WHATEVER THE INPUT: true; the input reads as it did. -/
def fnExactSameRecipeSpec : ChangeSpec := { name := "fnExactSameRecipe", fn := fun _ => fun
  | [d1, d2] => { results := [.lit (.bool true)], args := [d1, d2] }
  | _ => none }
def fnExactSameRecipeRow : OpenClaim := { program := "ytdmiihpblfkamaa", sum := "d194b49856f2eec59e908615371cd4828cc50f15fe5ad94253f7070a3f44f8fc", func := "loop.example/g00956/laws.FnExactSameRecipe", spec := "fnExactSameRecipe", apart := false }
def FnExactSameRecipeSaid : Prop := fnExactSameRecipeRow.holds Try.pinned (OpenSpec.ofChange fnExactSameRecipeSpec)

/-- ITS FALSE NEIGHBOUR: 'it returns false'. Refute it at one input. -/
def fnExactSameRecipeWrong : ChangeSpec := { name := "fnExactSameRecipe", fn := fun _ => fun
  | [d1, d2] => { results := [.lit (.bool false)], args := [d1, d2] }
  | _ => none }
def FnExactSameRecipeWrongFalsely : Prop := fnExactSameRecipeRow.holds Try.pinned (OpenSpec.ofChange fnExactSameRecipeWrong)

/-- 'laws.FnShades': WHATEVER THE INPUT: true; the input reads as it did. -/
def fnShadesSpec : ChangeSpec := { name := "fnShades", fn := fun _ => fun
  | [d1, d2] => { results := [.lit (.bool true)], args := [d1, d2] }
  | _ => none }
def fnShadesRow : OpenClaim := { program := "ytdmiihpblfkamaa", sum := "d194b49856f2eec59e908615371cd4828cc50f15fe5ad94253f7070a3f44f8fc", func := "loop.example/g00956/laws.FnShades", spec := "fnShades", apart := false }
def FnShadesSaid : Prop := fnShadesRow.holds Try.pinned (OpenSpec.ofChange fnShadesSpec)

/-- ITS FALSE NEIGHBOUR: 'it returns false'. Refute it at one input. -/
def fnShadesWrong : ChangeSpec := { name := "fnShades", fn := fun _ => fun
  | [d1, d2] => { results := [.lit (.bool false)], args := [d1, d2] }
  | _ => none }
def FnShadesWrongFalsely : Prop := fnShadesRow.holds Try.pinned (OpenSpec.ofChange fnShadesWrong)

/-- 'laws.FnExactSwellOf': WHATEVER THE INPUT: true; the input reads as it did. -/
def fnExactSwellOfSpec : ChangeSpec := { name := "fnExactSwellOf", fn := fun _ => fun
  | [d1, d2, d3] => { results := [.lit (.bool true)], args := [d1, d2, d3] }
  | _ => none }
def fnExactSwellOfRow : OpenClaim := { program := "ytdmiihpblfkamaa", sum := "d194b49856f2eec59e908615371cd4828cc50f15fe5ad94253f7070a3f44f8fc", func := "loop.example/g00956/laws.FnExactSwellOf", spec := "fnExactSwellOf", apart := false }
def FnExactSwellOfSaid : Prop := fnExactSwellOfRow.holds Try.pinned (OpenSpec.ofChange fnExactSwellOfSpec)

/-- ITS FALSE NEIGHBOUR: 'it returns false'. Refute it at one input. -/
def fnExactSwellOfWrong : ChangeSpec := { name := "fnExactSwellOf", fn := fun _ => fun
  | [d1, d2, d3] => { results := [.lit (.bool false)], args := [d1, d2, d3] }
  | _ => none }
def FnExactSwellOfWrongFalsely : Prop := fnExactSwellOfRow.holds Try.pinned (OpenSpec.ofChange fnExactSwellOfWrong)

/-- 'laws.FnExactValidBoards': WHATEVER THE INPUT: true; the input reads as it did. -/
def fnExactValidBoardsSpec : ChangeSpec := { name := "fnExactValidBoards", fn := fun _ => fun
  | [d] => { results := [.lit (.bool true)], args := [d] }
  | _ => none }
def fnExactValidBoardsRow : OpenClaim := { program := "ytdmiihpblfkamaa", sum := "d194b49856f2eec59e908615371cd4828cc50f15fe5ad94253f7070a3f44f8fc", func := "loop.example/g00956/laws.FnExactValidBoards", spec := "fnExactValidBoards", apart := false }
def FnExactValidBoardsSaid : Prop := fnExactValidBoardsRow.holds Try.pinned (OpenSpec.ofChange fnExactValidBoardsSpec)

/-- ITS FALSE NEIGHBOUR: 'it returns false'. Refute it at one input. -/
def fnExactValidBoardsWrong : ChangeSpec := { name := "fnExactValidBoards", fn := fun _ => fun
  | [d] => { results := [.lit (.bool false)], args := [d] }
  | _ => none }
def FnExactValidBoardsWrongFalsely : Prop := fnExactValidBoardsRow.holds Try.pinned (OpenSpec.ofChange fnExactValidBoardsWrong)

/- THE SECOND FORM. 'bulk': how many values and letters a reading holds, each counted each time it is reached (what is shared counts as often as it is met; a slice's spare places count too). A statement '..UptoSaid' is the law's where the arguments, and the package variables that the reading takes, are together of bulk at most 1048576: NARROWER than '..Said'. Prove '..Said' where nothing that the law and all that it calls make is longer than what came in: it says more and counts as full. Else prove '..UptoSaid'. A law counts once. -/
mutual
def uptoBulk {H : Type} : DataW H → Nat
  | .lit (.string bytes) => bytes.length + 1
  | .lit _ => 1
  | .nil => 1
  | .ptr d => uptoBulk d + 1
  | .slice elems spare => uptoBulkAll elems + uptoBulkAll spare + 1
  | .agg parts => uptoBulkAll parts + 1
  | .iface _ d => uptoBulk d + 1
  | .map entries => uptoBulkEntries entries + 1
  | .held _ => 1
def uptoBulkAll {H : Type} : List (DataW H) → Nat
  | [] => 0
  | d :: r => uptoBulk d + uptoBulkAll r
def uptoBulkEntries {H : Type} : List (Lit × DataW H) → Nat
  | [] => 0
  | x :: r => uptoBulkEntry x + uptoBulkEntries r
def uptoBulkEntry {H : Type} : Lit × DataW H → Nat
  | (.string bytes, d) => bytes.length + uptoBulk d + 1
  | (_, d) => uptoBulk d + 1
 end
def uptoSmall : (H : Type) → List (DataW H) → Bool := fun _ ds => decide (uptoBulkAll ds ≤ 1048576)
def OpenSpec.upto (s : _root_.Go.ChangeSpec) : _root_.Go.OpenSpec := { _root_.Go.OpenSpec.ofChange s with cond := some uptoSmall }

/-- 'laws.FnExactValidStep', WHERE WHAT IT READS IS OF BULK AT MOST 1048576: true; the input reads as it did. -/
def fnExactValidStepUptoRow : OpenClaim := { program := "ytdmiihpblfkamaa", sum := "d194b49856f2eec59e908615371cd4828cc50f15fe5ad94253f7070a3f44f8fc", func := "loop.example/g00956/laws.FnExactValidStep", spec := "fnExactValidStep", apart := false, narrowed := true }
def FnExactValidStepUptoSaid : Prop := fnExactValidStepUptoRow.holds Try.pinned (OpenSpec.upto fnExactValidStepSpec)

/-- 'laws.FnExactDaysToSettle', WHERE WHAT IT READS IS OF BULK AT MOST 1048576: true; the input reads as it did. -/
def fnExactDaysToSettleUptoRow : OpenClaim := { program := "ytdmiihpblfkamaa", sum := "d194b49856f2eec59e908615371cd4828cc50f15fe5ad94253f7070a3f44f8fc", func := "loop.example/g00956/laws.FnExactDaysToSettle", spec := "fnExactDaysToSettle", apart := false, narrowed := true }
def FnExactDaysToSettleUptoSaid : Prop := fnExactDaysToSettleUptoRow.holds Try.pinned (OpenSpec.upto fnExactDaysToSettleSpec)

/-- 'laws.FnExactSandGain', WHERE WHAT IT READS IS OF BULK AT MOST 1048576: true; the input reads as it did. -/
def fnExactSandGainUptoRow : OpenClaim := { program := "ytdmiihpblfkamaa", sum := "d194b49856f2eec59e908615371cd4828cc50f15fe5ad94253f7070a3f44f8fc", func := "loop.example/g00956/laws.FnExactSandGain", spec := "fnExactSandGain", apart := false, narrowed := true }
def FnExactSandGainUptoSaid : Prop := fnExactSandGainUptoRow.holds Try.pinned (OpenSpec.upto fnExactSandGainSpec)

/-- 'laws.FnExactSandTime', WHERE WHAT IT READS IS OF BULK AT MOST 1048576: true; the input reads as it did. -/
def fnExactSandTimeUptoRow : OpenClaim := { program := "ytdmiihpblfkamaa", sum := "d194b49856f2eec59e908615371cd4828cc50f15fe5ad94253f7070a3f44f8fc", func := "loop.example/g00956/laws.FnExactSandTime", spec := "fnExactSandTime", apart := false, narrowed := true }
def FnExactSandTimeUptoSaid : Prop := fnExactSandTimeUptoRow.holds Try.pinned (OpenSpec.upto fnExactSandTimeSpec)

/-- 'laws.FnExactSameRecipe', WHERE WHAT IT READS IS OF BULK AT MOST 1048576: true; the input reads as it did. -/
def fnExactSameRecipeUptoRow : OpenClaim := { program := "ytdmiihpblfkamaa", sum := "d194b49856f2eec59e908615371cd4828cc50f15fe5ad94253f7070a3f44f8fc", func := "loop.example/g00956/laws.FnExactSameRecipe", spec := "fnExactSameRecipe", apart := false, narrowed := true }
def FnExactSameRecipeUptoSaid : Prop := fnExactSameRecipeUptoRow.holds Try.pinned (OpenSpec.upto fnExactSameRecipeSpec)

/-- 'laws.FnShades', WHERE WHAT IT READS IS OF BULK AT MOST 1048576: true; the input reads as it did. -/
def fnShadesUptoRow : OpenClaim := { program := "ytdmiihpblfkamaa", sum := "d194b49856f2eec59e908615371cd4828cc50f15fe5ad94253f7070a3f44f8fc", func := "loop.example/g00956/laws.FnShades", spec := "fnShades", apart := false, narrowed := true }
def FnShadesUptoSaid : Prop := fnShadesUptoRow.holds Try.pinned (OpenSpec.upto fnShadesSpec)

/-- 'laws.FnExactSwellOf', WHERE WHAT IT READS IS OF BULK AT MOST 1048576: true; the input reads as it did. -/
def fnExactSwellOfUptoRow : OpenClaim := { program := "ytdmiihpblfkamaa", sum := "d194b49856f2eec59e908615371cd4828cc50f15fe5ad94253f7070a3f44f8fc", func := "loop.example/g00956/laws.FnExactSwellOf", spec := "fnExactSwellOf", apart := false, narrowed := true }
def FnExactSwellOfUptoSaid : Prop := fnExactSwellOfUptoRow.holds Try.pinned (OpenSpec.upto fnExactSwellOfSpec)

/-- 'laws.FnExactValidBoards', WHERE WHAT IT READS IS OF BULK AT MOST 1048576: true; the input reads as it did. -/
def fnExactValidBoardsUptoRow : OpenClaim := { program := "ytdmiihpblfkamaa", sum := "d194b49856f2eec59e908615371cd4828cc50f15fe5ad94253f7070a3f44f8fc", func := "loop.example/g00956/laws.FnExactValidBoards", spec := "fnExactValidBoards", apart := false, narrowed := true }
def FnExactValidBoardsUptoSaid : Prop := fnExactValidBoardsUptoRow.holds Try.pinned (OpenSpec.upto fnExactValidBoardsSpec)

end Rows
end Go.Proofs.Ytdmiihpblfkamaa
