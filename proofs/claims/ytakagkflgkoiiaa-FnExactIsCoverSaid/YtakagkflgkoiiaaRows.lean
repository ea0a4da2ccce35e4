/-
  No cell of these rows narrows 'for every input' (looked for: loops, veiled, ifaces, maps, wideKeys, modest, calm, conditions, laid).
  DERIVED. THE GIVEN ROWS OF THIS SEAT. 10 by the template 'for every input the law returns true; each argument reads behind the call as it read before'; 0 by the template 'total and deterministic' (their statements: YtakagkflgkoiiaaTotals.lean).
  GIVEN WITH THE SEED: the statements are not yours to turn. If you find one false, say at which input.
  Laid BY PROGRAM, IN A SANDBOX (cutbox-rows.mjs): the forced cells as the released guide's own fill.sh prints them over the translation 8b51937e7eef1bd1… (all of the seat's roots in one cut). By AI agents, Wed Nov 11 2026. No macro, syntax, notation, axiom, sorry.
-/
import Derived.Test.YtakagkflgkoiiaaChecked
import GoSem.Claim
import GoSem.ClaimJoined
import GoSem.ClaimMapViews
import Derived.JoinedTies
import Derived.KernelRfl
namespace Go.Proofs.Ytakagkflgkoiiaa
/- THE CELL 'sum', in the pinned program and in every row, IS THE sha256 OF THE DUMP (.gsa) THAT YtakagkflgkoiiaaProg.lean LOADS. Nothing in Lean hashes anything: it is a label: what it is worth is what the hold of that sum in a sandbox is worth. -/
noncomputable def Try.pinned : Pinned := { name := "ytakagkflgkoiiaa", sum := "8b51937e7eef1bd13d8c9cd2f3173d14c9334389e55d3f47cc89fcaf27bfa124", checked := Try.checked }
namespace Rows
def none {H : Type} : Left H := { results := [], args := [] }

/-- 'laws.FnExactValidShape': WHATEVER THE INPUT: true; the input reads as it did. -/
def fnExactValidShapeSpec : ChangeSpec := { name := "fnExactValidShape", fn := fun _ => fun
  | [d] => { results := [.lit (.bool true)], args := [d] }
  | _ => none }
def fnExactValidShapeRow : OpenClaim := { program := "ytakagkflgkoiiaa", sum := "8b51937e7eef1bd13d8c9cd2f3173d14c9334389e55d3f47cc89fcaf27bfa124", func := "loop.example/g00956/laws.FnExactValidShape", spec := "fnExactValidShape", unfollowed := true, recurses := true, apart := false }
def FnExactValidShapeSaid : Prop := fnExactValidShapeRow.holds Try.pinned (OpenSpec.ofChange fnExactValidShapeSpec)

/-- ITS FALSE NEIGHBOUR: 'it returns false'. Refute it at one input. -/
def fnExactValidShapeWrong : ChangeSpec := { name := "fnExactValidShape", fn := fun _ => fun
  | [d] => { results := [.lit (.bool false)], args := [d] }
  | _ => none }
def FnExactValidShapeWrongFalsely : Prop := fnExactValidShapeRow.holds Try.pinned (OpenSpec.ofChange fnExactValidShapeWrong)

/-- 'laws.FnExactCornerShape': WHATEVER THE INPUT: true; the input reads as it did. -/
def fnExactCornerShapeSpec : ChangeSpec := { name := "fnExactCornerShape", fn := fun _ => fun
  | [d1, d2, d3] => { results := [.lit (.bool true)], args := [d1, d2, d3] }
  | _ => none }
def fnExactCornerShapeRow : OpenClaim := { program := "ytakagkflgkoiiaa", sum := "8b51937e7eef1bd13d8c9cd2f3173d14c9334389e55d3f47cc89fcaf27bfa124", func := "loop.example/g00956/laws.FnExactCornerShape", spec := "fnExactCornerShape", unfollowed := true, recurses := true, apart := false }
def FnExactCornerShapeSaid : Prop := fnExactCornerShapeRow.holds Try.pinned (OpenSpec.ofChange fnExactCornerShapeSpec)

/-- ITS FALSE NEIGHBOUR: 'it returns false'. Refute it at one input. -/
def fnExactCornerShapeWrong : ChangeSpec := { name := "fnExactCornerShape", fn := fun _ => fun
  | [d1, d2, d3] => { results := [.lit (.bool false)], args := [d1, d2, d3] }
  | _ => none }
def FnExactCornerShapeWrongFalsely : Prop := fnExactCornerShapeRow.holds Try.pinned (OpenSpec.ofChange fnExactCornerShapeWrong)

/-- 'laws.FnExactFrameShape': WHATEVER THE INPUT: true; the input reads as it did. -/
def fnExactFrameShapeSpec : ChangeSpec := { name := "fnExactFrameShape", fn := fun _ => fun
  | [d1, d2, d3] => { results := [.lit (.bool true)], args := [d1, d2, d3] }
  | _ => none }
def fnExactFrameShapeRow : OpenClaim := { program := "ytakagkflgkoiiaa", sum := "8b51937e7eef1bd13d8c9cd2f3173d14c9334389e55d3f47cc89fcaf27bfa124", func := "loop.example/g00956/laws.FnExactFrameShape", spec := "fnExactFrameShape", unfollowed := true, recurses := true, apart := false }
def FnExactFrameShapeSaid : Prop := fnExactFrameShapeRow.holds Try.pinned (OpenSpec.ofChange fnExactFrameShapeSpec)

/-- ITS FALSE NEIGHBOUR: 'it returns false'. Refute it at one input. -/
def fnExactFrameShapeWrong : ChangeSpec := { name := "fnExactFrameShape", fn := fun _ => fun
  | [d1, d2, d3] => { results := [.lit (.bool false)], args := [d1, d2, d3] }
  | _ => none }
def FnExactFrameShapeWrongFalsely : Prop := fnExactFrameShapeRow.holds Try.pinned (OpenSpec.ofChange fnExactFrameShapeWrong)

/-- 'laws.FnExactShapeArea': WHATEVER THE INPUT: true; the input reads as it did. -/
def fnExactShapeAreaSpec : ChangeSpec := { name := "fnExactShapeArea", fn := fun _ => fun
  | [d] => { results := [.lit (.bool true)], args := [d] }
  | _ => none }
def fnExactShapeAreaRow : OpenClaim := { program := "ytakagkflgkoiiaa", sum := "8b51937e7eef1bd13d8c9cd2f3173d14c9334389e55d3f47cc89fcaf27bfa124", func := "loop.example/g00956/laws.FnExactShapeArea", spec := "fnExactShapeArea", unfollowed := true, recurses := true, apart := false }
def FnExactShapeAreaSaid : Prop := fnExactShapeAreaRow.holds Try.pinned (OpenSpec.ofChange fnExactShapeAreaSpec)

/-- ITS FALSE NEIGHBOUR: 'it returns false'. Refute it at one input. -/
def fnExactShapeAreaWrong : ChangeSpec := { name := "fnExactShapeArea", fn := fun _ => fun
  | [d] => { results := [.lit (.bool false)], args := [d] }
  | _ => none }
def FnExactShapeAreaWrongFalsely : Prop := fnExactShapeAreaRow.holds Try.pinned (OpenSpec.ofChange fnExactShapeAreaWrong)

/-- 'laws.FnExactShapeText': WHATEVER THE INPUT: true; the input reads as it did. -/
def fnExactShapeTextSpec : ChangeSpec := { name := "fnExactShapeText", fn := fun _ => fun
  | [d] => { results := [.lit (.bool true)], args := [d] }
  | _ => none }
def fnExactShapeTextRow : OpenClaim := { program := "ytakagkflgkoiiaa", sum := "8b51937e7eef1bd13d8c9cd2f3173d14c9334389e55d3f47cc89fcaf27bfa124", func := "loop.example/g00956/laws.FnExactShapeText", spec := "fnExactShapeText", inPlace := ["internal/abi.NoEscape"], unfollowed := true, recurses := true, apart := false }
def FnExactShapeTextSaid : Prop := fnExactShapeTextRow.holds Try.pinned (OpenSpec.ofChange fnExactShapeTextSpec)

/-- ITS FALSE NEIGHBOUR: 'it returns false'. Refute it at one input. -/
def fnExactShapeTextWrong : ChangeSpec := { name := "fnExactShapeText", fn := fun _ => fun
  | [d] => { results := [.lit (.bool false)], args := [d] }
  | _ => none }
def FnExactShapeTextWrongFalsely : Prop := fnExactShapeTextRow.holds Try.pinned (OpenSpec.ofChange fnExactShapeTextWrong)

/-- 'laws.FnExactValidPieces': WHATEVER THE INPUT: true; the input reads as it did. -/
def fnExactValidPiecesSpec : ChangeSpec := { name := "fnExactValidPieces", fn := fun _ => fun
  | [d] => { results := [.lit (.bool true)], args := [d] }
  | _ => none }
def fnExactValidPiecesRow : OpenClaim := { program := "ytakagkflgkoiiaa", sum := "8b51937e7eef1bd13d8c9cd2f3173d14c9334389e55d3f47cc89fcaf27bfa124", func := "loop.example/g00956/laws.FnExactValidPieces", spec := "fnExactValidPieces", apart := false }
def FnExactValidPiecesSaid : Prop := fnExactValidPiecesRow.holds Try.pinned (OpenSpec.ofChange fnExactValidPiecesSpec)

/-- ITS FALSE NEIGHBOUR: 'it returns false'. Refute it at one input. -/
def fnExactValidPiecesWrong : ChangeSpec := { name := "fnExactValidPieces", fn := fun _ => fun
  | [d] => { results := [.lit (.bool false)], args := [d] }
  | _ => none }
def FnExactValidPiecesWrongFalsely : Prop := fnExactValidPiecesRow.holds Try.pinned (OpenSpec.ofChange fnExactValidPiecesWrong)

/-- 'laws.FnExactTurnsOfPiece': WHATEVER THE INPUT: true; the input reads as it did. -/
def fnExactTurnsOfPieceSpec : ChangeSpec := { name := "fnExactTurnsOfPiece", fn := fun _ => fun
  | [d] => { results := [.lit (.bool true)], args := [d] }
  | _ => none }
def fnExactTurnsOfPieceRow : OpenClaim := { program := "ytakagkflgkoiiaa", sum := "8b51937e7eef1bd13d8c9cd2f3173d14c9334389e55d3f47cc89fcaf27bfa124", func := "loop.example/g00956/laws.FnExactTurnsOfPiece", spec := "fnExactTurnsOfPiece", unfollowed := true, recurses := true, apart := false }
def FnExactTurnsOfPieceSaid : Prop := fnExactTurnsOfPieceRow.holds Try.pinned (OpenSpec.ofChange fnExactTurnsOfPieceSpec)

/-- ITS FALSE NEIGHBOUR: 'it returns false'. Refute it at one input. -/
def fnExactTurnsOfPieceWrong : ChangeSpec := { name := "fnExactTurnsOfPiece", fn := fun _ => fun
  | [d] => { results := [.lit (.bool false)], args := [d] }
  | _ => none }
def FnExactTurnsOfPieceWrongFalsely : Prop := fnExactTurnsOfPieceRow.holds Try.pinned (OpenSpec.ofChange fnExactTurnsOfPieceWrong)

/-- 'laws.FnExactLaidCells': WHATEVER THE INPUT: true; the input reads as it did. -/
def fnExactLaidCellsSpec : ChangeSpec := { name := "fnExactLaidCells", fn := fun _ => fun
  | [d1, d2, d3, d4] => { results := [.lit (.bool true)], args := [d1, d2, d3, d4] }
  | _ => none }
def fnExactLaidCellsRow : OpenClaim := { program := "ytakagkflgkoiiaa", sum := "8b51937e7eef1bd13d8c9cd2f3173d14c9334389e55d3f47cc89fcaf27bfa124", func := "loop.example/g00956/laws.FnExactLaidCells", spec := "fnExactLaidCells", unfollowed := true, recurses := true, apart := false }
def FnExactLaidCellsSaid : Prop := fnExactLaidCellsRow.holds Try.pinned (OpenSpec.ofChange fnExactLaidCellsSpec)

/-- ITS FALSE NEIGHBOUR: 'it returns false'. Refute it at one input. -/
def fnExactLaidCellsWrong : ChangeSpec := { name := "fnExactLaidCells", fn := fun _ => fun
  | [d1, d2, d3, d4] => { results := [.lit (.bool false)], args := [d1, d2, d3, d4] }
  | _ => none }
def FnExactLaidCellsWrongFalsely : Prop := fnExactLaidCellsRow.holds Try.pinned (OpenSpec.ofChange fnExactLaidCellsWrong)

/-- 'laws.FnExactFirstUncovered': WHATEVER THE INPUT: true; the input reads as it did. -/
def fnExactFirstUncoveredSpec : ChangeSpec := { name := "fnExactFirstUncovered", fn := fun _ => fun
  | [d1, d2, d3] => { results := [.lit (.bool true)], args := [d1, d2, d3] }
  | _ => none }
def fnExactFirstUncoveredRow : OpenClaim := { program := "ytakagkflgkoiiaa", sum := "8b51937e7eef1bd13d8c9cd2f3173d14c9334389e55d3f47cc89fcaf27bfa124", func := "loop.example/g00956/laws.FnExactFirstUncovered", spec := "fnExactFirstUncovered", unfollowed := true, recurses := true, apart := false }
def FnExactFirstUncoveredSaid : Prop := fnExactFirstUncoveredRow.holds Try.pinned (OpenSpec.ofChange fnExactFirstUncoveredSpec)

/-- ITS FALSE NEIGHBOUR: 'it returns false'. Refute it at one input. -/
def fnExactFirstUncoveredWrong : ChangeSpec := { name := "fnExactFirstUncovered", fn := fun _ => fun
  | [d1, d2, d3] => { results := [.lit (.bool false)], args := [d1, d2, d3] }
  | _ => none }
def FnExactFirstUncoveredWrongFalsely : Prop := fnExactFirstUncoveredRow.holds Try.pinned (OpenSpec.ofChange fnExactFirstUncoveredWrong)

/-- 'laws.FnExactIsCover': WHATEVER THE INPUT: true; the input reads as it did. -/
def fnExactIsCoverSpec : ChangeSpec := { name := "fnExactIsCover", fn := fun _ => fun
  | [d1, d2, d3] => { results := [.lit (.bool true)], args := [d1, d2, d3] }
  | _ => none }
def fnExactIsCoverRow : OpenClaim := { program := "ytakagkflgkoiiaa", sum := "8b51937e7eef1bd13d8c9cd2f3173d14c9334389e55d3f47cc89fcaf27bfa124", func := "loop.example/g00956/laws.FnExactIsCover", spec := "fnExactIsCover", unfollowed := true, recurses := true, apart := false }
def FnExactIsCoverSaid : Prop := fnExactIsCoverRow.holds Try.pinned (OpenSpec.ofChange fnExactIsCoverSpec)

/-- ITS FALSE NEIGHBOUR: 'it returns false'. Refute it at one input. -/
def fnExactIsCoverWrong : ChangeSpec := { name := "fnExactIsCover", fn := fun _ => fun
  | [d1, d2, d3] => { results := [.lit (.bool false)], args := [d1, d2, d3] }
  | _ => none }
def FnExactIsCoverWrongFalsely : Prop := fnExactIsCoverRow.holds Try.pinned (OpenSpec.ofChange fnExactIsCoverWrong)

/- THE SECOND FORM. 'bulk': how many values and letters a reading holds, each counted each time it is reached (what is shared counts as often as it is met; a slice's spare places count too). A statement '..UptoSaid' is the law's where the arguments, and the package variables that the reading takes, are together of bulk at most 1048576: NARROWER than '..Said'. Prove '..Said' where nothing that the law and all that it calls make is longer than what came in: it says more and counts as full. Else prove '..UptoSaid'. A law counts once. -/
mutual
def uptoBulk {H : Type} : DataW H → Nat
  | .lit (.string bytes) => bytes.length + 1
  | .lit _ => 1
  | .nil => 1
  | .ptr d => uptoBulk d + 1
  | .slice elems spare => uptoBulkAll elems + uptoBulkAll spare + 1
  | .agg parts => uptoBulkAll parts + 1
  | .iface _ d => uptoBulk d + 1
  | .map entries => uptoBulkEntries entries + 1
  | .held _ => 1
def uptoBulkAll {H : Type} : List (DataW H) → Nat
  | [] => 0
  | d :: r => uptoBulk d + uptoBulkAll r
def uptoBulkEntries {H : Type} : List (Lit × DataW H) → Nat
  | [] => 0
  | x :: r => uptoBulkEntry x + uptoBulkEntries r
def uptoBulkEntry {H : Type} : Lit × DataW H → Nat
  | (.string bytes, d) => bytes.length + uptoBulk d + 1
  | (_, d) => uptoBulk d + 1
 end
def uptoSmall : (H : Type) → List (DataW H) → Bool := fun _ ds => decide (uptoBulkAll ds ≤ 1048576)
def OpenSpec.upto (s : _root_.Go.ChangeSpec) : _root_.Go.OpenSpec := { _root_.Go.OpenSpec.ofChange s with cond := some uptoSmall }

/-- 'laws.FnExactValidShape', WHERE WHAT IT READS IS OF BULK AT MOST 1048576: true; the input reads as it did. -/
def fnExactValidShapeUptoRow : OpenClaim := { program := "ytakagkflgkoiiaa", sum := "8b51937e7eef1bd13d8c9cd2f3173d14c9334389e55d3f47cc89fcaf27bfa124", func := "loop.example/g00956/laws.FnExactValidShape", spec := "fnExactValidShape", unfollowed := true, recurses := true, apart := false, narrowed := true }
def FnExactValidShapeUptoSaid : Prop := fnExactValidShapeUptoRow.holds Try.pinned (OpenSpec.upto fnExactValidShapeSpec)

/-- 'laws.FnExactCornerShape', WHERE WHAT IT READS IS OF BULK AT MOST 1048576: true; the input reads as it did. -/
def fnExactCornerShapeUptoRow : OpenClaim := { program := "ytakagkflgkoiiaa", sum := "8b51937e7eef1bd13d8c9cd2f3173d14c9334389e55d3f47cc89fcaf27bfa124", func := "loop.example/g00956/laws.FnExactCornerShape", spec := "fnExactCornerShape", unfollowed := true, recurses := true, apart := false, narrowed := true }
def FnExactCornerShapeUptoSaid : Prop := fnExactCornerShapeUptoRow.holds Try.pinned (OpenSpec.upto fnExactCornerShapeSpec)

/-- 'laws.FnExactFrameShape', WHERE WHAT IT READS IS OF BULK AT MOST 1048576: true; the input reads as it did. -/
def fnExactFrameShapeUptoRow : OpenClaim := { program := "ytakagkflgkoiiaa", sum := "8b51937e7eef1bd13d8c9cd2f3173d14c9334389e55d3f47cc89fcaf27bfa124", func := "loop.example/g00956/laws.FnExactFrameShape", spec := "fnExactFrameShape", unfollowed := true, recurses := true, apart := false, narrowed := true }
def FnExactFrameShapeUptoSaid : Prop := fnExactFrameShapeUptoRow.holds Try.pinned (OpenSpec.upto fnExactFrameShapeSpec)

/-- 'laws.FnExactShapeArea', WHERE WHAT IT READS IS OF BULK AT MOST 1048576: true; the input reads as it did. -/
def fnExactShapeAreaUptoRow : OpenClaim := { program := "ytakagkflgkoiiaa", sum := "8b51937e7eef1bd13d8c9cd2f3173d14c9334389e55d3f47cc89fcaf27bfa124", func := "loop.example/g00956/laws.FnExactShapeArea", spec := "fnExactShapeArea", unfollowed := true, recurses := true, apart := false, narrowed := true }
def FnExactShapeAreaUptoSaid : Prop := fnExactShapeAreaUptoRow.holds Try.pinned (OpenSpec.upto fnExactShapeAreaSpec)

/-- 'laws.FnExactShapeText', WHERE WHAT IT READS IS OF BULK AT MOST 1048576: true; the input reads as it did. -/
def fnExactShapeTextUptoRow : OpenClaim := { program := "ytakagkflgkoiiaa", sum := "8b51937e7eef1bd13d8c9cd2f3173d14c9334389e55d3f47cc89fcaf27bfa124", func := "loop.example/g00956/laws.FnExactShapeText", spec := "fnExactShapeText", inPlace := ["internal/abi.NoEscape"], unfollowed := true, recurses := true, apart := false, narrowed := true }
def FnExactShapeTextUptoSaid : Prop := fnExactShapeTextUptoRow.holds Try.pinned (OpenSpec.upto fnExactShapeTextSpec)

/-- 'laws.FnExactValidPieces', WHERE WHAT IT READS IS OF BULK AT MOST 1048576: true; the input reads as it did. -/
def fnExactValidPiecesUptoRow : OpenClaim := { program := "ytakagkflgkoiiaa", sum := "8b51937e7eef1bd13d8c9cd2f3173d14c9334389e55d3f47cc89fcaf27bfa124", func := "loop.example/g00956/laws.FnExactValidPieces", spec := "fnExactValidPieces", apart := false, narrowed := true }
def FnExactValidPiecesUptoSaid : Prop := fnExactValidPiecesUptoRow.holds Try.pinned (OpenSpec.upto fnExactValidPiecesSpec)

/-- 'laws.FnExactTurnsOfPiece', WHERE WHAT IT READS IS OF BULK AT MOST 1048576: true; the input reads as it did. -/
def fnExactTurnsOfPieceUptoRow : OpenClaim := { program := "ytakagkflgkoiiaa", sum := "8b51937e7eef1bd13d8c9cd2f3173d14c9334389e55d3f47cc89fcaf27bfa124", func := "loop.example/g00956/laws.FnExactTurnsOfPiece", spec := "fnExactTurnsOfPiece", unfollowed := true, recurses := true, apart := false, narrowed := true }
def FnExactTurnsOfPieceUptoSaid : Prop := fnExactTurnsOfPieceUptoRow.holds Try.pinned (OpenSpec.upto fnExactTurnsOfPieceSpec)

/-- 'laws.FnExactLaidCells', WHERE WHAT IT READS IS OF BULK AT MOST 1048576: true; the input reads as it did. -/
def fnExactLaidCellsUptoRow : OpenClaim := { program := "ytakagkflgkoiiaa", sum := "8b51937e7eef1bd13d8c9cd2f3173d14c9334389e55d3f47cc89fcaf27bfa124", func := "loop.example/g00956/laws.FnExactLaidCells", spec := "fnExactLaidCells", unfollowed := true, recurses := true, apart := false, narrowed := true }
def FnExactLaidCellsUptoSaid : Prop := fnExactLaidCellsUptoRow.holds Try.pinned (OpenSpec.upto fnExactLaidCellsSpec)

/-- 'laws.FnExactFirstUncovered', WHERE WHAT IT READS IS OF BULK AT MOST 1048576: true; the input reads as it did. -/
def fnExactFirstUncoveredUptoRow : OpenClaim := { program := "ytakagkflgkoiiaa", sum := "8b51937e7eef1bd13d8c9cd2f3173d14c9334389e55d3f47cc89fcaf27bfa124", func := "loop.example/g00956/laws.FnExactFirstUncovered", spec := "fnExactFirstUncovered", unfollowed := true, recurses := true, apart := false, narrowed := true }
def FnExactFirstUncoveredUptoSaid : Prop := fnExactFirstUncoveredUptoRow.holds Try.pinned (OpenSpec.upto fnExactFirstUncoveredSpec)

/-- 'laws.FnExactIsCover', WHERE WHAT IT READS IS OF BULK AT MOST 1048576: true; the input reads as it did. -/
def fnExactIsCoverUptoRow : OpenClaim := { program := "ytakagkflgkoiiaa", sum := "8b51937e7eef1bd13d8c9cd2f3173d14c9334389e55d3f47cc89fcaf27bfa124", func := "loop.example/g00956/laws.FnExactIsCover", spec := "fnExactIsCover", unfollowed := true, recurses := true, apart := false, narrowed := true }
def FnExactIsCoverUptoSaid : Prop := fnExactIsCoverUptoRow.holds Try.pinned (OpenSpec.upto fnExactIsCoverSpec)

end Rows
end Go.Proofs.Ytakagkflgkoiiaa
