/-
  No cell of these rows narrows 'for every input' (looked for: loops, veiled, ifaces, maps, wideKeys, modest, calm, conditions, laid).
  DERIVED. THE GIVEN ROWS OF THIS SEAT. 12 by the template 'for every input the law returns true; each argument reads behind the call as it read before'; 0 by the template 'total and deterministic' (their statements: YtnidibnhojedoaaTotals.lean).
  GIVEN WITH THE SEED: the statements are not yours to turn. If you find one false, say at which input.
  Laid BY PROGRAM, IN A SANDBOX (cutbox-rows.mjs): the forced cells as the released guide's own fill.sh prints them over the translation 704e71e60f716e45… (all of the seat's roots in one cut). By AI agents, Wed Nov 11 2026. No macro, syntax, notation, axiom, sorry.
-/
import Derived.Test.YtnidibnhojedoaaChecked
import GoSem.Claim
import GoSem.ClaimJoined
import GoSem.ClaimMapViews
import Derived.JoinedTies
import Derived.KernelRfl
namespace Go.Proofs.Ytnidibnhojedoaa
/- THE CELL 'sum', in the pinned program and in every row, IS THE sha256 OF THE DUMP (.gsa) THAT YtnidibnhojedoaaProg.lean LOADS. Nothing in Lean hashes anything: it is a label: what it is worth is what the hold of that sum in a sandbox is worth. -/
noncomputable def Try.pinned : Pinned := { name := "ytnidibnhojedoaa", sum := "704e71e60f716e45343269bb4c4dcab13dfae7e5126c0df27f6434f60afcd1c4", checked := Try.checked }
namespace Rows
def none {H : Type} : Left H := { results := [], args := [] }

/-- 'laws.FnExactValidMotion': WHATEVER THE INPUT: true; the input reads as it did. -/
def fnExactValidMotionSpec : ChangeSpec := { name := "fnExactValidMotion", fn := fun _ => fun
  | [d1, d2] => { results := [.lit (.bool true)], args := [d1, d2] }
  | _ => none }
def fnExactValidMotionRow : OpenClaim := { program := "ytnidibnhojedoaa", sum := "704e71e60f716e45343269bb4c4dcab13dfae7e5126c0df27f6434f60afcd1c4", func := "loop.example/g00956/laws.FnExactValidMotion", spec := "fnExactValidMotion", unfollowed := true, recurses := true, apart := false }
def FnExactValidMotionSaid : Prop := fnExactValidMotionRow.holds Try.pinned (OpenSpec.ofChange fnExactValidMotionSpec)

/-- ITS FALSE NEIGHBOUR: 'it returns false'. Refute it at one input. -/
def fnExactValidMotionWrong : ChangeSpec := { name := "fnExactValidMotion", fn := fun _ => fun
  | [d1, d2] => { results := [.lit (.bool false)], args := [d1, d2] }
  | _ => none }
def FnExactValidMotionWrongFalsely : Prop := fnExactValidMotionRow.holds Try.pinned (OpenSpec.ofChange fnExactValidMotionWrong)

/-- 'laws.FnExactMoveCell': WHATEVER THE INPUT: true; the input reads as it did. -/
def fnExactMoveCellSpec : ChangeSpec := { name := "fnExactMoveCell", fn := fun _ => fun
  | [d1, d2, d3, d4] => { results := [.lit (.bool true)], args := [d1, d2, d3, d4] }
  | _ => none }
def fnExactMoveCellRow : OpenClaim := { program := "ytnidibnhojedoaa", sum := "704e71e60f716e45343269bb4c4dcab13dfae7e5126c0df27f6434f60afcd1c4", func := "loop.example/g00956/laws.FnExactMoveCell", spec := "fnExactMoveCell", unfollowed := true, recurses := true, apart := false }
def FnExactMoveCellSaid : Prop := fnExactMoveCellRow.holds Try.pinned (OpenSpec.ofChange fnExactMoveCellSpec)

/-- ITS FALSE NEIGHBOUR: 'it returns false'. Refute it at one input. -/
def fnExactMoveCellWrong : ChangeSpec := { name := "fnExactMoveCell", fn := fun _ => fun
  | [d1, d2, d3, d4] => { results := [.lit (.bool false)], args := [d1, d2, d3, d4] }
  | _ => none }
def FnExactMoveCellWrongFalsely : Prop := fnExactMoveCellRow.holds Try.pinned (OpenSpec.ofChange fnExactMoveCellWrong)

/-- 'laws.FnExactFloorOf': WHATEVER THE INPUT: true; the input reads as it did. -/
def fnExactFloorOfSpec : ChangeSpec := { name := "fnExactFloorOf", fn := fun _ => fun
  | [d1, d2, d3, d4, d5] => { results := [.lit (.bool true)], args := [d1, d2, d3, d4, d5] }
  | _ => none }
def fnExactFloorOfRow : OpenClaim := { program := "ytnidibnhojedoaa", sum := "704e71e60f716e45343269bb4c4dcab13dfae7e5126c0df27f6434f60afcd1c4", func := "loop.example/g00956/laws.FnExactFloorOf", spec := "fnExactFloorOf", unfollowed := true, recurses := true, apart := false }
def FnExactFloorOfSaid : Prop := fnExactFloorOfRow.holds Try.pinned (OpenSpec.ofChange fnExactFloorOfSpec)

/-- ITS FALSE NEIGHBOUR: 'it returns false'. Refute it at one input. -/
def fnExactFloorOfWrong : ChangeSpec := { name := "fnExactFloorOf", fn := fun _ => fun
  | [d1, d2, d3, d4, d5] => { results := [.lit (.bool false)], args := [d1, d2, d3, d4, d5] }
  | _ => none }
def FnExactFloorOfWrongFalsely : Prop := fnExactFloorOfRow.holds Try.pinned (OpenSpec.ofChange fnExactFloorOfWrong)

/-- 'laws.FnExactShiftTiling': WHATEVER THE INPUT: true; the input reads as it did. -/
def fnExactShiftTilingSpec : ChangeSpec := { name := "fnExactShiftTiling", fn := fun _ => fun
  | [d1, d2, d3] => { results := [.lit (.bool true)], args := [d1, d2, d3] }
  | _ => none }
def fnExactShiftTilingRow : OpenClaim := { program := "ytnidibnhojedoaa", sum := "704e71e60f716e45343269bb4c4dcab13dfae7e5126c0df27f6434f60afcd1c4", func := "loop.example/g00956/laws.FnExactShiftTiling", spec := "fnExactShiftTiling", unfollowed := true, recurses := true, apart := false }
def FnExactShiftTilingSaid : Prop := fnExactShiftTilingRow.holds Try.pinned (OpenSpec.ofChange fnExactShiftTilingSpec)

/-- ITS FALSE NEIGHBOUR: 'it returns false'. Refute it at one input. -/
def fnExactShiftTilingWrong : ChangeSpec := { name := "fnExactShiftTiling", fn := fun _ => fun
  | [d1, d2, d3] => { results := [.lit (.bool false)], args := [d1, d2, d3] }
  | _ => none }
def FnExactShiftTilingWrongFalsely : Prop := fnExactShiftTilingRow.holds Try.pinned (OpenSpec.ofChange fnExactShiftTilingWrong)

/-- 'laws.FnExactInverseMotion': WHATEVER THE INPUT: true; the input reads as it did. -/
def fnExactInverseMotionSpec : ChangeSpec := { name := "fnExactInverseMotion", fn := fun _ => fun
  | [d1, d2] => { results := [.lit (.bool true)], args := [d1, d2] }
  | _ => none }
def fnExactInverseMotionRow : OpenClaim := { program := "ytnidibnhojedoaa", sum := "704e71e60f716e45343269bb4c4dcab13dfae7e5126c0df27f6434f60afcd1c4", func := "loop.example/g00956/laws.FnExactInverseMotion", spec := "fnExactInverseMotion", unfollowed := true, recurses := true, apart := false }
def FnExactInverseMotionSaid : Prop := fnExactInverseMotionRow.holds Try.pinned (OpenSpec.ofChange fnExactInverseMotionSpec)

/-- ITS FALSE NEIGHBOUR: 'it returns false'. Refute it at one input. -/
def fnExactInverseMotionWrong : ChangeSpec := { name := "fnExactInverseMotion", fn := fun _ => fun
  | [d1, d2] => { results := [.lit (.bool false)], args := [d1, d2] }
  | _ => none }
def FnExactInverseMotionWrongFalsely : Prop := fnExactInverseMotionRow.holds Try.pinned (OpenSpec.ofChange fnExactInverseMotionWrong)

/-- 'laws.FnExactIsSymmetry': WHATEVER THE INPUT: true; the input reads as it did. -/
def fnExactIsSymmetrySpec : ChangeSpec := { name := "fnExactIsSymmetry", fn := fun _ => fun
  | [d1, d2] => { results := [.lit (.bool true)], args := [d1, d2] }
  | _ => none }
def fnExactIsSymmetryRow : OpenClaim := { program := "ytnidibnhojedoaa", sum := "704e71e60f716e45343269bb4c4dcab13dfae7e5126c0df27f6434f60afcd1c4", func := "loop.example/g00956/laws.FnExactIsSymmetry", spec := "fnExactIsSymmetry", unfollowed := true, recurses := true, apart := false }
def FnExactIsSymmetrySaid : Prop := fnExactIsSymmetryRow.holds Try.pinned (OpenSpec.ofChange fnExactIsSymmetrySpec)

/-- ITS FALSE NEIGHBOUR: 'it returns false'. Refute it at one input. -/
def fnExactIsSymmetryWrong : ChangeSpec := { name := "fnExactIsSymmetry", fn := fun _ => fun
  | [d1, d2] => { results := [.lit (.bool false)], args := [d1, d2] }
  | _ => none }
def FnExactIsSymmetryWrongFalsely : Prop := fnExactIsSymmetryRow.holds Try.pinned (OpenSpec.ofChange fnExactIsSymmetryWrong)

/-- 'laws.FnExactComposeMotions': WHATEVER THE INPUT: true; the input reads as it did. -/
def fnExactComposeMotionsSpec : ChangeSpec := { name := "fnExactComposeMotions", fn := fun _ => fun
  | [d1, d2, d3] => { results := [.lit (.bool true)], args := [d1, d2, d3] }
  | _ => none }
def fnExactComposeMotionsRow : OpenClaim := { program := "ytnidibnhojedoaa", sum := "704e71e60f716e45343269bb4c4dcab13dfae7e5126c0df27f6434f60afcd1c4", func := "loop.example/g00956/laws.FnExactComposeMotions", spec := "fnExactComposeMotions", unfollowed := true, recurses := true, apart := false }
def FnExactComposeMotionsSaid : Prop := fnExactComposeMotionsRow.holds Try.pinned (OpenSpec.ofChange fnExactComposeMotionsSpec)

/-- ITS FALSE NEIGHBOUR: 'it returns false'. Refute it at one input. -/
def fnExactComposeMotionsWrong : ChangeSpec := { name := "fnExactComposeMotions", fn := fun _ => fun
  | [d1, d2, d3] => { results := [.lit (.bool false)], args := [d1, d2, d3] }
  | _ => none }
def FnExactComposeMotionsWrongFalsely : Prop := fnExactComposeMotionsRow.holds Try.pinned (OpenSpec.ofChange fnExactComposeMotionsWrong)

/-- 'laws.FnExactTileImage': WHATEVER THE INPUT: true; the input reads as it did. -/
def fnExactTileImageSpec : ChangeSpec := { name := "fnExactTileImage", fn := fun _ => fun
  | [d1, d2, d3] => { results := [.lit (.bool true)], args := [d1, d2, d3] }
  | _ => none }
def fnExactTileImageRow : OpenClaim := { program := "ytnidibnhojedoaa", sum := "704e71e60f716e45343269bb4c4dcab13dfae7e5126c0df27f6434f60afcd1c4", func := "loop.example/g00956/laws.FnExactTileImage", spec := "fnExactTileImage", unfollowed := true, recurses := true, apart := false }
def FnExactTileImageSaid : Prop := fnExactTileImageRow.holds Try.pinned (OpenSpec.ofChange fnExactTileImageSpec)

/-- ITS FALSE NEIGHBOUR: 'it returns false'. Refute it at one input. -/
def fnExactTileImageWrong : ChangeSpec := { name := "fnExactTileImage", fn := fun _ => fun
  | [d1, d2, d3] => { results := [.lit (.bool false)], args := [d1, d2, d3] }
  | _ => none }
def FnExactTileImageWrongFalsely : Prop := fnExactTileImageRow.holds Try.pinned (OpenSpec.ofChange fnExactTileImageWrong)

/-- 'laws.FnExactRepeatArea': WHATEVER THE INPUT: true; the input reads as it did. -/
def fnExactRepeatAreaSpec : ChangeSpec := { name := "fnExactRepeatArea", fn := fun _ => fun
  | [d] => { results := [.lit (.bool true)], args := [d] }
  | _ => none }
def fnExactRepeatAreaRow : OpenClaim := { program := "ytnidibnhojedoaa", sum := "704e71e60f716e45343269bb4c4dcab13dfae7e5126c0df27f6434f60afcd1c4", func := "loop.example/g00956/laws.FnExactRepeatArea", spec := "fnExactRepeatArea", unfollowed := true, recurses := true, apart := false }
def FnExactRepeatAreaSaid : Prop := fnExactRepeatAreaRow.holds Try.pinned (OpenSpec.ofChange fnExactRepeatAreaSpec)

/-- ITS FALSE NEIGHBOUR: 'it returns false'. Refute it at one input. -/
def fnExactRepeatAreaWrong : ChangeSpec := { name := "fnExactRepeatArea", fn := fun _ => fun
  | [d] => { results := [.lit (.bool false)], args := [d] }
  | _ => none }
def FnExactRepeatAreaWrongFalsely : Prop := fnExactRepeatAreaRow.holds Try.pinned (OpenSpec.ofChange fnExactRepeatAreaWrong)

/-- 'laws.FnExactIsTransitive': WHATEVER THE INPUT: true; the input reads as it did. -/
def fnExactIsTransitiveSpec : ChangeSpec := { name := "fnExactIsTransitive", fn := fun _ => fun
  | [d] => { results := [.lit (.bool true)], args := [d] }
  | _ => none }
def fnExactIsTransitiveRow : OpenClaim := { program := "ytnidibnhojedoaa", sum := "704e71e60f716e45343269bb4c4dcab13dfae7e5126c0df27f6434f60afcd1c4", func := "loop.example/g00956/laws.FnExactIsTransitive", spec := "fnExactIsTransitive", unfollowed := true, recurses := true, apart := false }
def FnExactIsTransitiveSaid : Prop := fnExactIsTransitiveRow.holds Try.pinned (OpenSpec.ofChange fnExactIsTransitiveSpec)

/-- ITS FALSE NEIGHBOUR: 'it returns false'. Refute it at one input. -/
def fnExactIsTransitiveWrong : ChangeSpec := { name := "fnExactIsTransitive", fn := fun _ => fun
  | [d] => { results := [.lit (.bool false)], args := [d] }
  | _ => none }
def FnExactIsTransitiveWrongFalsely : Prop := fnExactIsTransitiveRow.holds Try.pinned (OpenSpec.ofChange fnExactIsTransitiveWrong)

/-- 'laws.FnExactTileOrbits': WHATEVER THE INPUT: true; the input reads as it did. -/
def fnExactTileOrbitsSpec : ChangeSpec := { name := "fnExactTileOrbits", fn := fun _ => fun
  | [d] => { results := [.lit (.bool true)], args := [d] }
  | _ => none }
def fnExactTileOrbitsRow : OpenClaim := { program := "ytnidibnhojedoaa", sum := "704e71e60f716e45343269bb4c4dcab13dfae7e5126c0df27f6434f60afcd1c4", func := "loop.example/g00956/laws.FnExactTileOrbits", spec := "fnExactTileOrbits", unfollowed := true, recurses := true, apart := false }
def FnExactTileOrbitsSaid : Prop := fnExactTileOrbitsRow.holds Try.pinned (OpenSpec.ofChange fnExactTileOrbitsSpec)

/-- ITS FALSE NEIGHBOUR: 'it returns false'. Refute it at one input. -/
def fnExactTileOrbitsWrong : ChangeSpec := { name := "fnExactTileOrbits", fn := fun _ => fun
  | [d] => { results := [.lit (.bool false)], args := [d] }
  | _ => none }
def FnExactTileOrbitsWrongFalsely : Prop := fnExactTileOrbitsRow.holds Try.pinned (OpenSpec.ofChange fnExactTileOrbitsWrong)

/-- 'laws.FnExactSymmetriesOf': WHATEVER THE INPUT: true; the input reads as it did. -/
def fnExactSymmetriesOfSpec : ChangeSpec := { name := "fnExactSymmetriesOf", fn := fun _ => fun
  | [d] => { results := [.lit (.bool true)], args := [d] }
  | _ => none }
def fnExactSymmetriesOfRow : OpenClaim := { program := "ytnidibnhojedoaa", sum := "704e71e60f716e45343269bb4c4dcab13dfae7e5126c0df27f6434f60afcd1c4", func := "loop.example/g00956/laws.FnExactSymmetriesOf", spec := "fnExactSymmetriesOf", unfollowed := true, recurses := true, apart := false }
def FnExactSymmetriesOfSaid : Prop := fnExactSymmetriesOfRow.holds Try.pinned (OpenSpec.ofChange fnExactSymmetriesOfSpec)

/-- ITS FALSE NEIGHBOUR: 'it returns false'. Refute it at one input. -/
def fnExactSymmetriesOfWrong : ChangeSpec := { name := "fnExactSymmetriesOf", fn := fun _ => fun
  | [d] => { results := [.lit (.bool false)], args := [d] }
  | _ => none }
def FnExactSymmetriesOfWrongFalsely : Prop := fnExactSymmetriesOfRow.holds Try.pinned (OpenSpec.ofChange fnExactSymmetriesOfWrong)

/- THE SECOND FORM. 'bulk': how many values and letters a reading holds, each counted each time it is reached (what is shared counts as often as it is met; a slice's spare places count too). A statement '..UptoSaid' is the law's where the arguments, and the package variables that the reading takes, are together of bulk at most 1048576: NARROWER than '..Said'. Prove '..Said' where nothing that the law and all that it calls make is longer than what came in: it says more and counts as full. Else prove '..UptoSaid'. A law counts once. -/
mutual
def uptoBulk {H : Type} : DataW H → Nat
  | .lit (.string bytes) => bytes.length + 1
  | .lit _ => 1
  | .nil => 1
  | .ptr d => uptoBulk d + 1
  | .slice elems spare => uptoBulkAll elems + uptoBulkAll spare + 1
  | .agg parts => uptoBulkAll parts + 1
  | .iface _ d => uptoBulk d + 1
  | .map entries => uptoBulkEntries entries + 1
  | .held _ => 1
def uptoBulkAll {H : Type} : List (DataW H) → Nat
  | [] => 0
  | d :: r => uptoBulk d + uptoBulkAll r
def uptoBulkEntries {H : Type} : List (Lit × DataW H) → Nat
  | [] => 0
  | x :: r => uptoBulkEntry x + uptoBulkEntries r
def uptoBulkEntry {H : Type} : Lit × DataW H → Nat
  | (.string bytes, d) => bytes.length + uptoBulk d + 1
  | (_, d) => uptoBulk d + 1
 end
def uptoSmall : (H : Type) → List (DataW H) → Bool := fun _ ds => decide (uptoBulkAll ds ≤ 1048576)
def OpenSpec.upto (s : _root_.Go.ChangeSpec) : _root_.Go.OpenSpec := { _root_.Go.OpenSpec.ofChange s with cond := some uptoSmall }

/-- 'laws.FnExactValidMotion', WHERE WHAT IT READS IS OF BULK AT MOST 1048576: true; the input reads as it did. -/
def fnExactValidMotionUptoRow : OpenClaim := { program := "ytnidibnhojedoaa", sum := "704e71e60f716e45343269bb4c4dcab13dfae7e5126c0df27f6434f60afcd1c4", func := "loop.example/g00956/laws.FnExactValidMotion", spec := "fnExactValidMotion", unfollowed := true, recurses := true, apart := false, narrowed := true }
def FnExactValidMotionUptoSaid : Prop := fnExactValidMotionUptoRow.holds Try.pinned (OpenSpec.upto fnExactValidMotionSpec)

/-- 'laws.FnExactMoveCell', WHERE WHAT IT READS IS OF BULK AT MOST 1048576: true; the input reads as it did. -/
def fnExactMoveCellUptoRow : OpenClaim := { program := "ytnidibnhojedoaa", sum := "704e71e60f716e45343269bb4c4dcab13dfae7e5126c0df27f6434f60afcd1c4", func := "loop.example/g00956/laws.FnExactMoveCell", spec := "fnExactMoveCell", unfollowed := true, recurses := true, apart := false, narrowed := true }
def FnExactMoveCellUptoSaid : Prop := fnExactMoveCellUptoRow.holds Try.pinned (OpenSpec.upto fnExactMoveCellSpec)

/-- 'laws.FnExactFloorOf', WHERE WHAT IT READS IS OF BULK AT MOST 1048576: true; the input reads as it did. -/
def fnExactFloorOfUptoRow : OpenClaim := { program := "ytnidibnhojedoaa", sum := "704e71e60f716e45343269bb4c4dcab13dfae7e5126c0df27f6434f60afcd1c4", func := "loop.example/g00956/laws.FnExactFloorOf", spec := "fnExactFloorOf", unfollowed := true, recurses := true, apart := false, narrowed := true }
def FnExactFloorOfUptoSaid : Prop := fnExactFloorOfUptoRow.holds Try.pinned (OpenSpec.upto fnExactFloorOfSpec)

/-- 'laws.FnExactShiftTiling', WHERE WHAT IT READS IS OF BULK AT MOST 1048576: true; the input reads as it did. -/
def fnExactShiftTilingUptoRow : OpenClaim := { program := "ytnidibnhojedoaa", sum := "704e71e60f716e45343269bb4c4dcab13dfae7e5126c0df27f6434f60afcd1c4", func := "loop.example/g00956/laws.FnExactShiftTiling", spec := "fnExactShiftTiling", unfollowed := true, recurses := true, apart := false, narrowed := true }
def FnExactShiftTilingUptoSaid : Prop := fnExactShiftTilingUptoRow.holds Try.pinned (OpenSpec.upto fnExactShiftTilingSpec)

/-- 'laws.FnExactInverseMotion', WHERE WHAT IT READS IS OF BULK AT MOST 1048576: true; the input reads as it did. -/
def fnExactInverseMotionUptoRow : OpenClaim := { program := "ytnidibnhojedoaa", sum := "704e71e60f716e45343269bb4c4dcab13dfae7e5126c0df27f6434f60afcd1c4", func := "loop.example/g00956/laws.FnExactInverseMotion", spec := "fnExactInverseMotion", unfollowed := true, recurses := true, apart := false, narrowed := true }
def FnExactInverseMotionUptoSaid : Prop := fnExactInverseMotionUptoRow.holds Try.pinned (OpenSpec.upto fnExactInverseMotionSpec)

/-- 'laws.FnExactIsSymmetry', WHERE WHAT IT READS IS OF BULK AT MOST 1048576: true; the input reads as it did. -/
def fnExactIsSymmetryUptoRow : OpenClaim := { program := "ytnidibnhojedoaa", sum := "704e71e60f716e45343269bb4c4dcab13dfae7e5126c0df27f6434f60afcd1c4", func := "loop.example/g00956/laws.FnExactIsSymmetry", spec := "fnExactIsSymmetry", unfollowed := true, recurses := true, apart := false, narrowed := true }
def FnExactIsSymmetryUptoSaid : Prop := fnExactIsSymmetryUptoRow.holds Try.pinned (OpenSpec.upto fnExactIsSymmetrySpec)

/-- 'laws.FnExactComposeMotions', WHERE WHAT IT READS IS OF BULK AT MOST 1048576: true; the input reads as it did. -/
def fnExactComposeMotionsUptoRow : OpenClaim := { program := "ytnidibnhojedoaa", sum := "704e71e60f716e45343269bb4c4dcab13dfae7e5126c0df27f6434f60afcd1c4", func := "loop.example/g00956/laws.FnExactComposeMotions", spec := "fnExactComposeMotions", unfollowed := true, recurses := true, apart := false, narrowed := true }
def FnExactComposeMotionsUptoSaid : Prop := fnExactComposeMotionsUptoRow.holds Try.pinned (OpenSpec.upto fnExactComposeMotionsSpec)

/-- 'laws.FnExactTileImage', WHERE WHAT IT READS IS OF BULK AT MOST 1048576: true; the input reads as it did. -/
def fnExactTileImageUptoRow : OpenClaim := { program := "ytnidibnhojedoaa", sum := "704e71e60f716e45343269bb4c4dcab13dfae7e5126c0df27f6434f60afcd1c4", func := "loop.example/g00956/laws.FnExactTileImage", spec := "fnExactTileImage", unfollowed := true, recurses := true, apart := false, narrowed := true }
def FnExactTileImageUptoSaid : Prop := fnExactTileImageUptoRow.holds Try.pinned (OpenSpec.upto fnExactTileImageSpec)

/-- 'laws.FnExactRepeatArea', WHERE WHAT IT READS IS OF BULK AT MOST 1048576: true; the input reads as it did. -/
def fnExactRepeatAreaUptoRow : OpenClaim := { program := "ytnidibnhojedoaa", sum := "704e71e60f716e45343269bb4c4dcab13dfae7e5126c0df27f6434f60afcd1c4", func := "loop.example/g00956/laws.FnExactRepeatArea", spec := "fnExactRepeatArea", unfollowed := true, recurses := true, apart := false, narrowed := true }
def FnExactRepeatAreaUptoSaid : Prop := fnExactRepeatAreaUptoRow.holds Try.pinned (OpenSpec.upto fnExactRepeatAreaSpec)

/-- 'laws.FnExactIsTransitive', WHERE WHAT IT READS IS OF BULK AT MOST 1048576: true; the input reads as it did. -/
def fnExactIsTransitiveUptoRow : OpenClaim := { program := "ytnidibnhojedoaa", sum := "704e71e60f716e45343269bb4c4dcab13dfae7e5126c0df27f6434f60afcd1c4", func := "loop.example/g00956/laws.FnExactIsTransitive", spec := "fnExactIsTransitive", unfollowed := true, recurses := true, apart := false, narrowed := true }
def FnExactIsTransitiveUptoSaid : Prop := fnExactIsTransitiveUptoRow.holds Try.pinned (OpenSpec.upto fnExactIsTransitiveSpec)

/-- 'laws.FnExactTileOrbits', WHERE WHAT IT READS IS OF BULK AT MOST 1048576: true; the input reads as it did. -/
def fnExactTileOrbitsUptoRow : OpenClaim := { program := "ytnidibnhojedoaa", sum := "704e71e60f716e45343269bb4c4dcab13dfae7e5126c0df27f6434f60afcd1c4", func := "loop.example/g00956/laws.FnExactTileOrbits", spec := "fnExactTileOrbits", unfollowed := true, recurses := true, apart := false, narrowed := true }
def FnExactTileOrbitsUptoSaid : Prop := fnExactTileOrbitsUptoRow.holds Try.pinned (OpenSpec.upto fnExactTileOrbitsSpec)

/-- 'laws.FnExactSymmetriesOf', WHERE WHAT IT READS IS OF BULK AT MOST 1048576: true; the input reads as it did. -/
def fnExactSymmetriesOfUptoRow : OpenClaim := { program := "ytnidibnhojedoaa", sum := "704e71e60f716e45343269bb4c4dcab13dfae7e5126c0df27f6434f60afcd1c4", func := "loop.example/g00956/laws.FnExactSymmetriesOf", spec := "fnExactSymmetriesOf", unfollowed := true, recurses := true, apart := false, narrowed := true }
def FnExactSymmetriesOfUptoSaid : Prop := fnExactSymmetriesOfUptoRow.holds Try.pinned (OpenSpec.upto fnExactSymmetriesOfSpec)

end Rows
end Go.Proofs.Ytnidibnhojedoaa
