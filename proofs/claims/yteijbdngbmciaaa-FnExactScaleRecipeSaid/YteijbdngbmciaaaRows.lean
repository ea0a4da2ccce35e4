/-
  No cell of these rows narrows 'for every input' (looked for: loops, veiled, ifaces, maps, wideKeys, modest, calm, conditions, laid).
  DERIVED. THE GIVEN ROWS OF THIS SEAT. 6 by the template 'for every input the law returns true; each argument reads behind the call as it read before'; 0 by the template 'total and deterministic' (their statements: YteijbdngbmciaaaTotals.lean).
  GIVEN WITH THE SEED: the statements are not yours to turn. If you find one false, say at which input.
  Laid BY PROGRAM, IN A SANDBOX (cutbox-rows.mjs): the forced cells as the released guide's own fill.sh prints them over the translation c120dd56f4a5be84… (all of the seat's roots in one cut). By AI agents, Wed Nov 11 2026. No macro, syntax, notation, axiom, sorry.
-/
import Derived.Test.YteijbdngbmciaaaChecked
import GoSem.Claim
import GoSem.ClaimJoined
import GoSem.ClaimMapViews
import Derived.JoinedTies
import Derived.KernelRfl
namespace Go.Proofs.Yteijbdngbmciaaa
/- THE CELL 'sum', in the pinned program and in every row, IS THE sha256 OF THE DUMP (.gsa) THAT YteijbdngbmciaaaProg.lean LOADS. Nothing in Lean hashes anything: it is a label: what it is worth is what the hold of that sum in a sandbox is worth. -/
noncomputable def Try.pinned : Pinned := { name := "yteijbdngbmciaaa", sum := "c120dd56f4a5be8454959325e20e426920e430781f7395a4ce567f599d7f4e26", checked := Try.checked }
namespace Rows
def none {H : Type} : Left H := { results := [], args := [] }

/-- 'laws.FnExactValidRecipe': WHATEVER THE INPUT: true; the input reads as it did. -/
def fnExactValidRecipeSpec : ChangeSpec := { name := "fnExactValidRecipe", fn := fun _ => fun
  | [d] => { results := [.lit (.bool true)], args := [d] }
  | _ => none }
def fnExactValidRecipeRow : OpenClaim := { program := "yteijbdngbmciaaa", sum := "c120dd56f4a5be8454959325e20e426920e430781f7395a4ce567f599d7f4e26", func := "loop.example/g00956/laws.FnExactValidRecipe", spec := "fnExactValidRecipe", unfollowed := true, recurses := true, apart := false }
def FnExactValidRecipeSaid : Prop := fnExactValidRecipeRow.holds Try.pinned (OpenSpec.ofChange fnExactValidRecipeSpec)

/-- ITS FALSE NEIGHBOUR: 'it returns false'. Refute it at one input. -/
def fnExactValidRecipeWrong : ChangeSpec := { name := "fnExactValidRecipe", fn := fun _ => fun
  | [d] => { results := [.lit (.bool false)], args := [d] }
  | _ => none }
def FnExactValidRecipeWrongFalsely : Prop := fnExactValidRecipeRow.holds Try.pinned (OpenSpec.ofChange fnExactValidRecipeWrong)

/-- 'laws.FnExactRecipeTime': WHATEVER THE INPUT: true; the input reads as it did. -/
def fnExactRecipeTimeSpec : ChangeSpec := { name := "fnExactRecipeTime", fn := fun _ => fun
  | [d] => { results := [.lit (.bool true)], args := [d] }
  | _ => none }
def fnExactRecipeTimeRow : OpenClaim := { program := "yteijbdngbmciaaa", sum := "c120dd56f4a5be8454959325e20e426920e430781f7395a4ce567f599d7f4e26", func := "loop.example/g00956/laws.FnExactRecipeTime", spec := "fnExactRecipeTime", unfollowed := true, recurses := true, apart := false }
def FnExactRecipeTimeSaid : Prop := fnExactRecipeTimeRow.holds Try.pinned (OpenSpec.ofChange fnExactRecipeTimeSpec)

/-- ITS FALSE NEIGHBOUR: 'it returns false'. Refute it at one input. -/
def fnExactRecipeTimeWrong : ChangeSpec := { name := "fnExactRecipeTime", fn := fun _ => fun
  | [d] => { results := [.lit (.bool false)], args := [d] }
  | _ => none }
def FnExactRecipeTimeWrongFalsely : Prop := fnExactRecipeTimeRow.holds Try.pinned (OpenSpec.ofChange fnExactRecipeTimeWrong)

/-- 'laws.FnExactStepShade': WHATEVER THE INPUT: true; the input reads as it did. -/
def fnExactStepShadeSpec : ChangeSpec := { name := "fnExactStepShade", fn := fun _ => fun
  | [d1, d2, d3] => { results := [.lit (.bool true)], args := [d1, d2, d3] }
  | _ => none }
def fnExactStepShadeRow : OpenClaim := { program := "yteijbdngbmciaaa", sum := "c120dd56f4a5be8454959325e20e426920e430781f7395a4ce567f599d7f4e26", func := "loop.example/g00956/laws.FnExactStepShade", spec := "fnExactStepShade", apart := false }
def FnExactStepShadeSaid : Prop := fnExactStepShadeRow.holds Try.pinned (OpenSpec.ofChange fnExactStepShadeSpec)

/-- ITS FALSE NEIGHBOUR: 'it returns false'. Refute it at one input. -/
def fnExactStepShadeWrong : ChangeSpec := { name := "fnExactStepShade", fn := fun _ => fun
  | [d1, d2, d3] => { results := [.lit (.bool false)], args := [d1, d2, d3] }
  | _ => none }
def FnExactStepShadeWrongFalsely : Prop := fnExactStepShadeRow.holds Try.pinned (OpenSpec.ofChange fnExactStepShadeWrong)

/-- 'laws.FnExactFitTrials': WHATEVER THE INPUT: true; the input reads as it did. -/
def fnExactFitTrialsSpec : ChangeSpec := { name := "fnExactFitTrials", fn := fun _ => fun
  | [d] => { results := [.lit (.bool true)], args := [d] }
  | _ => none }
def fnExactFitTrialsRow : OpenClaim := { program := "yteijbdngbmciaaa", sum := "c120dd56f4a5be8454959325e20e426920e430781f7395a4ce567f599d7f4e26", func := "loop.example/g00956/laws.FnExactFitTrials", spec := "fnExactFitTrials", unfollowed := true, recurses := true, apart := false }
def FnExactFitTrialsSaid : Prop := fnExactFitTrialsRow.holds Try.pinned (OpenSpec.ofChange fnExactFitTrialsSpec)

/-- ITS FALSE NEIGHBOUR: 'it returns false'. Refute it at one input. -/
def fnExactFitTrialsWrong : ChangeSpec := { name := "fnExactFitTrials", fn := fun _ => fun
  | [d] => { results := [.lit (.bool false)], args := [d] }
  | _ => none }
def FnExactFitTrialsWrongFalsely : Prop := fnExactFitTrialsRow.holds Try.pinned (OpenSpec.ofChange fnExactFitTrialsWrong)

/-- 'laws.FnExactScaleRecipe': WHATEVER THE INPUT: true; the input reads as it did. -/
def fnExactScaleRecipeSpec : ChangeSpec := { name := "fnExactScaleRecipe", fn := fun _ => fun
  | [d1, d2] => { results := [.lit (.bool true)], args := [d1, d2] }
  | _ => none }
def fnExactScaleRecipeRow : OpenClaim := { program := "yteijbdngbmciaaa", sum := "c120dd56f4a5be8454959325e20e426920e430781f7395a4ce567f599d7f4e26", func := "loop.example/g00956/laws.FnExactScaleRecipe", spec := "fnExactScaleRecipe", unfollowed := true, recurses := true, apart := false }
def FnExactScaleRecipeSaid : Prop := fnExactScaleRecipeRow.holds Try.pinned (OpenSpec.ofChange fnExactScaleRecipeSpec)

/-- ITS FALSE NEIGHBOUR: 'it returns false'. Refute it at one input. -/
def fnExactScaleRecipeWrong : ChangeSpec := { name := "fnExactScaleRecipe", fn := fun _ => fun
  | [d1, d2] => { results := [.lit (.bool false)], args := [d1, d2] }
  | _ => none }
def FnExactScaleRecipeWrongFalsely : Prop := fnExactScaleRecipeRow.holds Try.pinned (OpenSpec.ofChange fnExactScaleRecipeWrong)

/-- 'laws.FnExactRecipeShades': WHATEVER THE INPUT: true; the input reads as it did. -/
def fnExactRecipeShadesSpec : ChangeSpec := { name := "fnExactRecipeShades", fn := fun _ => fun
  | [d1, d2, d3] => { results := [.lit (.bool true)], args := [d1, d2, d3] }
  | _ => none }
def fnExactRecipeShadesRow : OpenClaim := { program := "yteijbdngbmciaaa", sum := "c120dd56f4a5be8454959325e20e426920e430781f7395a4ce567f599d7f4e26", func := "loop.example/g00956/laws.FnExactRecipeShades", spec := "fnExactRecipeShades", unfollowed := true, recurses := true, apart := false }
def FnExactRecipeShadesSaid : Prop := fnExactRecipeShadesRow.holds Try.pinned (OpenSpec.ofChange fnExactRecipeShadesSpec)

/-- ITS FALSE NEIGHBOUR: 'it returns false'. Refute it at one input. -/
def fnExactRecipeShadesWrong : ChangeSpec := { name := "fnExactRecipeShades", fn := fun _ => fun
  | [d1, d2, d3] => { results := [.lit (.bool false)], args := [d1, d2, d3] }
  | _ => none }
def FnExactRecipeShadesWrongFalsely : Prop := fnExactRecipeShadesRow.holds Try.pinned (OpenSpec.ofChange fnExactRecipeShadesWrong)

/- THE SECOND FORM. 'bulk': how many values and letters a reading holds, each counted each time it is reached (what is shared counts as often as it is met; a slice's spare places count too). A statement '..UptoSaid' is the law's where the arguments, and the package variables that the reading takes, are together of bulk at most 1048576: NARROWER than '..Said'. Prove '..Said' where nothing that the law and all that it calls make is longer than what came in: it says more and counts as full. Else prove '..UptoSaid'. A law counts once. -/
mutual
def uptoBulk {H : Type} : DataW H → Nat
  | .lit (.string bytes) => bytes.length + 1
  | .lit _ => 1
  | .nil => 1
  | .ptr d => uptoBulk d + 1
  | .slice elems spare => uptoBulkAll elems + uptoBulkAll spare + 1
  | .agg parts => uptoBulkAll parts + 1
  | .iface _ d => uptoBulk d + 1
  | .map entries => uptoBulkEntries entries + 1
  | .held _ => 1
def uptoBulkAll {H : Type} : List (DataW H) → Nat
  | [] => 0
  | d :: r => uptoBulk d + uptoBulkAll r
def uptoBulkEntries {H : Type} : List (Lit × DataW H) → Nat
  | [] => 0
  | x :: r => uptoBulkEntry x + uptoBulkEntries r
def uptoBulkEntry {H : Type} : Lit × DataW H → Nat
  | (.string bytes, d) => bytes.length + uptoBulk d + 1
  | (_, d) => uptoBulk d + 1
 end
def uptoSmall : (H : Type) → List (DataW H) → Bool := fun _ ds => decide (uptoBulkAll ds ≤ 1048576)
def OpenSpec.upto (s : _root_.Go.ChangeSpec) : _root_.Go.OpenSpec := { _root_.Go.OpenSpec.ofChange s with cond := some uptoSmall }

/-- 'laws.FnExactValidRecipe', WHERE WHAT IT READS IS OF BULK AT MOST 1048576: true; the input reads as it did. -/
def fnExactValidRecipeUptoRow : OpenClaim := { program := "yteijbdngbmciaaa", sum := "c120dd56f4a5be8454959325e20e426920e430781f7395a4ce567f599d7f4e26", func := "loop.example/g00956/laws.FnExactValidRecipe", spec := "fnExactValidRecipe", unfollowed := true, recurses := true, apart := false, narrowed := true }
def FnExactValidRecipeUptoSaid : Prop := fnExactValidRecipeUptoRow.holds Try.pinned (OpenSpec.upto fnExactValidRecipeSpec)

/-- 'laws.FnExactRecipeTime', WHERE WHAT IT READS IS OF BULK AT MOST 1048576: true; the input reads as it did. -/
def fnExactRecipeTimeUptoRow : OpenClaim := { program := "yteijbdngbmciaaa", sum := "c120dd56f4a5be8454959325e20e426920e430781f7395a4ce567f599d7f4e26", func := "loop.example/g00956/laws.FnExactRecipeTime", spec := "fnExactRecipeTime", unfollowed := true, recurses := true, apart := false, narrowed := true }
def FnExactRecipeTimeUptoSaid : Prop := fnExactRecipeTimeUptoRow.holds Try.pinned (OpenSpec.upto fnExactRecipeTimeSpec)

/-- 'laws.FnExactStepShade', WHERE WHAT IT READS IS OF BULK AT MOST 1048576: true; the input reads as it did. -/
def fnExactStepShadeUptoRow : OpenClaim := { program := "yteijbdngbmciaaa", sum := "c120dd56f4a5be8454959325e20e426920e430781f7395a4ce567f599d7f4e26", func := "loop.example/g00956/laws.FnExactStepShade", spec := "fnExactStepShade", apart := false, narrowed := true }
def FnExactStepShadeUptoSaid : Prop := fnExactStepShadeUptoRow.holds Try.pinned (OpenSpec.upto fnExactStepShadeSpec)

/-- 'laws.FnExactFitTrials', WHERE WHAT IT READS IS OF BULK AT MOST 1048576: true; the input reads as it did. -/
def fnExactFitTrialsUptoRow : OpenClaim := { program := "yteijbdngbmciaaa", sum := "c120dd56f4a5be8454959325e20e426920e430781f7395a4ce567f599d7f4e26", func := "loop.example/g00956/laws.FnExactFitTrials", spec := "fnExactFitTrials", unfollowed := true, recurses := true, apart := false, narrowed := true }
def FnExactFitTrialsUptoSaid : Prop := fnExactFitTrialsUptoRow.holds Try.pinned (OpenSpec.upto fnExactFitTrialsSpec)

/-- 'laws.FnExactScaleRecipe', WHERE WHAT IT READS IS OF BULK AT MOST 1048576: true; the input reads as it did. -/
def fnExactScaleRecipeUptoRow : OpenClaim := { program := "yteijbdngbmciaaa", sum := "c120dd56f4a5be8454959325e20e426920e430781f7395a4ce567f599d7f4e26", func := "loop.example/g00956/laws.FnExactScaleRecipe", spec := "fnExactScaleRecipe", unfollowed := true, recurses := true, apart := false, narrowed := true }
def FnExactScaleRecipeUptoSaid : Prop := fnExactScaleRecipeUptoRow.holds Try.pinned (OpenSpec.upto fnExactScaleRecipeSpec)

/-- 'laws.FnExactRecipeShades', WHERE WHAT IT READS IS OF BULK AT MOST 1048576: true; the input reads as it did. -/
def fnExactRecipeShadesUptoRow : OpenClaim := { program := "yteijbdngbmciaaa", sum := "c120dd56f4a5be8454959325e20e426920e430781f7395a4ce567f599d7f4e26", func := "loop.example/g00956/laws.FnExactRecipeShades", spec := "fnExactRecipeShades", unfollowed := true, recurses := true, apart := false, narrowed := true }
def FnExactRecipeShadesUptoSaid : Prop := fnExactRecipeShadesUptoRow.holds Try.pinned (OpenSpec.upto fnExactRecipeShadesSpec)

end Rows
end Go.Proofs.Yteijbdngbmciaaa
