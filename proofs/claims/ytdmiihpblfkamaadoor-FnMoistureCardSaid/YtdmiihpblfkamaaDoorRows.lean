/-
  NARROWER THAN 'FOR EVERY INPUT', by the rows' own cells (each row's printed sentence says how): FnExactMoistureOf: laid · FnExactHumidityFor: laid · FnExactSeasonRange: laid · FnMoisture: laid.
  DERIVED. THE GIVEN ROWS OF THIS SEAT. 4 by the template 'for every input the law returns true; each argument reads behind the call as it read before'; 0 by the template 'total and deterministic' (their statements: YtdmiihpblfkamaaDoorTotals.lean).
  GIVEN WITH THE SEED: the statements are not yours to turn. If you find one false, say at which input.
  Laid BY PROGRAM, IN A SANDBOX (cutbox-rows.mjs): the forced cells as the released guide's own fill.sh prints them over the translation d321e8bbb61dd866… (all of the seat's roots in one cut). By AI agents, Wed Nov 11 2026. No macro, syntax, notation, axiom, sorry.
-/
import Derived.Test.YtdmiihpblfkamaaDoorChecked
import GoSem.Claim
import GoSem.ClaimJoined
import GoSem.ClaimMapViews
import Derived.JoinedTies
import Derived.KernelRfl
namespace Go.Proofs.YtdmiihpblfkamaaDoor
/- THE CELL 'sum', in the pinned program and in every row, IS THE sha256 OF THE DUMP (.gsa) THAT YtdmiihpblfkamaaDoorProg.lean LOADS. Nothing in Lean hashes anything: it is a label: what it is worth is what the hold of that sum in a sandbox is worth. -/
noncomputable def Tryd.pinned : Pinned := { name := "ytdmiihpblfkamaadoor", sum := "d321e8bbb61dd866080c08befdc054ad5b40df44f62595dcdbb7497970ac2177", checked := Tryd.checked }
namespace Rows
def none {H : Type} : Left H := { results := [], args := [] }

/- WHAT THE LISTED PACKAGE-LEVEL VARIABLES READ AS WHEN THE CALL BEGINS. Each datum BY PROGRAM (the guide's laid-datum.mjs) off the statement by which the dump's own 'gosem.cut.vars' lays the variable. In a bare row this is a premise. The card (YtdmiihpblfkamaaDoorCards.lean) ties it to the program's text. -/
def laid_loop_example_g00956_impl_moistures {H : Type} : DataW H := .agg [.agg [.lit (.int .i64 0), .lit (.int .i64 0)], .agg [.lit (.int .i64 30), .lit (.int .i64 60)], .agg [.lit (.int .i64 50), .lit (.int .i64 90)], .agg [.lit (.int .i64 65), .lit (.int .i64 120)], .agg [.lit (.int .i64 80), .lit (.int .i64 160)], .agg [.lit (.int .i64 100), .lit (.int .i64 280)]]

/-- 'laws.FnExactMoistureOf': WHATEVER THE INPUT: true; the input reads as it did. -/
def fnExactMoistureOfSpec : ChangeSpec := { name := "fnExactMoistureOf", vars := ["loop.example/g00956/impl.moistures"], fn := fun _ => fun
  | [d, g1] => { results := [.lit (.bool true)], args := [d], vars := [g1] }
  | _ => none }
def fnExactMoistureOfRow : OpenClaim := { program := "ytdmiihpblfkamaadoor", sum := "d321e8bbb61dd866080c08befdc054ad5b40df44f62595dcdbb7497970ac2177", func := "loop.example/g00956/laws.FnExactMoistureOf", spec := "fnExactMoistureOf", named := ["loop.example/g00956/impl.moistures"], apart := false, laid := [("loop.example/g00956/impl.moistures", laid_loop_example_g00956_impl_moistures)] }
def FnExactMoistureOfSaid : Prop := fnExactMoistureOfRow.holds Tryd.pinned (OpenSpec.ofChange fnExactMoistureOfSpec)

/-- ITS FALSE NEIGHBOUR: 'it returns false'. Refute it at one input. -/
def fnExactMoistureOfWrong : ChangeSpec := { name := "fnExactMoistureOf", vars := ["loop.example/g00956/impl.moistures"], fn := fun _ => fun
  | [d, g1] => { results := [.lit (.bool false)], args := [d], vars := [g1] }
  | _ => none }
def FnExactMoistureOfWrongFalsely : Prop := fnExactMoistureOfRow.holds Tryd.pinned (OpenSpec.ofChange fnExactMoistureOfWrong)

/-- 'laws.FnExactHumidityFor': WHATEVER THE INPUT: true; the input reads as it did. -/
def fnExactHumidityForSpec : ChangeSpec := { name := "fnExactHumidityFor", vars := ["loop.example/g00956/impl.moistures"], fn := fun _ => fun
  | [d, g1] => { results := [.lit (.bool true)], args := [d], vars := [g1] }
  | _ => none }
def fnExactHumidityForRow : OpenClaim := { program := "ytdmiihpblfkamaadoor", sum := "d321e8bbb61dd866080c08befdc054ad5b40df44f62595dcdbb7497970ac2177", func := "loop.example/g00956/laws.FnExactHumidityFor", spec := "fnExactHumidityFor", named := ["loop.example/g00956/impl.moistures"], apart := false, laid := [("loop.example/g00956/impl.moistures", laid_loop_example_g00956_impl_moistures)] }
def FnExactHumidityForSaid : Prop := fnExactHumidityForRow.holds Tryd.pinned (OpenSpec.ofChange fnExactHumidityForSpec)

/-- ITS FALSE NEIGHBOUR: 'it returns false'. Refute it at one input. -/
def fnExactHumidityForWrong : ChangeSpec := { name := "fnExactHumidityFor", vars := ["loop.example/g00956/impl.moistures"], fn := fun _ => fun
  | [d, g1] => { results := [.lit (.bool false)], args := [d], vars := [g1] }
  | _ => none }
def FnExactHumidityForWrongFalsely : Prop := fnExactHumidityForRow.holds Tryd.pinned (OpenSpec.ofChange fnExactHumidityForWrong)

/-- 'laws.FnExactSeasonRange': WHATEVER THE INPUT: true; the input reads as it did. -/
def fnExactSeasonRangeSpec : ChangeSpec := { name := "fnExactSeasonRange", vars := ["loop.example/g00956/impl.moistures"], fn := fun _ => fun
  | [d, g1] => { results := [.lit (.bool true)], args := [d], vars := [g1] }
  | _ => none }
def fnExactSeasonRangeRow : OpenClaim := { program := "ytdmiihpblfkamaadoor", sum := "d321e8bbb61dd866080c08befdc054ad5b40df44f62595dcdbb7497970ac2177", func := "loop.example/g00956/laws.FnExactSeasonRange", spec := "fnExactSeasonRange", named := ["loop.example/g00956/impl.moistures"], apart := false, laid := [("loop.example/g00956/impl.moistures", laid_loop_example_g00956_impl_moistures)] }
def FnExactSeasonRangeSaid : Prop := fnExactSeasonRangeRow.holds Tryd.pinned (OpenSpec.ofChange fnExactSeasonRangeSpec)

/-- ITS FALSE NEIGHBOUR: 'it returns false'. Refute it at one input. -/
def fnExactSeasonRangeWrong : ChangeSpec := { name := "fnExactSeasonRange", vars := ["loop.example/g00956/impl.moistures"], fn := fun _ => fun
  | [d, g1] => { results := [.lit (.bool false)], args := [d], vars := [g1] }
  | _ => none }
def FnExactSeasonRangeWrongFalsely : Prop := fnExactSeasonRangeRow.holds Tryd.pinned (OpenSpec.ofChange fnExactSeasonRangeWrong)

/-- 'laws.FnMoisture': WHATEVER THE INPUT: true; the input reads as it did. -/
def fnMoistureSpec : ChangeSpec := { name := "fnMoisture", vars := ["loop.example/g00956/impl.moistures"], fn := fun _ => fun
  | [d1, d2, g1] => { results := [.lit (.bool true)], args := [d1, d2], vars := [g1] }
  | _ => none }
def fnMoistureRow : OpenClaim := { program := "ytdmiihpblfkamaadoor", sum := "d321e8bbb61dd866080c08befdc054ad5b40df44f62595dcdbb7497970ac2177", func := "loop.example/g00956/laws.FnMoisture", spec := "fnMoisture", named := ["loop.example/g00956/impl.moistures"], apart := false, laid := [("loop.example/g00956/impl.moistures", laid_loop_example_g00956_impl_moistures)] }
def FnMoistureSaid : Prop := fnMoistureRow.holds Tryd.pinned (OpenSpec.ofChange fnMoistureSpec)

/-- ITS FALSE NEIGHBOUR: 'it returns false'. Refute it at one input. -/
def fnMoistureWrong : ChangeSpec := { name := "fnMoisture", vars := ["loop.example/g00956/impl.moistures"], fn := fun _ => fun
  | [d1, d2, g1] => { results := [.lit (.bool false)], args := [d1, d2], vars := [g1] }
  | _ => none }
def FnMoistureWrongFalsely : Prop := fnMoistureRow.holds Tryd.pinned (OpenSpec.ofChange fnMoistureWrong)

/- THE SECOND FORM. 'bulk': how many values and letters a reading holds, each counted each time it is reached (what is shared counts as often as it is met; a slice's spare places count too). A statement '..UptoSaid' is the law's where the arguments, and the package variables that the reading takes, are together of bulk at most 1048576: NARROWER than '..Said'. Prove '..Said' where nothing that the law and all that it calls make is longer than what came in: it says more and counts as full. Else prove '..UptoSaid'. A law counts once. -/
mutual
def uptoBulk {H : Type} : DataW H → Nat
  | .lit (.string bytes) => bytes.length + 1
  | .lit _ => 1
  | .nil => 1
  | .ptr d => uptoBulk d + 1
  | .slice elems spare => uptoBulkAll elems + uptoBulkAll spare + 1
  | .agg parts => uptoBulkAll parts + 1
  | .iface _ d => uptoBulk d + 1
  | .map entries => uptoBulkEntries entries + 1
  | .held _ => 1
def uptoBulkAll {H : Type} : List (DataW H) → Nat
  | [] => 0
  | d :: r => uptoBulk d + uptoBulkAll r
def uptoBulkEntries {H : Type} : List (Lit × DataW H) → Nat
  | [] => 0
  | x :: r => uptoBulkEntry x + uptoBulkEntries r
def uptoBulkEntry {H : Type} : Lit × DataW H → Nat
  | (.string bytes, d) => bytes.length + uptoBulk d + 1
  | (_, d) => uptoBulk d + 1
 end
def uptoSmall : (H : Type) → List (DataW H) → Bool := fun _ ds => decide (uptoBulkAll ds ≤ 1048576)
def OpenSpec.upto (s : _root_.Go.ChangeSpec) : _root_.Go.OpenSpec := { _root_.Go.OpenSpec.ofChange s with cond := some uptoSmall }

/-- 'laws.FnExactMoistureOf', WHERE WHAT IT READS IS OF BULK AT MOST 1048576: true; the input reads as it did. -/
def fnExactMoistureOfUptoRow : OpenClaim := { program := "ytdmiihpblfkamaadoor", sum := "d321e8bbb61dd866080c08befdc054ad5b40df44f62595dcdbb7497970ac2177", func := "loop.example/g00956/laws.FnExactMoistureOf", spec := "fnExactMoistureOf", named := ["loop.example/g00956/impl.moistures"], apart := false, laid := [("loop.example/g00956/impl.moistures", laid_loop_example_g00956_impl_moistures)], narrowed := true }
def FnExactMoistureOfUptoSaid : Prop := fnExactMoistureOfUptoRow.holds Tryd.pinned (OpenSpec.upto fnExactMoistureOfSpec)

/-- 'laws.FnExactHumidityFor', WHERE WHAT IT READS IS OF BULK AT MOST 1048576: true; the input reads as it did. -/
def fnExactHumidityForUptoRow : OpenClaim := { program := "ytdmiihpblfkamaadoor", sum := "d321e8bbb61dd866080c08befdc054ad5b40df44f62595dcdbb7497970ac2177", func := "loop.example/g00956/laws.FnExactHumidityFor", spec := "fnExactHumidityFor", named := ["loop.example/g00956/impl.moistures"], apart := false, laid := [("loop.example/g00956/impl.moistures", laid_loop_example_g00956_impl_moistures)], narrowed := true }
def FnExactHumidityForUptoSaid : Prop := fnExactHumidityForUptoRow.holds Tryd.pinned (OpenSpec.upto fnExactHumidityForSpec)

/-- 'laws.FnExactSeasonRange', WHERE WHAT IT READS IS OF BULK AT MOST 1048576: true; the input reads as it did. -/
def fnExactSeasonRangeUptoRow : OpenClaim := { program := "ytdmiihpblfkamaadoor", sum := "d321e8bbb61dd866080c08befdc054ad5b40df44f62595dcdbb7497970ac2177", func := "loop.example/g00956/laws.FnExactSeasonRange", spec := "fnExactSeasonRange", named := ["loop.example/g00956/impl.moistures"], apart := false, laid := [("loop.example/g00956/impl.moistures", laid_loop_example_g00956_impl_moistures)], narrowed := true }
def FnExactSeasonRangeUptoSaid : Prop := fnExactSeasonRangeUptoRow.holds Tryd.pinned (OpenSpec.upto fnExactSeasonRangeSpec)

/-- 'laws.FnMoisture', WHERE WHAT IT READS IS OF BULK AT MOST 1048576: true; the input reads as it did. -/
def fnMoistureUptoRow : OpenClaim := { program := "ytdmiihpblfkamaadoor", sum := "d321e8bbb61dd866080c08befdc054ad5b40df44f62595dcdbb7497970ac2177", func := "loop.example/g00956/laws.FnMoisture", spec := "fnMoisture", named := ["loop.example/g00956/impl.moistures"], apart := false, laid := [("loop.example/g00956/impl.moistures", laid_loop_example_g00956_impl_moistures)], narrowed := true }
def FnMoistureUptoSaid : Prop := fnMoistureUptoRow.holds Tryd.pinned (OpenSpec.upto fnMoistureSpec)

end Rows
end Go.Proofs.YtdmiihpblfkamaaDoor
