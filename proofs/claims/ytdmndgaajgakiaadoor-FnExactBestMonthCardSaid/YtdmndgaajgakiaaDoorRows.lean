/-
  NARROWER THAN 'FOR EVERY INPUT', by the rows' own cells (each row's printed sentence says how): FnExactEdgeGap: laid · FnExactBestMonth: laid.
  DERIVED. THE GIVEN ROWS OF THIS SEAT. 2 by the template 'for every input the law returns true; each argument reads behind the call as it read before'; 0 by the template 'total and deterministic' (their statements: YtdmndgaajgakiaaDoorTotals.lean).
  GIVEN WITH THE SEED: the statements are not yours to turn. If you find one false, say at which input.
  Laid BY PROGRAM, IN A SANDBOX (cutbox-rows.mjs): the forced cells as the released guide's own fill.sh prints them over the translation e998a3fa94aa1000… (all of the seat's roots in one cut). By AI agents, Wed Nov 11 2026. No macro, syntax, notation, axiom, sorry.
-/
import Derived.Test.YtdmndgaajgakiaaDoorChecked
import GoSem.Claim
import GoSem.ClaimJoined
import GoSem.ClaimMapViews
import Derived.JoinedTies
import Derived.KernelRfl
namespace Go.Proofs.YtdmndgaajgakiaaDoor
/- THE CELL 'sum', in the pinned program and in every row, IS THE sha256 OF THE DUMP (.gsa) THAT YtdmndgaajgakiaaDoorProg.lean LOADS. Nothing in Lean hashes anything: it is a label: what it is worth is what the hold of that sum in a sandbox is worth. -/
noncomputable def Tryd.pinned : Pinned := { name := "ytdmndgaajgakiaadoor", sum := "e998a3fa94aa1000b0268b303ed93af3c1425b471922d5b013ca857ca583e7c1", checked := Tryd.checked }
namespace Rows
def none {H : Type} : Left H := { results := [], args := [] }

/- WHAT THE LISTED PACKAGE-LEVEL VARIABLES READ AS WHEN THE CALL BEGINS. Each datum BY PROGRAM (the guide's laid-datum.mjs) off the statement by which the dump's own 'gosem.cut.vars' lays the variable. In a bare row this is a premise. The card (YtdmndgaajgakiaaDoorCards.lean) ties it to the program's text. -/
def laid_loop_example_g00956_impl_moistures {H : Type} : DataW H := .agg [.agg [.lit (.int .i64 0), .lit (.int .i64 0)], .agg [.lit (.int .i64 30), .lit (.int .i64 60)], .agg [.lit (.int .i64 50), .lit (.int .i64 90)], .agg [.lit (.int .i64 65), .lit (.int .i64 120)], .agg [.lit (.int .i64 80), .lit (.int .i64 160)], .agg [.lit (.int .i64 100), .lit (.int .i64 280)]]

/-- 'laws.FnExactEdgeGap': WHATEVER THE INPUT: true; the input reads as it did. -/
def fnExactEdgeGapSpec : ChangeSpec := { name := "fnExactEdgeGap", vars := ["loop.example/g00956/impl.moistures"], fn := fun _ => fun
  | [d1, d2, d3, g1] => { results := [.lit (.bool true)], args := [d1, d2, d3], vars := [g1] }
  | _ => none }
def fnExactEdgeGapRow : OpenClaim := { program := "ytdmndgaajgakiaadoor", sum := "e998a3fa94aa1000b0268b303ed93af3c1425b471922d5b013ca857ca583e7c1", func := "loop.example/g00956/laws.FnExactEdgeGap", spec := "fnExactEdgeGap", named := ["loop.example/g00956/impl.moistures"], apart := false, laid := [("loop.example/g00956/impl.moistures", laid_loop_example_g00956_impl_moistures)] }
def FnExactEdgeGapSaid : Prop := fnExactEdgeGapRow.holds Tryd.pinned (OpenSpec.ofChange fnExactEdgeGapSpec)

/-- ITS FALSE NEIGHBOUR: 'it returns false'. Refute it at one input. -/
def fnExactEdgeGapWrong : ChangeSpec := { name := "fnExactEdgeGap", vars := ["loop.example/g00956/impl.moistures"], fn := fun _ => fun
  | [d1, d2, d3, g1] => { results := [.lit (.bool false)], args := [d1, d2, d3], vars := [g1] }
  | _ => none }
def FnExactEdgeGapWrongFalsely : Prop := fnExactEdgeGapRow.holds Tryd.pinned (OpenSpec.ofChange fnExactEdgeGapWrong)

/-- 'laws.FnExactBestMonth': WHATEVER THE INPUT: true; the input reads as it did. -/
def fnExactBestMonthSpec : ChangeSpec := { name := "fnExactBestMonth", vars := ["loop.example/g00956/impl.moistures"], fn := fun _ => fun
  | [d1, d2, g1] => { results := [.lit (.bool true)], args := [d1, d2], vars := [g1] }
  | _ => none }
def fnExactBestMonthRow : OpenClaim := { program := "ytdmndgaajgakiaadoor", sum := "e998a3fa94aa1000b0268b303ed93af3c1425b471922d5b013ca857ca583e7c1", func := "loop.example/g00956/laws.FnExactBestMonth", spec := "fnExactBestMonth", named := ["loop.example/g00956/impl.moistures"], apart := false, laid := [("loop.example/g00956/impl.moistures", laid_loop_example_g00956_impl_moistures)] }
def FnExactBestMonthSaid : Prop := fnExactBestMonthRow.holds Tryd.pinned (OpenSpec.ofChange fnExactBestMonthSpec)

/-- ITS FALSE NEIGHBOUR: 'it returns false'. Refute it at one input. -/
def fnExactBestMonthWrong : ChangeSpec := { name := "fnExactBestMonth", vars := ["loop.example/g00956/impl.moistures"], fn := fun _ => fun
  | [d1, d2, g1] => { results := [.lit (.bool false)], args := [d1, d2], vars := [g1] }
  | _ => none }
def FnExactBestMonthWrongFalsely : Prop := fnExactBestMonthRow.holds Tryd.pinned (OpenSpec.ofChange fnExactBestMonthWrong)

/- THE SECOND FORM. 'bulk': how many values and letters a reading holds, each counted each time it is reached (what is shared counts as often as it is met; a slice's spare places count too). A statement '..UptoSaid' is the law's where the arguments, and the package variables that the reading takes, are together of bulk at most 1048576: NARROWER than '..Said'. Prove '..Said' where nothing that the law and all that it calls make is longer than what came in: it says more and counts as full. Else prove '..UptoSaid'. A law counts once. -/
mutual
def uptoBulk {H : Type} : DataW H → Nat
  | .lit (.string bytes) => bytes.length + 1
  | .lit _ => 1
  | .nil => 1
  | .ptr d => uptoBulk d + 1
  | .slice elems spare => uptoBulkAll elems + uptoBulkAll spare + 1
  | .agg parts => uptoBulkAll parts + 1
  | .iface _ d => uptoBulk d + 1
  | .map entries => uptoBulkEntries entries + 1
  | .held _ => 1
def uptoBulkAll {H : Type} : List (DataW H) → Nat
  | [] => 0
  | d :: r => uptoBulk d + uptoBulkAll r
def uptoBulkEntries {H : Type} : List (Lit × DataW H) → Nat
  | [] => 0
  | x :: r => uptoBulkEntry x + uptoBulkEntries r
def uptoBulkEntry {H : Type} : Lit × DataW H → Nat
  | (.string bytes, d) => bytes.length + uptoBulk d + 1
  | (_, d) => uptoBulk d + 1
 end
def uptoSmall : (H : Type) → List (DataW H) → Bool := fun _ ds => decide (uptoBulkAll ds ≤ 1048576)
def OpenSpec.upto (s : _root_.Go.ChangeSpec) : _root_.Go.OpenSpec := { _root_.Go.OpenSpec.ofChange s with cond := some uptoSmall }

/-- 'laws.FnExactEdgeGap', WHERE WHAT IT READS IS OF BULK AT MOST 1048576: true; the input reads as it did. -/
def fnExactEdgeGapUptoRow : OpenClaim := { program := "ytdmndgaajgakiaadoor", sum := "e998a3fa94aa1000b0268b303ed93af3c1425b471922d5b013ca857ca583e7c1", func := "loop.example/g00956/laws.FnExactEdgeGap", spec := "fnExactEdgeGap", named := ["loop.example/g00956/impl.moistures"], apart := false, laid := [("loop.example/g00956/impl.moistures", laid_loop_example_g00956_impl_moistures)], narrowed := true }
def FnExactEdgeGapUptoSaid : Prop := fnExactEdgeGapUptoRow.holds Tryd.pinned (OpenSpec.upto fnExactEdgeGapSpec)

/-- 'laws.FnExactBestMonth', WHERE WHAT IT READS IS OF BULK AT MOST 1048576: true; the input reads as it did. -/
def fnExactBestMonthUptoRow : OpenClaim := { program := "ytdmndgaajgakiaadoor", sum := "e998a3fa94aa1000b0268b303ed93af3c1425b471922d5b013ca857ca583e7c1", func := "loop.example/g00956/laws.FnExactBestMonth", spec := "fnExactBestMonth", named := ["loop.example/g00956/impl.moistures"], apart := false, laid := [("loop.example/g00956/impl.moistures", laid_loop_example_g00956_impl_moistures)], narrowed := true }
def FnExactBestMonthUptoSaid : Prop := fnExactBestMonthUptoRow.holds Tryd.pinned (OpenSpec.upto fnExactBestMonthSpec)

end Rows
end Go.Proofs.YtdmndgaajgakiaaDoor
