/-
  DERIVED. GIVEN WITH THE SEED: THE CARDS: each row of YtdmndgaajgakiaaDoorRows.lean that lists a variable, with what it lists TIED to the program's text (the seventh form; the later family's looks); each row that meets fmt, with fmt's text TOLD by the authors' own Lean function (tested against real Go, not proved from fmt's source: count such statements apart). THE CARD IS WHAT COUNTS. Prove the row's statement (the work); the ties are given (YtdmndgaajgakiaaDoorTie.lean); close each card by the builder's one call (the guide's Derived/Test/ToyasCard.lean, 'card_holds'). Laid BY PROGRAM, IN A SANDBOX (cutbox-door.mjs). By AI agents, Wed Nov 11 2026. No macro, syntax, notation, axiom, sorry.
-/
import Derived.Test.YtdmndgaajgakiaaDoorRows
import GoSem.ClaimSeven
namespace Go.Proofs.YtdmndgaajgakiaaDoor
namespace Rows

/-- THE TIED CARD OF 'laws.FnExactEdgeGap'. -/
def fnExactEdgeGapCard : Claim7 := { stood := { row := fnExactEdgeGapRow, standIns := [], harness := (true, "6a8beba1add260a8c2c1a16dffc0cc82fe73e8aa846a3ece96ee4d13d8d2560c"), looks := false }, kinds := [], alts := [], laidByText := true, laidKinds := [.data], laidTests := true, laidLooks := .later }
def FnExactEdgeGapCardSaid : Prop := Claim7.holds Tryd.pinned (.plain (OpenSpec.ofChange fnExactEdgeGapSpec)) fnExactEdgeGapCard

/-- THE TIED CARD OF 'laws.FnExactBestMonth'. -/
def fnExactBestMonthCard : Claim7 := { stood := { row := fnExactBestMonthRow, standIns := [], harness := (true, "6a8beba1add260a8c2c1a16dffc0cc82fe73e8aa846a3ece96ee4d13d8d2560c"), looks := false }, kinds := [], alts := [], laidByText := true, laidKinds := [.data], laidTests := true, laidLooks := .later }
def FnExactBestMonthCardSaid : Prop := Claim7.holds Tryd.pinned (.plain (OpenSpec.ofChange fnExactBestMonthSpec)) fnExactBestMonthCard

/-- THE SECOND FORM's CARD OF 'laws.FnExactEdgeGap'. -/
def fnExactEdgeGapUptoCard : Claim7 := { stood := { row := fnExactEdgeGapUptoRow, standIns := [], harness := (true, "6a8beba1add260a8c2c1a16dffc0cc82fe73e8aa846a3ece96ee4d13d8d2560c"), looks := false }, kinds := [], alts := [], laidByText := true, laidKinds := [.data], laidTests := true, laidLooks := .later }
def FnExactEdgeGapUptoCardSaid : Prop := Claim7.holds Tryd.pinned (.plain (OpenSpec.upto fnExactEdgeGapSpec)) fnExactEdgeGapUptoCard

/-- THE SECOND FORM's CARD OF 'laws.FnExactBestMonth'. -/
def fnExactBestMonthUptoCard : Claim7 := { stood := { row := fnExactBestMonthUptoRow, standIns := [], harness := (true, "6a8beba1add260a8c2c1a16dffc0cc82fe73e8aa846a3ece96ee4d13d8d2560c"), looks := false }, kinds := [], alts := [], laidByText := true, laidKinds := [.data], laidTests := true, laidLooks := .later }
def FnExactBestMonthUptoCardSaid : Prop := Claim7.holds Tryd.pinned (.plain (OpenSpec.upto fnExactBestMonthSpec)) fnExactBestMonthUptoCard
end Rows
end Go.Proofs.YtdmndgaajgakiaaDoor
