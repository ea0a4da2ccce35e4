/-
  DERIVED. GIVEN WITH THE SEED: THE CARDS: each row of YtakagkflgkoiiaaDoorRows.lean that lists a variable, with what it lists TIED to the program's text (the seventh form; the later family's looks); each row that meets fmt, with fmt's text TOLD by the authors' own Lean function (tested against real Go, not proved from fmt's source: count such statements apart). THE CARD IS WHAT COUNTS. Prove the row's statement (the work); the ties are given (YtakagkflgkoiiaaDoorTie.lean); close each card by the builder's one call (the guide's Derived/Test/ToyasCard.lean, 'card_holds'). Laid BY PROGRAM, IN A SANDBOX (cutbox-door.mjs). By AI agents, Wed Nov 11 2026. No macro, syntax, notation, axiom, sorry.
-/
import Derived.Test.YtakagkflgkoiiaaDoorRows
import GoSem.ClaimSeven
namespace Go.Proofs.YtakagkflgkoiiaaDoor
namespace Rows

/-- THE TIED CARD OF 'laws.FnExactReadShape'. -/
def fnExactReadShapeCard : Claim7 := { stood := { row := fnExactReadShapeRow, standIns := [], harness := (true, "e52baad70a381c66b1d527cf62d2aed1815274e52cac762fd246d66d602df909"), looks := false }, kinds := [], alts := [], laidByText := true, laidKinds := [.data, .pinned], laidTests := true, laidLooks := .later }
def FnExactReadShapeCardSaid : Prop := Claim7.holds Tryd.pinned (.plain (OpenSpec.ofChange fnExactReadShapeSpec)) fnExactReadShapeCard

/-- THE SECOND FORM's CARD OF 'laws.FnExactReadShape'. -/
def fnExactReadShapeUptoCard : Claim7 := { stood := { row := fnExactReadShapeUptoRow, standIns := [], harness := (true, "e52baad70a381c66b1d527cf62d2aed1815274e52cac762fd246d66d602df909"), looks := false }, kinds := [], alts := [], laidByText := true, laidKinds := [.data, .pinned], laidTests := true, laidLooks := .later }
def FnExactReadShapeUptoCardSaid : Prop := Claim7.holds Tryd.pinned (.plain (OpenSpec.upto fnExactReadShapeSpec)) fnExactReadShapeUptoCard
end Rows
end Go.Proofs.YtakagkflgkoiiaaDoor
