/-
  DERIVED. GIVEN WITH THE SEED: THE CARDS: each row of YtjmjbmahljlnlaaDoorRows.lean that lists a variable, with what it lists TIED to the program's text (the seventh form; the later family's looks); each row that meets fmt, with fmt's text TOLD by the authors' own Lean function (tested against real Go, not proved from fmt's source: count such statements apart). THE CARD IS WHAT COUNTS. Prove the row's statement (the work); the ties are given (YtjmjbmahljlnlaaDoorTie.lean); close each card by the builder's one call (the guide's Derived/Test/ToyasCard.lean, 'card_holds'). Laid BY PROGRAM, IN A SANDBOX (cutbox-door.mjs). By AI agents, Wed Nov 11 2026. No macro, syntax, notation, axiom, sorry.
-/
import Derived.Test.YtjmjbmahljlnlaaDoorRows
import GoSem.ClaimSeven
namespace Go.Proofs.YtjmjbmahljlnlaaDoor
namespace Rows

/-- THE TIED CARD OF 'laws.FnExactCoatText'. -/
def fnExactCoatTextCard : Claim7 := { stood := { row := fnExactCoatTextRow, standIns := [], harness := (true, "5b240b18e4a13e55bf879b13584d68dff353ae6bd28b33ef5ced119e948738d8"), looks := false }, kinds := [], alts := [], laidByText := true, laidKinds := [.data, .data, .data], laidTests := true, laidLooks := .later }
def FnExactCoatTextCardSaid : Prop := Claim7.holds Tryd.pinned (.plain (OpenSpec.ofChange fnExactCoatTextSpec)) fnExactCoatTextCard

/-- THE TIED CARD OF 'laws.FnExactReadCoat'. -/
def fnExactReadCoatCard : Claim7 := { stood := { row := fnExactReadCoatRow, standIns := [], harness := (true, "5b240b18e4a13e55bf879b13584d68dff353ae6bd28b33ef5ced119e948738d8"), looks := false }, kinds := [], alts := [], laidByText := true, laidKinds := [.data, .data, .data, .data, .pinned], laidTests := true, laidLooks := .later }
def FnExactReadCoatCardSaid : Prop := Claim7.holds Tryd.pinned (.plain (OpenSpec.ofChange fnExactReadCoatSpec)) fnExactReadCoatCard

/-- THE TIED CARD OF 'laws.FnExactReadBlade'. -/
def fnExactReadBladeCard : Claim7 := { stood := { row := fnExactReadBladeRow, standIns := [], harness := (true, "5b240b18e4a13e55bf879b13584d68dff353ae6bd28b33ef5ced119e948738d8"), looks := false }, kinds := [], alts := [], laidByText := true, laidKinds := [.data, .data, .data, .data, .pinned], laidTests := true, laidLooks := .later }
def FnExactReadBladeCardSaid : Prop := Claim7.holds Tryd.pinned (.plain (OpenSpec.ofChange fnExactReadBladeSpec)) fnExactReadBladeCard

/-- THE SECOND FORM's CARD OF 'laws.FnExactCoatText'. -/
def fnExactCoatTextUptoCard : Claim7 := { stood := { row := fnExactCoatTextUptoRow, standIns := [], harness := (true, "5b240b18e4a13e55bf879b13584d68dff353ae6bd28b33ef5ced119e948738d8"), looks := false }, kinds := [], alts := [], laidByText := true, laidKinds := [.data, .data, .data], laidTests := true, laidLooks := .later }
def FnExactCoatTextUptoCardSaid : Prop := Claim7.holds Tryd.pinned (.plain (OpenSpec.upto fnExactCoatTextSpec)) fnExactCoatTextUptoCard

/-- THE SECOND FORM's CARD OF 'laws.FnExactReadCoat'. -/
def fnExactReadCoatUptoCard : Claim7 := { stood := { row := fnExactReadCoatUptoRow, standIns := [], harness := (true, "5b240b18e4a13e55bf879b13584d68dff353ae6bd28b33ef5ced119e948738d8"), looks := false }, kinds := [], alts := [], laidByText := true, laidKinds := [.data, .data, .data, .data, .pinned], laidTests := true, laidLooks := .later }
def FnExactReadCoatUptoCardSaid : Prop := Claim7.holds Tryd.pinned (.plain (OpenSpec.upto fnExactReadCoatSpec)) fnExactReadCoatUptoCard

/-- THE SECOND FORM's CARD OF 'laws.FnExactReadBlade'. -/
def fnExactReadBladeUptoCard : Claim7 := { stood := { row := fnExactReadBladeUptoRow, standIns := [], harness := (true, "5b240b18e4a13e55bf879b13584d68dff353ae6bd28b33ef5ced119e948738d8"), looks := false }, kinds := [], alts := [], laidByText := true, laidKinds := [.data, .data, .data, .data, .pinned], laidTests := true, laidLooks := .later }
def FnExactReadBladeUptoCardSaid : Prop := Claim7.holds Tryd.pinned (.plain (OpenSpec.upto fnExactReadBladeSpec)) fnExactReadBladeUptoCard
end Rows
end Go.Proofs.YtjmjbmahljlnlaaDoor
