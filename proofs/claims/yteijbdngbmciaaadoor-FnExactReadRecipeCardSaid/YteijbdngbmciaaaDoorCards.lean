/-
  DERIVED. GIVEN WITH THE SEED: THE CARDS: each row of YteijbdngbmciaaaDoorRows.lean that lists a variable, with what it lists TIED to the program's text (the seventh form; the later family's looks); each row that meets fmt, with fmt's text TOLD by the authors' own Lean function (tested against real Go, not proved from fmt's source: count such statements apart). THE CARD IS WHAT COUNTS. Prove the row's statement (the work); the ties are given (YteijbdngbmciaaaDoorTie.lean); close each card by the builder's one call (the guide's Derived/Test/ToyasCard.lean, 'card_holds'). Laid BY PROGRAM, IN A SANDBOX (cutbox-door.mjs). By AI agents, Wed Nov 11 2026. No macro, syntax, notation, axiom, sorry.
-/
import Derived.Test.YteijbdngbmciaaaDoorRows
import GoSem.ClaimSeven
namespace Go.Proofs.YteijbdngbmciaaaDoor
namespace Rows

/-- THE TIED CARD OF 'laws.FnExactRecipeText'. -/
def fnExactRecipeTextCard : Claim7 := { stood := { row := fnExactRecipeTextRow, standIns := [], harness := (true, "010c5e4b296dff8cc4c0bd91e60dc1ad2c338ab26fe85d86949a1f453bd6c01d"), looks := false }, kinds := [], alts := [], laidByText := true, laidKinds := [.data, .data, .data], laidTests := true, laidLooks := .later }
def FnExactRecipeTextCardSaid : Prop := Claim7.holds Tryd.pinned (.plain (OpenSpec.ofChange fnExactRecipeTextSpec)) fnExactRecipeTextCard

/-- THE TIED CARD OF 'laws.FnExactReadRecipe'. -/
def fnExactReadRecipeCard : Claim7 := { stood := { row := fnExactReadRecipeRow, standIns := [], harness := (true, "010c5e4b296dff8cc4c0bd91e60dc1ad2c338ab26fe85d86949a1f453bd6c01d"), looks := false }, kinds := [], alts := [], laidByText := true, laidKinds := [.data, .data, .data, .data, .pinned], laidTests := true, laidLooks := .later }
def FnExactReadRecipeCardSaid : Prop := Claim7.holds Tryd.pinned (.plain (OpenSpec.ofChange fnExactReadRecipeSpec)) fnExactReadRecipeCard

/-- THE SECOND FORM's CARD OF 'laws.FnExactRecipeText'. -/
def fnExactRecipeTextUptoCard : Claim7 := { stood := { row := fnExactRecipeTextUptoRow, standIns := [], harness := (true, "010c5e4b296dff8cc4c0bd91e60dc1ad2c338ab26fe85d86949a1f453bd6c01d"), looks := false }, kinds := [], alts := [], laidByText := true, laidKinds := [.data, .data, .data], laidTests := true, laidLooks := .later }
def FnExactRecipeTextUptoCardSaid : Prop := Claim7.holds Tryd.pinned (.plain (OpenSpec.upto fnExactRecipeTextSpec)) fnExactRecipeTextUptoCard

/-- THE SECOND FORM's CARD OF 'laws.FnExactReadRecipe'. -/
def fnExactReadRecipeUptoCard : Claim7 := { stood := { row := fnExactReadRecipeUptoRow, standIns := [], harness := (true, "010c5e4b296dff8cc4c0bd91e60dc1ad2c338ab26fe85d86949a1f453bd6c01d"), looks := false }, kinds := [], alts := [], laidByText := true, laidKinds := [.data, .data, .data, .data, .pinned], laidTests := true, laidLooks := .later }
def FnExactReadRecipeUptoCardSaid : Prop := Claim7.holds Tryd.pinned (.plain (OpenSpec.upto fnExactReadRecipeSpec)) fnExactReadRecipeUptoCard
end Rows
end Go.Proofs.YteijbdngbmciaaaDoor
