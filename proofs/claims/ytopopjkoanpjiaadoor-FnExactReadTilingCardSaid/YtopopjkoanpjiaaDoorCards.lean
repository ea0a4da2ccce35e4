/-
  DERIVED. GIVEN WITH THE SEED: THE CARDS: each row of YtopopjkoanpjiaaDoorRows.lean that lists a variable, with what it lists TIED to the program's text (the seventh form; the later family's looks); each row that meets fmt, with fmt's text TOLD by the authors' own Lean function (tested against real Go, not proved from fmt's source: count such statements apart). THE CARD IS WHAT COUNTS. Prove the row's statement (the work); the ties are given (YtopopjkoanpjiaaDoorTie.lean); close each card by the builder's one call (the guide's Derived/Test/ToyasCard.lean, 'card_holds'). Laid BY PROGRAM, IN A SANDBOX (cutbox-door.mjs). By AI agents, Wed Nov 11 2026. No macro, syntax, notation, axiom, sorry.
-/
import Derived.Test.YtopopjkoanpjiaaDoorRows
import GoSem.ClaimSeven
namespace Go.Proofs.YtopopjkoanpjiaaDoor
namespace Rows

/-- THE TIED CARD OF 'laws.FnExactTilingText'. -/
def fnExactTilingTextCard : Claim7 := { stood := { row := fnExactTilingTextRow, standIns := [], harness := (true, "ff5542ae2fa4b18aeaba93681ca06112899be29edef639cd8fe48dab7c5d4f67"), looks := false }, kinds := [], alts := [], laidByText := true, laidKinds := [.data, .data, .data], laidTests := true, laidLooks := .later }
def FnExactTilingTextCardSaid : Prop := Claim7.holds Tryd.pinned (.plain (OpenSpec.ofChange fnExactTilingTextSpec)) fnExactTilingTextCard

/-- THE TIED CARD OF 'laws.FnExactReadTiling'. -/
def fnExactReadTilingCard : Claim7 := { stood := { row := fnExactReadTilingRow, standIns := [], harness := (true, "ff5542ae2fa4b18aeaba93681ca06112899be29edef639cd8fe48dab7c5d4f67"), looks := false }, kinds := [], alts := [], laidByText := true, laidKinds := [.data, .data, .data, .data, .pinned], laidTests := true, laidLooks := .later }
def FnExactReadTilingCardSaid : Prop := Claim7.holds Tryd.pinned (.plain (OpenSpec.ofChange fnExactReadTilingSpec)) fnExactReadTilingCard

/-- THE SECOND FORM's CARD OF 'laws.FnExactTilingText'. -/
def fnExactTilingTextUptoCard : Claim7 := { stood := { row := fnExactTilingTextUptoRow, standIns := [], harness := (true, "ff5542ae2fa4b18aeaba93681ca06112899be29edef639cd8fe48dab7c5d4f67"), looks := false }, kinds := [], alts := [], laidByText := true, laidKinds := [.data, .data, .data], laidTests := true, laidLooks := .later }
def FnExactTilingTextUptoCardSaid : Prop := Claim7.holds Tryd.pinned (.plain (OpenSpec.upto fnExactTilingTextSpec)) fnExactTilingTextUptoCard

/-- THE SECOND FORM's CARD OF 'laws.FnExactReadTiling'. -/
def fnExactReadTilingUptoCard : Claim7 := { stood := { row := fnExactReadTilingUptoRow, standIns := [], harness := (true, "ff5542ae2fa4b18aeaba93681ca06112899be29edef639cd8fe48dab7c5d4f67"), looks := false }, kinds := [], alts := [], laidByText := true, laidKinds := [.data, .data, .data, .data, .pinned], laidTests := true, laidLooks := .later }
def FnExactReadTilingUptoCardSaid : Prop := Claim7.holds Tryd.pinned (.plain (OpenSpec.upto fnExactReadTilingSpec)) fnExactReadTilingUptoCard
end Rows
end Go.Proofs.YtopopjkoanpjiaaDoor
