/-
  DERIVED. GIVEN WITH THE SEED: THE CARDS: each row of YtdmiihpblfkamaaDoorRows.lean that lists a variable, with what it lists TIED to the program's text (the seventh form; the later family's looks); each row that meets fmt, with fmt's text TOLD by the authors' own Lean function (tested against real Go, not proved from fmt's source: count such statements apart). THE CARD IS WHAT COUNTS. Prove the row's statement (the work); the ties are given (YtdmiihpblfkamaaDoorTie.lean); close each card by the builder's one call (the guide's Derived/Test/ToyasCard.lean, 'card_holds'). Laid BY PROGRAM, IN A SANDBOX (cutbox-door.mjs). By AI agents, Wed Nov 11 2026. No macro, syntax, notation, axiom, sorry.
-/
import Derived.Test.YtdmiihpblfkamaaDoorRows
import GoSem.ClaimSeven
namespace Go.Proofs.YtdmiihpblfkamaaDoor
namespace Rows

/-- THE TIED CARD OF 'laws.FnExactMoistureOf'. -/
def fnExactMoistureOfCard : Claim7 := { stood := { row := fnExactMoistureOfRow, standIns := [], harness := (true, "e343de59a5a152f766d184fd8777e56aba50f8ebc98a767dd96911bbf5bbf282"), looks := false }, kinds := [], alts := [], laidByText := true, laidKinds := [.data], laidTests := true, laidLooks := .later }
def FnExactMoistureOfCardSaid : Prop := Claim7.holds Tryd.pinned (.plain (OpenSpec.ofChange fnExactMoistureOfSpec)) fnExactMoistureOfCard

/-- THE TIED CARD OF 'laws.FnExactHumidityFor'. -/
def fnExactHumidityForCard : Claim7 := { stood := { row := fnExactHumidityForRow, standIns := [], harness := (true, "e343de59a5a152f766d184fd8777e56aba50f8ebc98a767dd96911bbf5bbf282"), looks := false }, kinds := [], alts := [], laidByText := true, laidKinds := [.data], laidTests := true, laidLooks := .later }
def FnExactHumidityForCardSaid : Prop := Claim7.holds Tryd.pinned (.plain (OpenSpec.ofChange fnExactHumidityForSpec)) fnExactHumidityForCard

/-- THE TIED CARD OF 'laws.FnExactSeasonRange'. -/
def fnExactSeasonRangeCard : Claim7 := { stood := { row := fnExactSeasonRangeRow, standIns := [], harness := (true, "e343de59a5a152f766d184fd8777e56aba50f8ebc98a767dd96911bbf5bbf282"), looks := false }, kinds := [], alts := [], laidByText := true, laidKinds := [.data], laidTests := true, laidLooks := .later }
def FnExactSeasonRangeCardSaid : Prop := Claim7.holds Tryd.pinned (.plain (OpenSpec.ofChange fnExactSeasonRangeSpec)) fnExactSeasonRangeCard

/-- THE TIED CARD OF 'laws.FnMoisture'. -/
def fnMoistureCard : Claim7 := { stood := { row := fnMoistureRow, standIns := [], harness := (true, "e343de59a5a152f766d184fd8777e56aba50f8ebc98a767dd96911bbf5bbf282"), looks := false }, kinds := [], alts := [], laidByText := true, laidKinds := [.data], laidTests := true, laidLooks := .later }
def FnMoistureCardSaid : Prop := Claim7.holds Tryd.pinned (.plain (OpenSpec.ofChange fnMoistureSpec)) fnMoistureCard

/-- THE SECOND FORM's CARD OF 'laws.FnExactMoistureOf'. -/
def fnExactMoistureOfUptoCard : Claim7 := { stood := { row := fnExactMoistureOfUptoRow, standIns := [], harness := (true, "e343de59a5a152f766d184fd8777e56aba50f8ebc98a767dd96911bbf5bbf282"), looks := false }, kinds := [], alts := [], laidByText := true, laidKinds := [.data], laidTests := true, laidLooks := .later }
def FnExactMoistureOfUptoCardSaid : Prop := Claim7.holds Tryd.pinned (.plain (OpenSpec.upto fnExactMoistureOfSpec)) fnExactMoistureOfUptoCard

/-- THE SECOND FORM's CARD OF 'laws.FnExactHumidityFor'. -/
def fnExactHumidityForUptoCard : Claim7 := { stood := { row := fnExactHumidityForUptoRow, standIns := [], harness := (true, "e343de59a5a152f766d184fd8777e56aba50f8ebc98a767dd96911bbf5bbf282"), looks := false }, kinds := [], alts := [], laidByText := true, laidKinds := [.data], laidTests := true, laidLooks := .later }
def FnExactHumidityForUptoCardSaid : Prop := Claim7.holds Tryd.pinned (.plain (OpenSpec.upto fnExactHumidityForSpec)) fnExactHumidityForUptoCard

/-- THE SECOND FORM's CARD OF 'laws.FnExactSeasonRange'. -/
def fnExactSeasonRangeUptoCard : Claim7 := { stood := { row := fnExactSeasonRangeUptoRow, standIns := [], harness := (true, "e343de59a5a152f766d184fd8777e56aba50f8ebc98a767dd96911bbf5bbf282"), looks := false }, kinds := [], alts := [], laidByText := true, laidKinds := [.data], laidTests := true, laidLooks := .later }
def FnExactSeasonRangeUptoCardSaid : Prop := Claim7.holds Tryd.pinned (.plain (OpenSpec.upto fnExactSeasonRangeSpec)) fnExactSeasonRangeUptoCard

/-- THE SECOND FORM's CARD OF 'laws.FnMoisture'. -/
def fnMoistureUptoCard : Claim7 := { stood := { row := fnMoistureUptoRow, standIns := [], harness := (true, "e343de59a5a152f766d184fd8777e56aba50f8ebc98a767dd96911bbf5bbf282"), looks := false }, kinds := [], alts := [], laidByText := true, laidKinds := [.data], laidTests := true, laidLooks := .later }
def FnMoistureUptoCardSaid : Prop := Claim7.holds Tryd.pinned (.plain (OpenSpec.upto fnMoistureSpec)) fnMoistureUptoCard
end Rows
end Go.Proofs.YtdmiihpblfkamaaDoor
