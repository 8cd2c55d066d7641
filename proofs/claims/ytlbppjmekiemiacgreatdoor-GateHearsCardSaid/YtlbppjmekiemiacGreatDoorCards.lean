/-
  DERIVED. GIVEN WITH THE SEED: THE CARDS: each row of YtlbppjmekiemiacGreatDoorRows.lean that lists a variable, with what it lists TIED to the program's text (the seventh form; the later family's looks); each row that meets fmt, with fmt's text TOLD by the authors' own Lean function (tested against real Go, not proved from fmt's source: count such statements apart). THE CARD IS WHAT COUNTS. Prove the row's statement (the work); the ties are given (YtlbppjmekiemiacGreatDoorTie.lean); close each card by the builder's one call (the guide's Derived/Test/ToyasCard.lean, 'card_holds'). Laid BY PROGRAM, IN A SANDBOX (cutbox-door.mjs). By AI agents, Wed Nov 11 2026. No macro, syntax, notation, axiom, sorry.
-/
import Derived.Test.YtlbppjmekiemiacGreatDoorRows
import GoSem.ClaimSeven
namespace Go.Proofs.YtlbppjmekiemiacGreatDoor
namespace Rows

/-- THE TIED CARD OF 'wainwrightlaw.UnitSays'. -/
def unitSaysCard : Claim7 := { stood := { row := unitSaysRow, standIns := [], harness := (true, "b214724d743cc21012fe7b8a7df275217b01135cb5a0e83f52164b45a5880e1d"), looks := false }, kinds := [], alts := [], laidByText := true, laidKinds := [.data, .data, .data], laidTests := true, laidLooks := .later }
def UnitSaysCardSaid : Prop := Claim7.holds Tryz.pinned (.plain (OpenSpec.ofChange unitSaysSpec)) unitSaysCard

/-- THE TIED CARD OF 'wainwrightlaw.GateHears'. -/
def gateHearsCard : Claim7 := { stood := { row := gateHearsRow, standIns := [], harness := (true, "b214724d743cc21012fe7b8a7df275217b01135cb5a0e83f52164b45a5880e1d"), looks := false }, kinds := [], alts := [], laidByText := true, laidKinds := [.data, .data, .data], laidTests := true, laidLooks := .later }
def GateHearsCardSaid : Prop := Claim7.holds Tryz.pinned (.plain (OpenSpec.ofChange gateHearsSpec)) gateHearsCard

/-- THE TIED CARD OF 'wainwrightlaw.GateSays'. -/
def gateSaysCard : Claim7 := { stood := { row := gateSaysRow, standIns := [], harness := (true, "b214724d743cc21012fe7b8a7df275217b01135cb5a0e83f52164b45a5880e1d"), looks := false }, kinds := [], alts := [], laidByText := true, laidKinds := [.data, .data, .data], laidTests := true, laidLooks := .later }
def GateSaysCardSaid : Prop := Claim7.holds Tryz.pinned (.plain (OpenSpec.ofChange gateSaysSpec)) gateSaysCard

/-- THE TIED CARD OF 'wainwrightlaw.VehicleTakes'. -/
def vehicleTakesCard : Claim7 := { stood := { row := vehicleTakesRow, standIns := [], harness := (true, "b214724d743cc21012fe7b8a7df275217b01135cb5a0e83f52164b45a5880e1d"), looks := false }, kinds := [], alts := [], laidByText := true, laidKinds := [.data, .data, .data], laidTests := true, laidLooks := .later }
def VehicleTakesCardSaid : Prop := Claim7.holds Tryz.pinned (.plain (OpenSpec.ofChange vehicleTakesSpec)) vehicleTakesCard

/-- THE TIED CARD OF 'wainwrightlaw.VehicleEnds'. -/
def vehicleEndsCard : Claim7 := { stood := { row := vehicleEndsRow, standIns := [], harness := (true, "b214724d743cc21012fe7b8a7df275217b01135cb5a0e83f52164b45a5880e1d"), looks := false }, kinds := [], alts := [], laidByText := true, laidKinds := [.data, .data, .data], laidTests := true, laidLooks := .later }
def VehicleEndsCardSaid : Prop := Claim7.holds Tryz.pinned (.plain (OpenSpec.ofChange vehicleEndsSpec)) vehicleEndsCard

/-- THE TIED CARD OF 'wainwrightlaw.VehicleGoes'. -/
def vehicleGoesCard : Claim7 := { stood := { row := vehicleGoesRow, standIns := [], harness := (true, "b214724d743cc21012fe7b8a7df275217b01135cb5a0e83f52164b45a5880e1d"), looks := false }, kinds := [], alts := [], laidByText := true, laidKinds := [.data, .data, .data], laidTests := true, laidLooks := .later }
def VehicleGoesCardSaid : Prop := Claim7.holds Tryz.pinned (.plain (OpenSpec.ofChange vehicleGoesSpec)) vehicleGoesCard

/-- THE TIED CARD OF 'wainwrightlaw.VehicleHolds'. -/
def vehicleHoldsCard : Claim7 := { stood := { row := vehicleHoldsRow, standIns := [], harness := (true, "b214724d743cc21012fe7b8a7df275217b01135cb5a0e83f52164b45a5880e1d"), looks := false }, kinds := [], alts := [], laidByText := true, laidKinds := [.data, .data, .data], laidTests := true, laidLooks := .later }
def VehicleHoldsCardSaid : Prop := Claim7.holds Tryz.pinned (.plain (OpenSpec.ofChange vehicleHoldsSpec)) vehicleHoldsCard

/-- THE SECOND FORM's CARD OF 'wainwrightlaw.UnitSays'. -/
def unitSaysUptoCard : Claim7 := { stood := { row := unitSaysUptoRow, standIns := [], harness := (true, "b214724d743cc21012fe7b8a7df275217b01135cb5a0e83f52164b45a5880e1d"), looks := false }, kinds := [], alts := [], laidByText := true, laidKinds := [.data, .data, .data], laidTests := true, laidLooks := .later }
def UnitSaysUptoCardSaid : Prop := Claim7.holds Tryz.pinned (.plain (OpenSpec.upto unitSaysSpec)) unitSaysUptoCard

/-- THE SECOND FORM's CARD OF 'wainwrightlaw.GateHears'. -/
def gateHearsUptoCard : Claim7 := { stood := { row := gateHearsUptoRow, standIns := [], harness := (true, "b214724d743cc21012fe7b8a7df275217b01135cb5a0e83f52164b45a5880e1d"), looks := false }, kinds := [], alts := [], laidByText := true, laidKinds := [.data, .data, .data], laidTests := true, laidLooks := .later }
def GateHearsUptoCardSaid : Prop := Claim7.holds Tryz.pinned (.plain (OpenSpec.upto gateHearsSpec)) gateHearsUptoCard

/-- THE SECOND FORM's CARD OF 'wainwrightlaw.GateSays'. -/
def gateSaysUptoCard : Claim7 := { stood := { row := gateSaysUptoRow, standIns := [], harness := (true, "b214724d743cc21012fe7b8a7df275217b01135cb5a0e83f52164b45a5880e1d"), looks := false }, kinds := [], alts := [], laidByText := true, laidKinds := [.data, .data, .data], laidTests := true, laidLooks := .later }
def GateSaysUptoCardSaid : Prop := Claim7.holds Tryz.pinned (.plain (OpenSpec.upto gateSaysSpec)) gateSaysUptoCard

/-- THE SECOND FORM's CARD OF 'wainwrightlaw.VehicleTakes'. -/
def vehicleTakesUptoCard : Claim7 := { stood := { row := vehicleTakesUptoRow, standIns := [], harness := (true, "b214724d743cc21012fe7b8a7df275217b01135cb5a0e83f52164b45a5880e1d"), looks := false }, kinds := [], alts := [], laidByText := true, laidKinds := [.data, .data, .data], laidTests := true, laidLooks := .later }
def VehicleTakesUptoCardSaid : Prop := Claim7.holds Tryz.pinned (.plain (OpenSpec.upto vehicleTakesSpec)) vehicleTakesUptoCard

/-- THE SECOND FORM's CARD OF 'wainwrightlaw.VehicleEnds'. -/
def vehicleEndsUptoCard : Claim7 := { stood := { row := vehicleEndsUptoRow, standIns := [], harness := (true, "b214724d743cc21012fe7b8a7df275217b01135cb5a0e83f52164b45a5880e1d"), looks := false }, kinds := [], alts := [], laidByText := true, laidKinds := [.data, .data, .data], laidTests := true, laidLooks := .later }
def VehicleEndsUptoCardSaid : Prop := Claim7.holds Tryz.pinned (.plain (OpenSpec.upto vehicleEndsSpec)) vehicleEndsUptoCard

/-- THE SECOND FORM's CARD OF 'wainwrightlaw.VehicleGoes'. -/
def vehicleGoesUptoCard : Claim7 := { stood := { row := vehicleGoesUptoRow, standIns := [], harness := (true, "b214724d743cc21012fe7b8a7df275217b01135cb5a0e83f52164b45a5880e1d"), looks := false }, kinds := [], alts := [], laidByText := true, laidKinds := [.data, .data, .data], laidTests := true, laidLooks := .later }
def VehicleGoesUptoCardSaid : Prop := Claim7.holds Tryz.pinned (.plain (OpenSpec.upto vehicleGoesSpec)) vehicleGoesUptoCard

/-- THE SECOND FORM's CARD OF 'wainwrightlaw.VehicleHolds'. -/
def vehicleHoldsUptoCard : Claim7 := { stood := { row := vehicleHoldsUptoRow, standIns := [], harness := (true, "b214724d743cc21012fe7b8a7df275217b01135cb5a0e83f52164b45a5880e1d"), looks := false }, kinds := [], alts := [], laidByText := true, laidKinds := [.data, .data, .data], laidTests := true, laidLooks := .later }
def VehicleHoldsUptoCardSaid : Prop := Claim7.holds Tryz.pinned (.plain (OpenSpec.upto vehicleHoldsSpec)) vehicleHoldsUptoCard
end Rows
end Go.Proofs.YtlbppjmekiemiacGreatDoor
