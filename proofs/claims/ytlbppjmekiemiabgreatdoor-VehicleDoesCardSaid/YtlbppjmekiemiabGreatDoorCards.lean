/-
  DERIVED. GIVEN WITH THE SEED: THE CARDS: each row of YtlbppjmekiemiabGreatDoorRows.lean that lists a variable, with what it lists TIED to the program's text (the seventh form; the later family's looks); each row that meets fmt, with fmt's text TOLD by the authors' own Lean function (tested against real Go, not proved from fmt's source: count such statements apart). THE CARD IS WHAT COUNTS. Prove the row's statement (the work); the ties are given (YtlbppjmekiemiabGreatDoorTie.lean); close each card by the builder's one call (the guide's Derived/Test/ToyasCard.lean, 'card_holds'). Laid BY PROGRAM, IN A SANDBOX (cutbox-door.mjs). By AI agents, Wed Nov 11 2026. No macro, syntax, notation, axiom, sorry.
-/
import Derived.Test.YtlbppjmekiemiabGreatDoorRows
import GoSem.ClaimSeven
namespace Go.Proofs.YtlbppjmekiemiabGreatDoor
namespace Rows

/-- THE TIED CARD OF 'wainwrightlaw.VehicleDoes'. -/
def vehicleDoesCard : Claim7 := { stood := { row := vehicleDoesRow, standIns := [], harness := (true, "cdd3be983cc1f3932b2dd6b0a8d14f64edf35b8cec21a78b061a3bfc8f2e9fbb"), looks := false }, kinds := [], alts := [], laidByText := true, laidKinds := [.data, .data, .data], laidTests := true, laidLooks := .later }
def VehicleDoesCardSaid : Prop := Claim7.holds Tryz.pinned (.plain (OpenSpec.ofChange vehicleDoesSpec)) vehicleDoesCard

/-- THE SECOND FORM's CARD OF 'wainwrightlaw.VehicleDoes'. -/
def vehicleDoesUptoCard : Claim7 := { stood := { row := vehicleDoesUptoRow, standIns := [], harness := (true, "cdd3be983cc1f3932b2dd6b0a8d14f64edf35b8cec21a78b061a3bfc8f2e9fbb"), looks := false }, kinds := [], alts := [], laidByText := true, laidKinds := [.data, .data, .data], laidTests := true, laidLooks := .later }
def VehicleDoesUptoCardSaid : Prop := Claim7.holds Tryz.pinned (.plain (OpenSpec.upto vehicleDoesSpec)) vehicleDoesUptoCard
end Rows
end Go.Proofs.YtlbppjmekiemiabGreatDoor
