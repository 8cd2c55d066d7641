/-
  DERIVED. GIVEN WITH THE SEED: THE CARDS: each row of YtlbppjmekiemiadGreatDoorRows.lean that lists a variable, with what it lists TIED to the program's text (the seventh form; the later family's looks); each row that meets fmt, with fmt's text TOLD by the authors' own Lean function (tested against real Go, not proved from fmt's source: count such statements apart). THE CARD IS WHAT COUNTS. Prove the row's statement (the work); the ties are given (YtlbppjmekiemiadGreatDoorTie.lean); close each card by the builder's one call (the guide's Derived/Test/ToyasCard.lean, 'card_holds'). Laid BY PROGRAM, IN A SANDBOX (cutbox-door.mjs). By AI agents, Wed Nov 11 2026. No macro, syntax, notation, axiom, sorry.
-/
import Derived.Test.YtlbppjmekiemiadGreatDoorRows
import GoSem.ClaimSeven
namespace Go.Proofs.YtlbppjmekiemiadGreatDoor
namespace Rows

/-- THE TIED CARD OF 'wainwrightlaw.VehicleNet'. -/
def vehicleNetCard : Claim7 := { stood := { row := vehicleNetRow, standIns := [], harness := (true, "245010f9257027e2cc5411c94596a03f117d313dd6eec2ace139497cb1d00dfd"), looks := false }, kinds := [], alts := [], laidByText := true, laidKinds := [.data, .data, .data], laidTests := true, laidLooks := .later }
def VehicleNetCardSaid : Prop := Claim7.holds Tryz.pinned (.plain (OpenSpec.ofChange vehicleNetSpec)) vehicleNetCard

/-- THE SECOND FORM's CARD OF 'wainwrightlaw.VehicleNet'. -/
def vehicleNetUptoCard : Claim7 := { stood := { row := vehicleNetUptoRow, standIns := [], harness := (true, "245010f9257027e2cc5411c94596a03f117d313dd6eec2ace139497cb1d00dfd"), looks := false }, kinds := [], alts := [], laidByText := true, laidKinds := [.data, .data, .data], laidTests := true, laidLooks := .later }
def VehicleNetUptoCardSaid : Prop := Claim7.holds Tryz.pinned (.plain (OpenSpec.upto vehicleNetSpec)) vehicleNetUptoCard
end Rows
end Go.Proofs.YtlbppjmekiemiadGreatDoor
