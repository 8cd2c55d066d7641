/-
  DERIVED. GIVEN WITH THE SEED: THE CARDS: each row of YtlbppjmekiemiaaGreatDoorRows.lean that lists a variable, with what it lists TIED to the program's text (the seventh form; the later family's looks); each row that meets fmt, with fmt's text TOLD by the authors' own Lean function (tested against real Go, not proved from fmt's source: count such statements apart). THE CARD IS WHAT COUNTS. Prove the row's statement (the work); the ties are given (YtlbppjmekiemiaaGreatDoorTie.lean); close each card by the builder's one call (the guide's Derived/Test/ToyasCard.lean, 'card_holds'). Laid BY PROGRAM, IN A SANDBOX (cutbox-door.mjs). By AI agents, Wed Nov 11 2026. No macro, syntax, notation, axiom, sorry.
-/
import Derived.Test.YtlbppjmekiemiaaGreatDoorRows
import GoSem.ClaimSeven
namespace Go.Proofs.YtlbppjmekiemiaaGreatDoor
namespace Rows

/-- THE TIED CARD OF 'wainwrightlaw.VehicleRuns'. -/
def vehicleRunsCard : Claim7 := { stood := { row := vehicleRunsRow, standIns := [], harness := (true, "51bafd2d642da03011c726838587ddf08921964f1da6e6d1f321497fe0b1da66"), looks := false }, kinds := [], alts := [], laidByText := true, laidKinds := [.data, .data, .data], laidTests := true, laidLooks := .later }
def VehicleRunsCardSaid : Prop := Claim7.holds Tryz.pinned (.plain (OpenSpec.ofChange vehicleRunsSpec)) vehicleRunsCard

/-- THE SECOND FORM's CARD OF 'wainwrightlaw.VehicleRuns'. -/
def vehicleRunsUptoCard : Claim7 := { stood := { row := vehicleRunsUptoRow, standIns := [], harness := (true, "51bafd2d642da03011c726838587ddf08921964f1da6e6d1f321497fe0b1da66"), looks := false }, kinds := [], alts := [], laidByText := true, laidKinds := [.data, .data, .data], laidTests := true, laidLooks := .later }
def VehicleRunsUptoCardSaid : Prop := Claim7.holds Tryz.pinned (.plain (OpenSpec.upto vehicleRunsSpec)) vehicleRunsUptoCard
end Rows
end Go.Proofs.YtlbppjmekiemiaaGreatDoor
