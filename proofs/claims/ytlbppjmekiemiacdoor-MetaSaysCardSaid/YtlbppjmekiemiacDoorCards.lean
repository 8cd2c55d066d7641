/-
  DERIVED. GIVEN WITH THE SEED: THE CARDS: each row of YtlbppjmekiemiacDoorRows.lean that lists a variable, with what it lists TIED to the program's text (the seventh form; the later family's looks); each row that meets fmt, with fmt's text TOLD by the authors' own Lean function (tested against real Go, not proved from fmt's source: count such statements apart). THE CARD IS WHAT COUNTS. Prove the row's statement (the work); the ties are given (YtlbppjmekiemiacDoorTie.lean); close each card by the builder's one call (the guide's Derived/Test/ToyasCard.lean, 'card_holds'). Laid BY PROGRAM, IN A SANDBOX (cutbox-door.mjs). By AI agents, Wed Nov 11 2026. No macro, syntax, notation, axiom, sorry.
-/
import Derived.Test.YtlbppjmekiemiacDoorRows
import GoSem.ClaimSeven
namespace Go.Proofs.YtlbppjmekiemiacDoor
namespace Rows

/-- THE TIED CARD OF 'wainwrightlaw.MetaBack'. -/
def metaBackCard : Claim7 := { stood := { row := metaBackRow, standIns := [], harness := (true, "3b756515ec838048608a111c51edebaa4ff445733304c3b25cb95e92503f9c60"), looks := true }, kinds := [], alts := [], laidByText := true, laidKinds := [.data, .data, .data, .data, .sentinel, .sentinel, .pinned], laidTests := true, laidLooks := .later }
def MetaBackCardSaid : Prop := Claim7.holds Tryd.pinned (.plain (OpenSpec.ofChange metaBackSpec)) metaBackCard

/-- THE TIED CARD OF 'wainwrightlaw.GatePieces'. -/
def gatePiecesCard : Claim7 := { stood := { row := gatePiecesRow, standIns := [], harness := (true, "3b756515ec838048608a111c51edebaa4ff445733304c3b25cb95e92503f9c60"), looks := true }, kinds := [], alts := [], laidByText := true, laidKinds := [.data, .data, .data], laidTests := true, laidLooks := .later }
def GatePiecesCardSaid : Prop := Claim7.holds Tryd.pinned (.plain (OpenSpec.ofChange gatePiecesSpec)) gatePiecesCard

/-- THE TIED CARD OF 'wainwrightlaw.GateOnce'. -/
def gateOnceCard : Claim7 := { stood := { row := gateOnceRow, standIns := [], harness := (true, "3b756515ec838048608a111c51edebaa4ff445733304c3b25cb95e92503f9c60"), looks := true }, kinds := [], alts := [], laidByText := true, laidKinds := [.data, .data, .data], laidTests := true, laidLooks := .later }
def GateOnceCardSaid : Prop := Claim7.holds Tryd.pinned (.plain (OpenSpec.ofChange gateOnceSpec)) gateOnceCard

/-- THE TIED CARD OF 'wainwrightlaw.GateTwice'. -/
def gateTwiceCard : Claim7 := { stood := { row := gateTwiceRow, standIns := [], harness := (true, "3b756515ec838048608a111c51edebaa4ff445733304c3b25cb95e92503f9c60"), looks := true }, kinds := [], alts := [], laidByText := true, laidKinds := [.data, .data, .data], laidTests := true, laidLooks := .later }
def GateTwiceCardSaid : Prop := Claim7.holds Tryd.pinned (.plain (OpenSpec.ofChange gateTwiceSpec)) gateTwiceCard

/-- THE TIED CARD OF 'wainwrightlaw.MetaSays'. -/
def metaSaysCard : Claim7 := { stood := { row := metaSaysRow, standIns := [], harness := (true, "3b756515ec838048608a111c51edebaa4ff445733304c3b25cb95e92503f9c60"), looks := true }, kinds := [], alts := [], laidByText := true, laidKinds := [.data, .data, .data, .data, .sentinel, .sentinel, .pinned], laidTests := true, laidLooks := .later }
def MetaSaysCardSaid : Prop := Claim7.holds Tryd.pinned (.plain (OpenSpec.ofChange metaSaysSpec)) metaSaysCard

/-- THE SECOND FORM's CARD OF 'wainwrightlaw.MetaBack'. -/
def metaBackUptoCard : Claim7 := { stood := { row := metaBackUptoRow, standIns := [], harness := (true, "3b756515ec838048608a111c51edebaa4ff445733304c3b25cb95e92503f9c60"), looks := true }, kinds := [], alts := [], laidByText := true, laidKinds := [.data, .data, .data, .data, .sentinel, .sentinel, .pinned], laidTests := true, laidLooks := .later }
def MetaBackUptoCardSaid : Prop := Claim7.holds Tryd.pinned (.plain (OpenSpec.upto metaBackSpec)) metaBackUptoCard

/-- THE SECOND FORM's CARD OF 'wainwrightlaw.GatePieces'. -/
def gatePiecesUptoCard : Claim7 := { stood := { row := gatePiecesUptoRow, standIns := [], harness := (true, "3b756515ec838048608a111c51edebaa4ff445733304c3b25cb95e92503f9c60"), looks := true }, kinds := [], alts := [], laidByText := true, laidKinds := [.data, .data, .data], laidTests := true, laidLooks := .later }
def GatePiecesUptoCardSaid : Prop := Claim7.holds Tryd.pinned (.plain (OpenSpec.upto gatePiecesSpec)) gatePiecesUptoCard

/-- THE SECOND FORM's CARD OF 'wainwrightlaw.GateOnce'. -/
def gateOnceUptoCard : Claim7 := { stood := { row := gateOnceUptoRow, standIns := [], harness := (true, "3b756515ec838048608a111c51edebaa4ff445733304c3b25cb95e92503f9c60"), looks := true }, kinds := [], alts := [], laidByText := true, laidKinds := [.data, .data, .data], laidTests := true, laidLooks := .later }
def GateOnceUptoCardSaid : Prop := Claim7.holds Tryd.pinned (.plain (OpenSpec.upto gateOnceSpec)) gateOnceUptoCard

/-- THE SECOND FORM's CARD OF 'wainwrightlaw.GateTwice'. -/
def gateTwiceUptoCard : Claim7 := { stood := { row := gateTwiceUptoRow, standIns := [], harness := (true, "3b756515ec838048608a111c51edebaa4ff445733304c3b25cb95e92503f9c60"), looks := true }, kinds := [], alts := [], laidByText := true, laidKinds := [.data, .data, .data], laidTests := true, laidLooks := .later }
def GateTwiceUptoCardSaid : Prop := Claim7.holds Tryd.pinned (.plain (OpenSpec.upto gateTwiceSpec)) gateTwiceUptoCard

/-- THE SECOND FORM's CARD OF 'wainwrightlaw.MetaSays'. -/
def metaSaysUptoCard : Claim7 := { stood := { row := metaSaysUptoRow, standIns := [], harness := (true, "3b756515ec838048608a111c51edebaa4ff445733304c3b25cb95e92503f9c60"), looks := true }, kinds := [], alts := [], laidByText := true, laidKinds := [.data, .data, .data, .data, .sentinel, .sentinel, .pinned], laidTests := true, laidLooks := .later }
def MetaSaysUptoCardSaid : Prop := Claim7.holds Tryd.pinned (.plain (OpenSpec.upto metaSaysSpec)) metaSaysUptoCard
end Rows
end Go.Proofs.YtlbppjmekiemiacDoor
