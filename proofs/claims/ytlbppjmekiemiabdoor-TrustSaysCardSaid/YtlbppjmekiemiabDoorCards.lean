/-
  DERIVED. GIVEN WITH THE SEED: THE CARDS: each row of YtlbppjmekiemiabDoorRows.lean that lists a variable, with what it lists TIED to the program's text (the seventh form; the later family's looks); each row that meets fmt, with fmt's text TOLD by the authors' own Lean function (tested against real Go, not proved from fmt's source: count such statements apart). THE CARD IS WHAT COUNTS. Prove the row's statement (the work); the ties are given (YtlbppjmekiemiabDoorTie.lean); close each card by the builder's one call (the guide's Derived/Test/ToyasCard.lean, 'card_holds'). Laid BY PROGRAM, IN A SANDBOX (cutbox-door.mjs). By AI agents, Wed Nov 11 2026. No macro, syntax, notation, axiom, sorry.
-/
import Derived.Test.YtlbppjmekiemiabDoorRows
import GoSem.ClaimSeven
namespace Go.Proofs.YtlbppjmekiemiabDoor
namespace Rows

/-- THE TIED CARD OF 'wainwrightlaw.MetaApart'. -/
def metaApartCard : Claim7 := { stood := { row := metaApartRow, standIns := [], harness := (true, "e1fd43673c3a9212ad12f0619f93528ef2f6c6e71029b67e9d2f92b086de2074"), looks := false }, kinds := [], alts := [], laidByText := true, laidKinds := [.data, .data, .data], laidTests := true, laidLooks := .later }
def MetaApartCardSaid : Prop := Claim7.holds Tryd.pinned (.plain (OpenSpec.ofChange metaApartSpec)) metaApartCard

/-- THE TIED CARD OF 'wainwrightlaw.MetaNames'. -/
def metaNamesCard : Claim7 := { stood := { row := metaNamesRow, standIns := [], harness := (true, "e1fd43673c3a9212ad12f0619f93528ef2f6c6e71029b67e9d2f92b086de2074"), looks := false }, kinds := [], alts := [], laidByText := true, laidKinds := [.data, .data, .data], laidTests := true, laidLooks := .later }
def MetaNamesCardSaid : Prop := Claim7.holds Tryd.pinned (.plain (OpenSpec.ofChange metaNamesSpec)) metaNamesCard

/-- THE TIED CARD OF 'wainwrightlaw.TrustRises'. -/
def trustRisesCard : Claim7 := { stood := { row := trustRisesRow, standIns := [], harness := (true, "e1fd43673c3a9212ad12f0619f93528ef2f6c6e71029b67e9d2f92b086de2074"), looks := false }, kinds := [], alts := [], laidByText := true, laidKinds := [.data, .data, .data], laidTests := true, laidLooks := .later }
def TrustRisesCardSaid : Prop := Claim7.holds Tryd.pinned (.plain (OpenSpec.ofChange trustRisesSpec)) trustRisesCard

/-- THE TIED CARD OF 'wainwrightlaw.TrustSays'. -/
def trustSaysCard : Claim7 := { stood := { row := trustSaysRow, standIns := [], harness := (true, "e1fd43673c3a9212ad12f0619f93528ef2f6c6e71029b67e9d2f92b086de2074"), looks := false }, kinds := [], alts := [], laidByText := true, laidKinds := [.data, .data, .data], laidTests := true, laidLooks := .later }
def TrustSaysCardSaid : Prop := Claim7.holds Tryd.pinned (.plain (OpenSpec.ofChange trustSaysSpec)) trustSaysCard

/-- THE TIED CARD OF 'wainwrightlaw.TrustCounts'. -/
def trustCountsCard : Claim7 := { stood := { row := trustCountsRow, standIns := [], harness := (true, "e1fd43673c3a9212ad12f0619f93528ef2f6c6e71029b67e9d2f92b086de2074"), looks := false }, kinds := [], alts := [], laidByText := true, laidKinds := [.data, .data, .data], laidTests := true, laidLooks := .later }
def TrustCountsCardSaid : Prop := Claim7.holds Tryd.pinned (.plain (OpenSpec.ofChange trustCountsSpec)) trustCountsCard

/-- THE TIED CARD OF 'wainwrightlaw.UnitDown'. -/
def unitDownCard : Claim7 := { stood := { row := unitDownRow, standIns := [], harness := (true, "e1fd43673c3a9212ad12f0619f93528ef2f6c6e71029b67e9d2f92b086de2074"), looks := false }, kinds := [], alts := [], laidByText := true, laidKinds := [.data, .data, .data], laidTests := true, laidLooks := .later }
def UnitDownCardSaid : Prop := Claim7.holds Tryd.pinned (.plain (OpenSpec.ofChange unitDownSpec)) unitDownCard

/-- THE TIED CARD OF 'wainwrightlaw.UnitHolds'. -/
def unitHoldsCard : Claim7 := { stood := { row := unitHoldsRow, standIns := [], harness := (true, "e1fd43673c3a9212ad12f0619f93528ef2f6c6e71029b67e9d2f92b086de2074"), looks := false }, kinds := [], alts := [], laidByText := true, laidKinds := [.data, .data, .data], laidTests := true, laidLooks := .later }
def UnitHoldsCardSaid : Prop := Claim7.holds Tryd.pinned (.plain (OpenSpec.ofChange unitHoldsSpec)) unitHoldsCard

/-- THE TIED CARD OF 'wainwrightlaw.UnitPieces'. -/
def unitPiecesCard : Claim7 := { stood := { row := unitPiecesRow, standIns := [], harness := (true, "e1fd43673c3a9212ad12f0619f93528ef2f6c6e71029b67e9d2f92b086de2074"), looks := false }, kinds := [], alts := [], laidByText := true, laidKinds := [.data, .data, .data], laidTests := true, laidLooks := .later }
def UnitPiecesCardSaid : Prop := Claim7.holds Tryd.pinned (.plain (OpenSpec.ofChange unitPiecesSpec)) unitPiecesCard

/-- THE TIED CARD OF 'wainwrightlaw.UnitReady'. -/
def unitReadyCard : Claim7 := { stood := { row := unitReadyRow, standIns := [], harness := (true, "e1fd43673c3a9212ad12f0619f93528ef2f6c6e71029b67e9d2f92b086de2074"), looks := false }, kinds := [], alts := [], laidByText := true, laidKinds := [.data, .data, .data], laidTests := true, laidLooks := .later }
def UnitReadyCardSaid : Prop := Claim7.holds Tryd.pinned (.plain (OpenSpec.ofChange unitReadySpec)) unitReadyCard

/-- THE TIED CARD OF 'wainwrightlaw.UnitTwice'. -/
def unitTwiceCard : Claim7 := { stood := { row := unitTwiceRow, standIns := [], harness := (true, "e1fd43673c3a9212ad12f0619f93528ef2f6c6e71029b67e9d2f92b086de2074"), looks := false }, kinds := [], alts := [], laidByText := true, laidKinds := [.data, .data, .data], laidTests := true, laidLooks := .later }
def UnitTwiceCardSaid : Prop := Claim7.holds Tryd.pinned (.plain (OpenSpec.ofChange unitTwiceSpec)) unitTwiceCard

/-- THE SECOND FORM's CARD OF 'wainwrightlaw.MetaApart'. -/
def metaApartUptoCard : Claim7 := { stood := { row := metaApartUptoRow, standIns := [], harness := (true, "e1fd43673c3a9212ad12f0619f93528ef2f6c6e71029b67e9d2f92b086de2074"), looks := false }, kinds := [], alts := [], laidByText := true, laidKinds := [.data, .data, .data], laidTests := true, laidLooks := .later }
def MetaApartUptoCardSaid : Prop := Claim7.holds Tryd.pinned (.plain (OpenSpec.upto metaApartSpec)) metaApartUptoCard

/-- THE SECOND FORM's CARD OF 'wainwrightlaw.MetaNames'. -/
def metaNamesUptoCard : Claim7 := { stood := { row := metaNamesUptoRow, standIns := [], harness := (true, "e1fd43673c3a9212ad12f0619f93528ef2f6c6e71029b67e9d2f92b086de2074"), looks := false }, kinds := [], alts := [], laidByText := true, laidKinds := [.data, .data, .data], laidTests := true, laidLooks := .later }
def MetaNamesUptoCardSaid : Prop := Claim7.holds Tryd.pinned (.plain (OpenSpec.upto metaNamesSpec)) metaNamesUptoCard

/-- THE SECOND FORM's CARD OF 'wainwrightlaw.TrustRises'. -/
def trustRisesUptoCard : Claim7 := { stood := { row := trustRisesUptoRow, standIns := [], harness := (true, "e1fd43673c3a9212ad12f0619f93528ef2f6c6e71029b67e9d2f92b086de2074"), looks := false }, kinds := [], alts := [], laidByText := true, laidKinds := [.data, .data, .data], laidTests := true, laidLooks := .later }
def TrustRisesUptoCardSaid : Prop := Claim7.holds Tryd.pinned (.plain (OpenSpec.upto trustRisesSpec)) trustRisesUptoCard

/-- THE SECOND FORM's CARD OF 'wainwrightlaw.TrustSays'. -/
def trustSaysUptoCard : Claim7 := { stood := { row := trustSaysUptoRow, standIns := [], harness := (true, "e1fd43673c3a9212ad12f0619f93528ef2f6c6e71029b67e9d2f92b086de2074"), looks := false }, kinds := [], alts := [], laidByText := true, laidKinds := [.data, .data, .data], laidTests := true, laidLooks := .later }
def TrustSaysUptoCardSaid : Prop := Claim7.holds Tryd.pinned (.plain (OpenSpec.upto trustSaysSpec)) trustSaysUptoCard

/-- THE SECOND FORM's CARD OF 'wainwrightlaw.TrustCounts'. -/
def trustCountsUptoCard : Claim7 := { stood := { row := trustCountsUptoRow, standIns := [], harness := (true, "e1fd43673c3a9212ad12f0619f93528ef2f6c6e71029b67e9d2f92b086de2074"), looks := false }, kinds := [], alts := [], laidByText := true, laidKinds := [.data, .data, .data], laidTests := true, laidLooks := .later }
def TrustCountsUptoCardSaid : Prop := Claim7.holds Tryd.pinned (.plain (OpenSpec.upto trustCountsSpec)) trustCountsUptoCard

/-- THE SECOND FORM's CARD OF 'wainwrightlaw.UnitDown'. -/
def unitDownUptoCard : Claim7 := { stood := { row := unitDownUptoRow, standIns := [], harness := (true, "e1fd43673c3a9212ad12f0619f93528ef2f6c6e71029b67e9d2f92b086de2074"), looks := false }, kinds := [], alts := [], laidByText := true, laidKinds := [.data, .data, .data], laidTests := true, laidLooks := .later }
def UnitDownUptoCardSaid : Prop := Claim7.holds Tryd.pinned (.plain (OpenSpec.upto unitDownSpec)) unitDownUptoCard

/-- THE SECOND FORM's CARD OF 'wainwrightlaw.UnitHolds'. -/
def unitHoldsUptoCard : Claim7 := { stood := { row := unitHoldsUptoRow, standIns := [], harness := (true, "e1fd43673c3a9212ad12f0619f93528ef2f6c6e71029b67e9d2f92b086de2074"), looks := false }, kinds := [], alts := [], laidByText := true, laidKinds := [.data, .data, .data], laidTests := true, laidLooks := .later }
def UnitHoldsUptoCardSaid : Prop := Claim7.holds Tryd.pinned (.plain (OpenSpec.upto unitHoldsSpec)) unitHoldsUptoCard

/-- THE SECOND FORM's CARD OF 'wainwrightlaw.UnitPieces'. -/
def unitPiecesUptoCard : Claim7 := { stood := { row := unitPiecesUptoRow, standIns := [], harness := (true, "e1fd43673c3a9212ad12f0619f93528ef2f6c6e71029b67e9d2f92b086de2074"), looks := false }, kinds := [], alts := [], laidByText := true, laidKinds := [.data, .data, .data], laidTests := true, laidLooks := .later }
def UnitPiecesUptoCardSaid : Prop := Claim7.holds Tryd.pinned (.plain (OpenSpec.upto unitPiecesSpec)) unitPiecesUptoCard

/-- THE SECOND FORM's CARD OF 'wainwrightlaw.UnitReady'. -/
def unitReadyUptoCard : Claim7 := { stood := { row := unitReadyUptoRow, standIns := [], harness := (true, "e1fd43673c3a9212ad12f0619f93528ef2f6c6e71029b67e9d2f92b086de2074"), looks := false }, kinds := [], alts := [], laidByText := true, laidKinds := [.data, .data, .data], laidTests := true, laidLooks := .later }
def UnitReadyUptoCardSaid : Prop := Claim7.holds Tryd.pinned (.plain (OpenSpec.upto unitReadySpec)) unitReadyUptoCard

/-- THE SECOND FORM's CARD OF 'wainwrightlaw.UnitTwice'. -/
def unitTwiceUptoCard : Claim7 := { stood := { row := unitTwiceUptoRow, standIns := [], harness := (true, "e1fd43673c3a9212ad12f0619f93528ef2f6c6e71029b67e9d2f92b086de2074"), looks := false }, kinds := [], alts := [], laidByText := true, laidKinds := [.data, .data, .data], laidTests := true, laidLooks := .later }
def UnitTwiceUptoCardSaid : Prop := Claim7.holds Tryd.pinned (.plain (OpenSpec.upto unitTwiceSpec)) unitTwiceUptoCard
end Rows
end Go.Proofs.YtlbppjmekiemiabDoor
