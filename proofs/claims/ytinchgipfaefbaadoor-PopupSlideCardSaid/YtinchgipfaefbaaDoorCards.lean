/-
  DERIVED. GIVEN WITH THE SEED: THE CARDS: each row of YtinchgipfaefbaaDoorRows.lean that lists a variable, with what it lists TIED to the program's text (the seventh form; the later family's looks); each row that meets fmt, with fmt's text TOLD by the authors' own Lean function (tested against real Go, not proved from fmt's source: count such statements apart). THE CARD IS WHAT COUNTS. Prove the row's statement (the work); the ties are given (YtinchgipfaefbaaDoorTie.lean); close each card by the builder's one call (the guide's Derived/Test/ToyasCard.lean, 'card_holds'). Laid BY PROGRAM, IN A SANDBOX (cutbox-door.mjs). By AI agents, Wed Nov 11 2026. No macro, syntax, notation, axiom, sorry.
-/
import Derived.Test.YtinchgipfaefbaaDoorRows
import GoSem.ClaimSeven
namespace Go.Proofs.YtinchgipfaefbaaDoor
namespace Rows

/-- THE TIED CARD OF 'compositorlaw21.PopupCheck'. -/
def popupCheckCard : Claim7 := { stood := { row := popupCheckRow, standIns := [], harness := (true, "d37b681e1feabb992b8e2c6d99676b8eb6aa3a6e4a8a8f1404757cf01e18f3ad"), looks := false }, kinds := [], alts := [], laidByText := true, laidKinds := [.data, .data, .data, .data], laidTests := true, laidLooks := .later }
def PopupCheckCardSaid : Prop := Claim7.holds Tryd.pinned (.plain (OpenSpec.ofChange popupCheckSpec)) popupCheckCard

/-- THE TIED CARD OF 'compositorlaw21.PopupFlip'. -/
def popupFlipCard : Claim7 := { stood := { row := popupFlipRow, standIns := [], harness := (true, "d37b681e1feabb992b8e2c6d99676b8eb6aa3a6e4a8a8f1404757cf01e18f3ad"), looks := false }, kinds := [], alts := [], laidByText := true, laidKinds := [.data, .data, .data, .data], laidTests := true, laidLooks := .later }
def PopupFlipCardSaid : Prop := Claim7.holds Tryd.pinned (.plain (OpenSpec.ofChange popupFlipSpec)) popupFlipCard

/-- THE TIED CARD OF 'compositorlaw21.PopupPlace'. -/
def popupPlaceCard : Claim7 := { stood := { row := popupPlaceRow, standIns := [], harness := (true, "d37b681e1feabb992b8e2c6d99676b8eb6aa3a6e4a8a8f1404757cf01e18f3ad"), looks := false }, kinds := [], alts := [], laidByText := true, laidKinds := [.data, .data, .data, .data], laidTests := true, laidLooks := .later }
def PopupPlaceCardSaid : Prop := Claim7.holds Tryd.pinned (.plain (OpenSpec.ofChange popupPlaceSpec)) popupPlaceCard

/-- THE TIED CARD OF 'compositorlaw21.PopupConstrain'. -/
def popupConstrainCard : Claim7 := { stood := { row := popupConstrainRow, standIns := [], harness := (true, "d37b681e1feabb992b8e2c6d99676b8eb6aa3a6e4a8a8f1404757cf01e18f3ad"), looks := false }, kinds := [], alts := [], laidByText := true, laidKinds := [.data, .data, .data, .data], laidTests := true, laidLooks := .later }
def PopupConstrainCardSaid : Prop := Claim7.holds Tryd.pinned (.plain (OpenSpec.ofChange popupConstrainSpec)) popupConstrainCard

/-- THE TIED CARD OF 'compositorlaw21.PopupFits'. -/
def popupFitsCard : Claim7 := { stood := { row := popupFitsRow, standIns := [], harness := (true, "d37b681e1feabb992b8e2c6d99676b8eb6aa3a6e4a8a8f1404757cf01e18f3ad"), looks := false }, kinds := [], alts := [], laidByText := true, laidKinds := [.data, .data, .data, .data], laidTests := true, laidLooks := .later }
def PopupFitsCardSaid : Prop := Claim7.holds Tryd.pinned (.plain (OpenSpec.ofChange popupFitsSpec)) popupFitsCard

/-- THE TIED CARD OF 'compositorlaw21.PopupUnchanged'. -/
def popupUnchangedCard : Claim7 := { stood := { row := popupUnchangedRow, standIns := [], harness := (true, "d37b681e1feabb992b8e2c6d99676b8eb6aa3a6e4a8a8f1404757cf01e18f3ad"), looks := false }, kinds := [], alts := [], laidByText := true, laidKinds := [.data, .data, .data, .data], laidTests := true, laidLooks := .later }
def PopupUnchangedCardSaid : Prop := Claim7.holds Tryd.pinned (.plain (OpenSpec.ofChange popupUnchangedSpec)) popupUnchangedCard

/-- THE TIED CARD OF 'compositorlaw21.PopupSize'. -/
def popupSizeCard : Claim7 := { stood := { row := popupSizeRow, standIns := [], harness := (true, "d37b681e1feabb992b8e2c6d99676b8eb6aa3a6e4a8a8f1404757cf01e18f3ad"), looks := false }, kinds := [], alts := [], laidByText := true, laidKinds := [.data, .data, .data, .data], laidTests := true, laidLooks := .later }
def PopupSizeCardSaid : Prop := Claim7.holds Tryd.pinned (.plain (OpenSpec.ofChange popupSizeSpec)) popupSizeCard

/-- THE TIED CARD OF 'compositorlaw21.PopupSlide'. -/
def popupSlideCard : Claim7 := { stood := { row := popupSlideRow, standIns := [], harness := (true, "d37b681e1feabb992b8e2c6d99676b8eb6aa3a6e4a8a8f1404757cf01e18f3ad"), looks := false }, kinds := [], alts := [], laidByText := true, laidKinds := [.data, .data, .data, .data], laidTests := true, laidLooks := .later }
def PopupSlideCardSaid : Prop := Claim7.holds Tryd.pinned (.plain (OpenSpec.ofChange popupSlideSpec)) popupSlideCard

/-- THE SECOND FORM's CARD OF 'compositorlaw21.PopupCheck'. -/
def popupCheckUptoCard : Claim7 := { stood := { row := popupCheckUptoRow, standIns := [], harness := (true, "d37b681e1feabb992b8e2c6d99676b8eb6aa3a6e4a8a8f1404757cf01e18f3ad"), looks := false }, kinds := [], alts := [], laidByText := true, laidKinds := [.data, .data, .data, .data], laidTests := true, laidLooks := .later }
def PopupCheckUptoCardSaid : Prop := Claim7.holds Tryd.pinned (.plain (OpenSpec.upto popupCheckSpec)) popupCheckUptoCard

/-- THE SECOND FORM's CARD OF 'compositorlaw21.PopupFlip'. -/
def popupFlipUptoCard : Claim7 := { stood := { row := popupFlipUptoRow, standIns := [], harness := (true, "d37b681e1feabb992b8e2c6d99676b8eb6aa3a6e4a8a8f1404757cf01e18f3ad"), looks := false }, kinds := [], alts := [], laidByText := true, laidKinds := [.data, .data, .data, .data], laidTests := true, laidLooks := .later }
def PopupFlipUptoCardSaid : Prop := Claim7.holds Tryd.pinned (.plain (OpenSpec.upto popupFlipSpec)) popupFlipUptoCard

/-- THE SECOND FORM's CARD OF 'compositorlaw21.PopupPlace'. -/
def popupPlaceUptoCard : Claim7 := { stood := { row := popupPlaceUptoRow, standIns := [], harness := (true, "d37b681e1feabb992b8e2c6d99676b8eb6aa3a6e4a8a8f1404757cf01e18f3ad"), looks := false }, kinds := [], alts := [], laidByText := true, laidKinds := [.data, .data, .data, .data], laidTests := true, laidLooks := .later }
def PopupPlaceUptoCardSaid : Prop := Claim7.holds Tryd.pinned (.plain (OpenSpec.upto popupPlaceSpec)) popupPlaceUptoCard

/-- THE SECOND FORM's CARD OF 'compositorlaw21.PopupConstrain'. -/
def popupConstrainUptoCard : Claim7 := { stood := { row := popupConstrainUptoRow, standIns := [], harness := (true, "d37b681e1feabb992b8e2c6d99676b8eb6aa3a6e4a8a8f1404757cf01e18f3ad"), looks := false }, kinds := [], alts := [], laidByText := true, laidKinds := [.data, .data, .data, .data], laidTests := true, laidLooks := .later }
def PopupConstrainUptoCardSaid : Prop := Claim7.holds Tryd.pinned (.plain (OpenSpec.upto popupConstrainSpec)) popupConstrainUptoCard

/-- THE SECOND FORM's CARD OF 'compositorlaw21.PopupFits'. -/
def popupFitsUptoCard : Claim7 := { stood := { row := popupFitsUptoRow, standIns := [], harness := (true, "d37b681e1feabb992b8e2c6d99676b8eb6aa3a6e4a8a8f1404757cf01e18f3ad"), looks := false }, kinds := [], alts := [], laidByText := true, laidKinds := [.data, .data, .data, .data], laidTests := true, laidLooks := .later }
def PopupFitsUptoCardSaid : Prop := Claim7.holds Tryd.pinned (.plain (OpenSpec.upto popupFitsSpec)) popupFitsUptoCard

/-- THE SECOND FORM's CARD OF 'compositorlaw21.PopupUnchanged'. -/
def popupUnchangedUptoCard : Claim7 := { stood := { row := popupUnchangedUptoRow, standIns := [], harness := (true, "d37b681e1feabb992b8e2c6d99676b8eb6aa3a6e4a8a8f1404757cf01e18f3ad"), looks := false }, kinds := [], alts := [], laidByText := true, laidKinds := [.data, .data, .data, .data], laidTests := true, laidLooks := .later }
def PopupUnchangedUptoCardSaid : Prop := Claim7.holds Tryd.pinned (.plain (OpenSpec.upto popupUnchangedSpec)) popupUnchangedUptoCard

/-- THE SECOND FORM's CARD OF 'compositorlaw21.PopupSize'. -/
def popupSizeUptoCard : Claim7 := { stood := { row := popupSizeUptoRow, standIns := [], harness := (true, "d37b681e1feabb992b8e2c6d99676b8eb6aa3a6e4a8a8f1404757cf01e18f3ad"), looks := false }, kinds := [], alts := [], laidByText := true, laidKinds := [.data, .data, .data, .data], laidTests := true, laidLooks := .later }
def PopupSizeUptoCardSaid : Prop := Claim7.holds Tryd.pinned (.plain (OpenSpec.upto popupSizeSpec)) popupSizeUptoCard

/-- THE SECOND FORM's CARD OF 'compositorlaw21.PopupSlide'. -/
def popupSlideUptoCard : Claim7 := { stood := { row := popupSlideUptoRow, standIns := [], harness := (true, "d37b681e1feabb992b8e2c6d99676b8eb6aa3a6e4a8a8f1404757cf01e18f3ad"), looks := false }, kinds := [], alts := [], laidByText := true, laidKinds := [.data, .data, .data, .data], laidTests := true, laidLooks := .later }
def PopupSlideUptoCardSaid : Prop := Claim7.holds Tryd.pinned (.plain (OpenSpec.upto popupSlideSpec)) popupSlideUptoCard
end Rows
end Go.Proofs.YtinchgipfaefbaaDoor
