/-
  DERIVED. GIVEN WITH THE SEED: THE CARDS: each row of YtmjcmppbmolmnaaDoorRows.lean that lists a variable, with what it lists TIED to the program's text (the seventh form; the later family's looks); each row that meets fmt, with fmt's text TOLD by the authors' own Lean function (tested against real Go, not proved from fmt's source: count such statements apart). THE CARD IS WHAT COUNTS. Prove the row's statement (the work); the ties are given (YtmjcmppbmolmnaaDoorTie.lean); close each card by the builder's one call (the guide's Derived/Test/ToyasCard.lean, 'card_holds'). Laid BY PROGRAM, IN A SANDBOX (cutbox-door.mjs). By AI agents, Wed Nov 11 2026. No macro, syntax, notation, axiom, sorry.
-/
import Derived.Test.YtmjcmppbmolmnaaDoorRows
import GoSem.ClaimSeven
namespace Go.Proofs.YtmjcmppbmolmnaaDoor
namespace Rows

/-- THE TIED CARD OF 'cutplanelaw05.SoftCommutes'. -/
def softCommutesCard : Claim7 := { stood := { row := softCommutesRow, standIns := [], harness := (true, "56a8d05f805cab0cce3ebe5a4cd3a9105b209313ec34c42991dcccf782403860"), looks := false }, kinds := [], alts := [], laidByText := true, laidKinds := [.data], laidTests := true, laidLooks := .later }
def SoftCommutesCardSaid : Prop := Claim7.holds Tryd.pinned (.plain (OpenSpec.ofChange softCommutesSpec)) softCommutesCard

/-- THE TIED CARD OF 'cutplanelaw13.ModulusTurns'. -/
def modulusTurnsCard : Claim7 := { stood := { row := modulusTurnsRow, standIns := [], harness := (true, "56a8d05f805cab0cce3ebe5a4cd3a9105b209313ec34c42991dcccf782403860"), looks := false }, kinds := [], alts := [], laidByText := true, laidKinds := [.data], laidTests := true, laidLooks := .later }
def ModulusTurnsCardSaid : Prop := Claim7.holds Tryd.pinned (.plain (OpenSpec.ofChange modulusTurnsSpec)) modulusTurnsCard

/-- THE TIED CARD OF 'cutplanelaw13.ModulusGoes'. -/
def modulusGoesCard : Claim7 := { stood := { row := modulusGoesRow, standIns := [], harness := (true, "56a8d05f805cab0cce3ebe5a4cd3a9105b209313ec34c42991dcccf782403860"), looks := false }, kinds := [], alts := [], laidByText := true, laidKinds := [.data], laidTests := true, laidLooks := .later }
def ModulusGoesCardSaid : Prop := Claim7.holds Tryd.pinned (.plain (OpenSpec.ofChange modulusGoesSpec)) modulusGoesCard

/-- THE SECOND FORM's CARD OF 'cutplanelaw05.SoftCommutes'. -/
def softCommutesUptoCard : Claim7 := { stood := { row := softCommutesUptoRow, standIns := [], harness := (true, "56a8d05f805cab0cce3ebe5a4cd3a9105b209313ec34c42991dcccf782403860"), looks := false }, kinds := [], alts := [], laidByText := true, laidKinds := [.data], laidTests := true, laidLooks := .later }
def SoftCommutesUptoCardSaid : Prop := Claim7.holds Tryd.pinned (.plain (OpenSpec.upto softCommutesSpec)) softCommutesUptoCard

/-- THE SECOND FORM's CARD OF 'cutplanelaw13.ModulusTurns'. -/
def modulusTurnsUptoCard : Claim7 := { stood := { row := modulusTurnsUptoRow, standIns := [], harness := (true, "56a8d05f805cab0cce3ebe5a4cd3a9105b209313ec34c42991dcccf782403860"), looks := false }, kinds := [], alts := [], laidByText := true, laidKinds := [.data], laidTests := true, laidLooks := .later }
def ModulusTurnsUptoCardSaid : Prop := Claim7.holds Tryd.pinned (.plain (OpenSpec.upto modulusTurnsSpec)) modulusTurnsUptoCard

/-- THE SECOND FORM's CARD OF 'cutplanelaw13.ModulusGoes'. -/
def modulusGoesUptoCard : Claim7 := { stood := { row := modulusGoesUptoRow, standIns := [], harness := (true, "56a8d05f805cab0cce3ebe5a4cd3a9105b209313ec34c42991dcccf782403860"), looks := false }, kinds := [], alts := [], laidByText := true, laidKinds := [.data], laidTests := true, laidLooks := .later }
def ModulusGoesUptoCardSaid : Prop := Claim7.holds Tryd.pinned (.plain (OpenSpec.upto modulusGoesSpec)) modulusGoesUptoCard
end Rows
end Go.Proofs.YtmjcmppbmolmnaaDoor
