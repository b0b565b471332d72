/-
  DERIVED. GIVEN WITH THE SEED: THE CARDS: each row of YtabmkppfiklbaaaGreatDoorRows.lean that lists a variable, with what it lists TIED to the program's text (the seventh form; the later family's looks); each row that meets fmt, with fmt's text TOLD by the authors' own Lean function (tested against real Go, not proved from fmt's source: count such statements apart). THE CARD IS WHAT COUNTS. Prove the row's statement (the work); the ties are given (YtabmkppfiklbaaaGreatDoorTie.lean); close each card by the builder's one call (the guide's Derived/Test/ToyasCard.lean, 'card_holds'). Laid BY PROGRAM, IN A SANDBOX (cutbox-door.mjs). By AI agents, Wed Nov 11 2026. No macro, syntax, notation, axiom, sorry.
-/
import Derived.Test.YtabmkppfiklbaaaGreatDoorRows
import GoSem.ClaimSeven
namespace Go.Proofs.YtabmkppfiklbaaaGreatDoor
namespace Rows

/-- THE TIED CARD OF 'cutplanelaw12.ExactProducts'. -/
def exactProductsCard : Claim7 := { stood := { row := exactProductsRow, standIns := [], harness := (true, "759b712e0d082a6bbf39a721a9c32c87f66c5ed64b4913edd0b23d719e31c813"), looks := false }, kinds := [], alts := [], laidByText := true, laidKinds := [.data], laidTests := true, laidLooks := .later }
def ExactProductsCardSaid : Prop := Claim7.holds Tryz.pinned (.plain (OpenSpec.ofChange exactProductsSpec)) exactProductsCard

/-- THE TIED CARD OF 'cutplanelaw12.ExactQuotients'. -/
def exactQuotientsCard : Claim7 := { stood := { row := exactQuotientsRow, standIns := [], harness := (true, "759b712e0d082a6bbf39a721a9c32c87f66c5ed64b4913edd0b23d719e31c813"), looks := false }, kinds := [], alts := [], laidByText := true, laidKinds := [.data], laidTests := true, laidLooks := .later }
def ExactQuotientsCardSaid : Prop := Claim7.holds Tryz.pinned (.plain (OpenSpec.ofChange exactQuotientsSpec)) exactQuotientsCard

/-- THE TIED CARD OF 'cutplanelaw12.ExactBetween'. -/
def exactBetweenCard : Claim7 := { stood := { row := exactBetweenRow, standIns := [], harness := (true, "759b712e0d082a6bbf39a721a9c32c87f66c5ed64b4913edd0b23d719e31c813"), looks := false }, kinds := [], alts := [], laidByText := true, laidKinds := [.data], laidTests := true, laidLooks := .later }
def ExactBetweenCardSaid : Prop := Claim7.holds Tryz.pinned (.plain (OpenSpec.ofChange exactBetweenSpec)) exactBetweenCard

/-- THE TIED CARD OF 'cutplanelaw12.ExactBack'. -/
def exactBackCard : Claim7 := { stood := { row := exactBackRow, standIns := [], harness := (true, "759b712e0d082a6bbf39a721a9c32c87f66c5ed64b4913edd0b23d719e31c813"), looks := false }, kinds := [], alts := [], laidByText := true, laidKinds := [.data], laidTests := true, laidLooks := .later }
def ExactBackCardSaid : Prop := Claim7.holds Tryz.pinned (.plain (OpenSpec.ofChange exactBackSpec)) exactBackCard

/-- THE TIED CARD OF 'cutplanelaw12.ExactCommutes'. -/
def exactCommutesCard : Claim7 := { stood := { row := exactCommutesRow, standIns := [], harness := (true, "759b712e0d082a6bbf39a721a9c32c87f66c5ed64b4913edd0b23d719e31c813"), looks := false }, kinds := [], alts := [], laidByText := true, laidKinds := [.data], laidTests := true, laidLooks := .later }
def ExactCommutesCardSaid : Prop := Claim7.holds Tryz.pinned (.plain (OpenSpec.ofChange exactCommutesSpec)) exactCommutesCard

/-- THE TIED CARD OF 'cutplanelaw12.ExactSums'. -/
def exactSumsCard : Claim7 := { stood := { row := exactSumsRow, standIns := [], harness := (true, "759b712e0d082a6bbf39a721a9c32c87f66c5ed64b4913edd0b23d719e31c813"), looks := false }, kinds := [], alts := [], laidByText := true, laidKinds := [.data], laidTests := true, laidLooks := .later }
def ExactSumsCardSaid : Prop := Claim7.holds Tryz.pinned (.plain (OpenSpec.ofChange exactSumsSpec)) exactSumsCard

/-- THE TIED CARD OF 'cutplanelaw12.ExactFused'. -/
def exactFusedCard : Claim7 := { stood := { row := exactFusedRow, standIns := [], harness := (true, "759b712e0d082a6bbf39a721a9c32c87f66c5ed64b4913edd0b23d719e31c813"), looks := false }, kinds := [], alts := [], laidByText := true, laidKinds := [.data], laidTests := true, laidLooks := .later }
def ExactFusedCardSaid : Prop := Claim7.holds Tryz.pinned (.plain (OpenSpec.ofChange exactFusedSpec)) exactFusedCard

/-- THE TIED CARD OF 'cutplanelaw12.ExactGauss'. -/
def exactGaussCard : Claim7 := { stood := { row := exactGaussRow, standIns := [], harness := (true, "759b712e0d082a6bbf39a721a9c32c87f66c5ed64b4913edd0b23d719e31c813"), looks := false }, kinds := [], alts := [], laidByText := true, laidKinds := [.data], laidTests := true, laidLooks := .later }
def ExactGaussCardSaid : Prop := Claim7.holds Tryz.pinned (.plain (OpenSpec.ofChange exactGaussSpec)) exactGaussCard

/-- THE SECOND FORM's CARD OF 'cutplanelaw12.ExactProducts'. -/
def exactProductsUptoCard : Claim7 := { stood := { row := exactProductsUptoRow, standIns := [], harness := (true, "759b712e0d082a6bbf39a721a9c32c87f66c5ed64b4913edd0b23d719e31c813"), looks := false }, kinds := [], alts := [], laidByText := true, laidKinds := [.data], laidTests := true, laidLooks := .later }
def ExactProductsUptoCardSaid : Prop := Claim7.holds Tryz.pinned (.plain (OpenSpec.upto exactProductsSpec)) exactProductsUptoCard

/-- THE SECOND FORM's CARD OF 'cutplanelaw12.ExactQuotients'. -/
def exactQuotientsUptoCard : Claim7 := { stood := { row := exactQuotientsUptoRow, standIns := [], harness := (true, "759b712e0d082a6bbf39a721a9c32c87f66c5ed64b4913edd0b23d719e31c813"), looks := false }, kinds := [], alts := [], laidByText := true, laidKinds := [.data], laidTests := true, laidLooks := .later }
def ExactQuotientsUptoCardSaid : Prop := Claim7.holds Tryz.pinned (.plain (OpenSpec.upto exactQuotientsSpec)) exactQuotientsUptoCard

/-- THE SECOND FORM's CARD OF 'cutplanelaw12.ExactBetween'. -/
def exactBetweenUptoCard : Claim7 := { stood := { row := exactBetweenUptoRow, standIns := [], harness := (true, "759b712e0d082a6bbf39a721a9c32c87f66c5ed64b4913edd0b23d719e31c813"), looks := false }, kinds := [], alts := [], laidByText := true, laidKinds := [.data], laidTests := true, laidLooks := .later }
def ExactBetweenUptoCardSaid : Prop := Claim7.holds Tryz.pinned (.plain (OpenSpec.upto exactBetweenSpec)) exactBetweenUptoCard

/-- THE SECOND FORM's CARD OF 'cutplanelaw12.ExactBack'. -/
def exactBackUptoCard : Claim7 := { stood := { row := exactBackUptoRow, standIns := [], harness := (true, "759b712e0d082a6bbf39a721a9c32c87f66c5ed64b4913edd0b23d719e31c813"), looks := false }, kinds := [], alts := [], laidByText := true, laidKinds := [.data], laidTests := true, laidLooks := .later }
def ExactBackUptoCardSaid : Prop := Claim7.holds Tryz.pinned (.plain (OpenSpec.upto exactBackSpec)) exactBackUptoCard

/-- THE SECOND FORM's CARD OF 'cutplanelaw12.ExactCommutes'. -/
def exactCommutesUptoCard : Claim7 := { stood := { row := exactCommutesUptoRow, standIns := [], harness := (true, "759b712e0d082a6bbf39a721a9c32c87f66c5ed64b4913edd0b23d719e31c813"), looks := false }, kinds := [], alts := [], laidByText := true, laidKinds := [.data], laidTests := true, laidLooks := .later }
def ExactCommutesUptoCardSaid : Prop := Claim7.holds Tryz.pinned (.plain (OpenSpec.upto exactCommutesSpec)) exactCommutesUptoCard

/-- THE SECOND FORM's CARD OF 'cutplanelaw12.ExactSums'. -/
def exactSumsUptoCard : Claim7 := { stood := { row := exactSumsUptoRow, standIns := [], harness := (true, "759b712e0d082a6bbf39a721a9c32c87f66c5ed64b4913edd0b23d719e31c813"), looks := false }, kinds := [], alts := [], laidByText := true, laidKinds := [.data], laidTests := true, laidLooks := .later }
def ExactSumsUptoCardSaid : Prop := Claim7.holds Tryz.pinned (.plain (OpenSpec.upto exactSumsSpec)) exactSumsUptoCard

/-- THE SECOND FORM's CARD OF 'cutplanelaw12.ExactFused'. -/
def exactFusedUptoCard : Claim7 := { stood := { row := exactFusedUptoRow, standIns := [], harness := (true, "759b712e0d082a6bbf39a721a9c32c87f66c5ed64b4913edd0b23d719e31c813"), looks := false }, kinds := [], alts := [], laidByText := true, laidKinds := [.data], laidTests := true, laidLooks := .later }
def ExactFusedUptoCardSaid : Prop := Claim7.holds Tryz.pinned (.plain (OpenSpec.upto exactFusedSpec)) exactFusedUptoCard

/-- THE SECOND FORM's CARD OF 'cutplanelaw12.ExactGauss'. -/
def exactGaussUptoCard : Claim7 := { stood := { row := exactGaussUptoRow, standIns := [], harness := (true, "759b712e0d082a6bbf39a721a9c32c87f66c5ed64b4913edd0b23d719e31c813"), looks := false }, kinds := [], alts := [], laidByText := true, laidKinds := [.data], laidTests := true, laidLooks := .later }
def ExactGaussUptoCardSaid : Prop := Claim7.holds Tryz.pinned (.plain (OpenSpec.upto exactGaussSpec)) exactGaussUptoCard
end Rows
end Go.Proofs.YtabmkppfiklbaaaGreatDoor
