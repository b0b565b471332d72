/-
  DERIVED. GIVEN WITH THE SEED: THE CARDS: each row of YtmjcmppbmolmnaaGreatDoorRows.lean that lists a variable, with what it lists TIED to the program's text (the seventh form; the later family's looks); each row that meets fmt, with fmt's text TOLD by the authors' own Lean function (tested against real Go, not proved from fmt's source: count such statements apart). THE CARD IS WHAT COUNTS. Prove the row's statement (the work); the ties are given (YtmjcmppbmolmnaaGreatDoorTie.lean); close each card by the builder's one call (the guide's Derived/Test/ToyasCard.lean, 'card_holds'). Laid BY PROGRAM, IN A SANDBOX (cutbox-door.mjs). By AI agents, Wed Nov 11 2026. No macro, syntax, notation, axiom, sorry.
-/
import Derived.Test.YtmjcmppbmolmnaaGreatDoorRows
import GoSem.ClaimSeven
namespace Go.Proofs.YtmjcmppbmolmnaaGreatDoor
namespace Rows

/-- THE TIED CARD OF 'cutplanelaw05.SoftFused'. -/
def softFusedCard : Claim7 := { stood := { row := softFusedRow, standIns := [], harness := (true, "cea33751feb008e161e804237d2056b19b944b9cab084770db4b212c65dd07cb"), looks := false }, kinds := [], alts := [], laidByText := true, laidKinds := [.data], laidTests := true, laidLooks := .later }
def SoftFusedCardSaid : Prop := Claim7.holds Tryz.pinned (.plain (OpenSpec.ofChange softFusedSpec)) softFusedCard

/-- THE TIED CARD OF 'cutplanelaw05.SoftSums'. -/
def softSumsCard : Claim7 := { stood := { row := softSumsRow, standIns := [], harness := (true, "cea33751feb008e161e804237d2056b19b944b9cab084770db4b212c65dd07cb"), looks := false }, kinds := [], alts := [], laidByText := true, laidKinds := [.data], laidTests := true, laidLooks := .later }
def SoftSumsCardSaid : Prop := Claim7.holds Tryz.pinned (.plain (OpenSpec.ofChange softSumsSpec)) softSumsCard

/-- THE TIED CARD OF 'cutplanelaw05.SoftProducts'. -/
def softProductsCard : Claim7 := { stood := { row := softProductsRow, standIns := [], harness := (true, "cea33751feb008e161e804237d2056b19b944b9cab084770db4b212c65dd07cb"), looks := false }, kinds := [], alts := [], laidByText := true, laidKinds := [.data], laidTests := true, laidLooks := .later }
def SoftProductsCardSaid : Prop := Claim7.holds Tryz.pinned (.plain (OpenSpec.ofChange softProductsSpec)) softProductsCard

/-- THE TIED CARD OF 'cutplanelaw05.SoftRoots'. -/
def softRootsCard : Claim7 := { stood := { row := softRootsRow, standIns := [], harness := (true, "cea33751feb008e161e804237d2056b19b944b9cab084770db4b212c65dd07cb"), looks := false }, kinds := [], alts := [], laidByText := true, laidKinds := [.data], laidTests := true, laidLooks := .later }
def SoftRootsCardSaid : Prop := Claim7.holds Tryz.pinned (.plain (OpenSpec.ofChange softRootsSpec)) softRootsCard

/-- THE TIED CARD OF 'cutplanelaw05.SoftNear'. -/
def softNearCard : Claim7 := { stood := { row := softNearRow, standIns := [], harness := (true, "cea33751feb008e161e804237d2056b19b944b9cab084770db4b212c65dd07cb"), looks := false }, kinds := [], alts := [], laidByText := true, laidKinds := [.data], laidTests := true, laidLooks := .later }
def SoftNearCardSaid : Prop := Claim7.holds Tryz.pinned (.plain (OpenSpec.ofChange softNearSpec)) softNearCard

/-- THE TIED CARD OF 'cutplanelaw13.ModulusSizes'. -/
def modulusSizesCard : Claim7 := { stood := { row := modulusSizesRow, standIns := [], harness := (true, "cea33751feb008e161e804237d2056b19b944b9cab084770db4b212c65dd07cb"), looks := false }, kinds := [], alts := [], laidByText := true, laidKinds := [.data], laidTests := true, laidLooks := .later }
def ModulusSizesCardSaid : Prop := Claim7.holds Tryz.pinned (.plain (OpenSpec.ofChange modulusSizesSpec)) modulusSizesCard

/-- THE TIED CARD OF 'cutplanelaw13.ModulusOrders'. -/
def modulusOrdersCard : Claim7 := { stood := { row := modulusOrdersRow, standIns := [], harness := (true, "cea33751feb008e161e804237d2056b19b944b9cab084770db4b212c65dd07cb"), looks := false }, kinds := [], alts := [], laidByText := true, laidKinds := [.data], laidTests := true, laidLooks := .later }
def ModulusOrdersCardSaid : Prop := Claim7.holds Tryz.pinned (.plain (OpenSpec.ofChange modulusOrdersSpec)) modulusOrdersCard

/-- THE SECOND FORM's CARD OF 'cutplanelaw05.SoftFused'. -/
def softFusedUptoCard : Claim7 := { stood := { row := softFusedUptoRow, standIns := [], harness := (true, "cea33751feb008e161e804237d2056b19b944b9cab084770db4b212c65dd07cb"), looks := false }, kinds := [], alts := [], laidByText := true, laidKinds := [.data], laidTests := true, laidLooks := .later }
def SoftFusedUptoCardSaid : Prop := Claim7.holds Tryz.pinned (.plain (OpenSpec.upto softFusedSpec)) softFusedUptoCard

/-- THE SECOND FORM's CARD OF 'cutplanelaw05.SoftSums'. -/
def softSumsUptoCard : Claim7 := { stood := { row := softSumsUptoRow, standIns := [], harness := (true, "cea33751feb008e161e804237d2056b19b944b9cab084770db4b212c65dd07cb"), looks := false }, kinds := [], alts := [], laidByText := true, laidKinds := [.data], laidTests := true, laidLooks := .later }
def SoftSumsUptoCardSaid : Prop := Claim7.holds Tryz.pinned (.plain (OpenSpec.upto softSumsSpec)) softSumsUptoCard

/-- THE SECOND FORM's CARD OF 'cutplanelaw05.SoftProducts'. -/
def softProductsUptoCard : Claim7 := { stood := { row := softProductsUptoRow, standIns := [], harness := (true, "cea33751feb008e161e804237d2056b19b944b9cab084770db4b212c65dd07cb"), looks := false }, kinds := [], alts := [], laidByText := true, laidKinds := [.data], laidTests := true, laidLooks := .later }
def SoftProductsUptoCardSaid : Prop := Claim7.holds Tryz.pinned (.plain (OpenSpec.upto softProductsSpec)) softProductsUptoCard

/-- THE SECOND FORM's CARD OF 'cutplanelaw05.SoftRoots'. -/
def softRootsUptoCard : Claim7 := { stood := { row := softRootsUptoRow, standIns := [], harness := (true, "cea33751feb008e161e804237d2056b19b944b9cab084770db4b212c65dd07cb"), looks := false }, kinds := [], alts := [], laidByText := true, laidKinds := [.data], laidTests := true, laidLooks := .later }
def SoftRootsUptoCardSaid : Prop := Claim7.holds Tryz.pinned (.plain (OpenSpec.upto softRootsSpec)) softRootsUptoCard

/-- THE SECOND FORM's CARD OF 'cutplanelaw05.SoftNear'. -/
def softNearUptoCard : Claim7 := { stood := { row := softNearUptoRow, standIns := [], harness := (true, "cea33751feb008e161e804237d2056b19b944b9cab084770db4b212c65dd07cb"), looks := false }, kinds := [], alts := [], laidByText := true, laidKinds := [.data], laidTests := true, laidLooks := .later }
def SoftNearUptoCardSaid : Prop := Claim7.holds Tryz.pinned (.plain (OpenSpec.upto softNearSpec)) softNearUptoCard

/-- THE SECOND FORM's CARD OF 'cutplanelaw13.ModulusSizes'. -/
def modulusSizesUptoCard : Claim7 := { stood := { row := modulusSizesUptoRow, standIns := [], harness := (true, "cea33751feb008e161e804237d2056b19b944b9cab084770db4b212c65dd07cb"), looks := false }, kinds := [], alts := [], laidByText := true, laidKinds := [.data], laidTests := true, laidLooks := .later }
def ModulusSizesUptoCardSaid : Prop := Claim7.holds Tryz.pinned (.plain (OpenSpec.upto modulusSizesSpec)) modulusSizesUptoCard

/-- THE SECOND FORM's CARD OF 'cutplanelaw13.ModulusOrders'. -/
def modulusOrdersUptoCard : Claim7 := { stood := { row := modulusOrdersUptoRow, standIns := [], harness := (true, "cea33751feb008e161e804237d2056b19b944b9cab084770db4b212c65dd07cb"), looks := false }, kinds := [], alts := [], laidByText := true, laidKinds := [.data], laidTests := true, laidLooks := .later }
def ModulusOrdersUptoCardSaid : Prop := Claim7.holds Tryz.pinned (.plain (OpenSpec.upto modulusOrdersSpec)) modulusOrdersUptoCard
end Rows
end Go.Proofs.YtmjcmppbmolmnaaGreatDoor
