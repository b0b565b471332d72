/-
  DERIVED. GIVEN WITH THE SEED: THE CARDS: each row of YthhmfdmdhbbehaaDoorRows.lean that lists a variable, with what it lists TIED to the program's text (the seventh form; the later family's looks); each row that meets fmt, with fmt's text TOLD by the authors' own Lean function (tested against real Go, not proved from fmt's source: count such statements apart). THE CARD IS WHAT COUNTS. Prove the row's statement (the work); the ties are given (YthhmfdmdhbbehaaDoorTie.lean); close each card by the builder's one call (the guide's Derived/Test/ToyasCard.lean, 'card_holds'). Laid BY PROGRAM, IN A SANDBOX (cutbox-door.mjs). By AI agents, Wed Nov 11 2026. No macro, syntax, notation, axiom, sorry.
-/
import Derived.Test.YthhmfdmdhbbehaaDoorRows
import GoSem.ClaimSeven
namespace Go.Proofs.YthhmfdmdhbbehaaDoor
namespace Rows

/-- THE TIED CARD OF 'cutplanelaw04.RoundBetween'. -/
def roundBetweenCard : Claim7 := { stood := { row := roundBetweenRow, standIns := [], harness := (true, "6fb60f2c958b6055eb77799ea295e57bb352b6bb196aac2e6cd23ef4b1477ee8"), looks := false }, kinds := [], alts := [], laidByText := true, laidKinds := [.data], laidTests := true, laidLooks := .later }
def RoundBetweenCardSaid : Prop := Claim7.holds Tryd.pinned (.plain (OpenSpec.ofChange roundBetweenSpec)) roundBetweenCard

/-- THE TIED CARD OF 'cutplanelaw04.RoundNearest'. -/
def roundNearestCard : Claim7 := { stood := { row := roundNearestRow, standIns := [], harness := (true, "6fb60f2c958b6055eb77799ea295e57bb352b6bb196aac2e6cd23ef4b1477ee8"), looks := false }, kinds := [], alts := [], laidByText := true, laidKinds := [.data], laidTests := true, laidLooks := .later }
def RoundNearestCardSaid : Prop := Claim7.holds Tryd.pinned (.plain (OpenSpec.ofChange roundNearestSpec)) roundNearestCard

/-- THE TIED CARD OF 'cutplanelaw04.RoundOrder'. -/
def roundOrderCard : Claim7 := { stood := { row := roundOrderRow, standIns := [], harness := (true, "6fb60f2c958b6055eb77799ea295e57bb352b6bb196aac2e6cd23ef4b1477ee8"), looks := false }, kinds := [], alts := [], laidByText := true, laidKinds := [.data], laidTests := true, laidLooks := .later }
def RoundOrderCardSaid : Prop := Claim7.holds Tryd.pinned (.plain (OpenSpec.ofChange roundOrderSpec)) roundOrderCard

/-- THE TIED CARD OF 'cutplanelaw04.RoundMirror'. -/
def roundMirrorCard : Claim7 := { stood := { row := roundMirrorRow, standIns := [], harness := (true, "6fb60f2c958b6055eb77799ea295e57bb352b6bb196aac2e6cd23ef4b1477ee8"), looks := false }, kinds := [], alts := [], laidByText := true, laidKinds := [.data], laidTests := true, laidLooks := .later }
def RoundMirrorCardSaid : Prop := Claim7.holds Tryd.pinned (.plain (OpenSpec.ofChange roundMirrorSpec)) roundMirrorCard

/-- THE TIED CARD OF 'cutplanelaw04.RoundSquares'. -/
def roundSquaresCard : Claim7 := { stood := { row := roundSquaresRow, standIns := [], harness := (true, "6fb60f2c958b6055eb77799ea295e57bb352b6bb196aac2e6cd23ef4b1477ee8"), looks := false }, kinds := [], alts := [], laidByText := true, laidKinds := [.data], laidTests := true, laidLooks := .later }
def RoundSquaresCardSaid : Prop := Claim7.holds Tryd.pinned (.plain (OpenSpec.ofChange roundSquaresSpec)) roundSquaresCard

/-- THE SECOND FORM's CARD OF 'cutplanelaw04.RoundBetween'. -/
def roundBetweenUptoCard : Claim7 := { stood := { row := roundBetweenUptoRow, standIns := [], harness := (true, "6fb60f2c958b6055eb77799ea295e57bb352b6bb196aac2e6cd23ef4b1477ee8"), looks := false }, kinds := [], alts := [], laidByText := true, laidKinds := [.data], laidTests := true, laidLooks := .later }
def RoundBetweenUptoCardSaid : Prop := Claim7.holds Tryd.pinned (.plain (OpenSpec.upto roundBetweenSpec)) roundBetweenUptoCard

/-- THE SECOND FORM's CARD OF 'cutplanelaw04.RoundNearest'. -/
def roundNearestUptoCard : Claim7 := { stood := { row := roundNearestUptoRow, standIns := [], harness := (true, "6fb60f2c958b6055eb77799ea295e57bb352b6bb196aac2e6cd23ef4b1477ee8"), looks := false }, kinds := [], alts := [], laidByText := true, laidKinds := [.data], laidTests := true, laidLooks := .later }
def RoundNearestUptoCardSaid : Prop := Claim7.holds Tryd.pinned (.plain (OpenSpec.upto roundNearestSpec)) roundNearestUptoCard

/-- THE SECOND FORM's CARD OF 'cutplanelaw04.RoundOrder'. -/
def roundOrderUptoCard : Claim7 := { stood := { row := roundOrderUptoRow, standIns := [], harness := (true, "6fb60f2c958b6055eb77799ea295e57bb352b6bb196aac2e6cd23ef4b1477ee8"), looks := false }, kinds := [], alts := [], laidByText := true, laidKinds := [.data], laidTests := true, laidLooks := .later }
def RoundOrderUptoCardSaid : Prop := Claim7.holds Tryd.pinned (.plain (OpenSpec.upto roundOrderSpec)) roundOrderUptoCard

/-- THE SECOND FORM's CARD OF 'cutplanelaw04.RoundMirror'. -/
def roundMirrorUptoCard : Claim7 := { stood := { row := roundMirrorUptoRow, standIns := [], harness := (true, "6fb60f2c958b6055eb77799ea295e57bb352b6bb196aac2e6cd23ef4b1477ee8"), looks := false }, kinds := [], alts := [], laidByText := true, laidKinds := [.data], laidTests := true, laidLooks := .later }
def RoundMirrorUptoCardSaid : Prop := Claim7.holds Tryd.pinned (.plain (OpenSpec.upto roundMirrorSpec)) roundMirrorUptoCard

/-- THE SECOND FORM's CARD OF 'cutplanelaw04.RoundSquares'. -/
def roundSquaresUptoCard : Claim7 := { stood := { row := roundSquaresUptoRow, standIns := [], harness := (true, "6fb60f2c958b6055eb77799ea295e57bb352b6bb196aac2e6cd23ef4b1477ee8"), looks := false }, kinds := [], alts := [], laidByText := true, laidKinds := [.data], laidTests := true, laidLooks := .later }
def RoundSquaresUptoCardSaid : Prop := Claim7.holds Tryd.pinned (.plain (OpenSpec.upto roundSquaresSpec)) roundSquaresUptoCard
end Rows
end Go.Proofs.YthhmfdmdhbbehaaDoor
