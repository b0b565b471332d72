/-
  DERIVED. GIVEN WITH THE SEED: THE CARDS: each row of YthhmfdmdhbbehaaGreatDoorRows.lean that lists a variable, with what it lists TIED to the program's text (the seventh form; the later family's looks); each row that meets fmt, with fmt's text TOLD by the authors' own Lean function (tested against real Go, not proved from fmt's source: count such statements apart). THE CARD IS WHAT COUNTS. Prove the row's statement (the work); the ties are given (YthhmfdmdhbbehaaGreatDoorTie.lean); close each card by the builder's one call (the guide's Derived/Test/ToyasCard.lean, 'card_holds'). Laid BY PROGRAM, IN A SANDBOX (cutbox-door.mjs). By AI agents, Wed Nov 11 2026. No macro, syntax, notation, axiom, sorry.
-/
import Derived.Test.YthhmfdmdhbbehaaGreatDoorRows
import GoSem.ClaimSeven
namespace Go.Proofs.YthhmfdmdhbbehaaGreatDoor
namespace Rows

/-- THE TIED CARD OF 'cutplanelaw04.RoundExact'. -/
def roundExactCard : Claim7 := { stood := { row := roundExactRow, standIns := [], harness := (true, "c573416412e20610704a875e09bb15c44cef4a672d0122706d8fb4716f53ef0a"), looks := false }, kinds := [], alts := [], laidByText := true, laidKinds := [.data], laidTests := true, laidLooks := .later }
def RoundExactCardSaid : Prop := Claim7.holds Tryz.pinned (.plain (OpenSpec.ofChange roundExactSpec)) roundExactCard

/-- THE TIED CARD OF 'cutplanelaw04.RoundQuotients'. -/
def roundQuotientsCard : Claim7 := { stood := { row := roundQuotientsRow, standIns := [], harness := (true, "c573416412e20610704a875e09bb15c44cef4a672d0122706d8fb4716f53ef0a"), looks := false }, kinds := [], alts := [], laidByText := true, laidKinds := [.data], laidTests := true, laidLooks := .later }
def RoundQuotientsCardSaid : Prop := Claim7.holds Tryz.pinned (.plain (OpenSpec.ofChange roundQuotientsSpec)) roundQuotientsCard

/-- THE TIED CARD OF 'cutplanelaw04.RoundRoots'. -/
def roundRootsCard : Claim7 := { stood := { row := roundRootsRow, standIns := [], harness := (true, "c573416412e20610704a875e09bb15c44cef4a672d0122706d8fb4716f53ef0a"), looks := false }, kinds := [], alts := [], laidByText := true, laidKinds := [.data], laidTests := true, laidLooks := .later }
def RoundRootsCardSaid : Prop := Claim7.holds Tryz.pinned (.plain (OpenSpec.ofChange roundRootsSpec)) roundRootsCard

/-- THE SECOND FORM's CARD OF 'cutplanelaw04.RoundExact'. -/
def roundExactUptoCard : Claim7 := { stood := { row := roundExactUptoRow, standIns := [], harness := (true, "c573416412e20610704a875e09bb15c44cef4a672d0122706d8fb4716f53ef0a"), looks := false }, kinds := [], alts := [], laidByText := true, laidKinds := [.data], laidTests := true, laidLooks := .later }
def RoundExactUptoCardSaid : Prop := Claim7.holds Tryz.pinned (.plain (OpenSpec.upto roundExactSpec)) roundExactUptoCard

/-- THE SECOND FORM's CARD OF 'cutplanelaw04.RoundQuotients'. -/
def roundQuotientsUptoCard : Claim7 := { stood := { row := roundQuotientsUptoRow, standIns := [], harness := (true, "c573416412e20610704a875e09bb15c44cef4a672d0122706d8fb4716f53ef0a"), looks := false }, kinds := [], alts := [], laidByText := true, laidKinds := [.data], laidTests := true, laidLooks := .later }
def RoundQuotientsUptoCardSaid : Prop := Claim7.holds Tryz.pinned (.plain (OpenSpec.upto roundQuotientsSpec)) roundQuotientsUptoCard

/-- THE SECOND FORM's CARD OF 'cutplanelaw04.RoundRoots'. -/
def roundRootsUptoCard : Claim7 := { stood := { row := roundRootsUptoRow, standIns := [], harness := (true, "c573416412e20610704a875e09bb15c44cef4a672d0122706d8fb4716f53ef0a"), looks := false }, kinds := [], alts := [], laidByText := true, laidKinds := [.data], laidTests := true, laidLooks := .later }
def RoundRootsUptoCardSaid : Prop := Claim7.holds Tryz.pinned (.plain (OpenSpec.upto roundRootsSpec)) roundRootsUptoCard
end Rows
end Go.Proofs.YthhmfdmdhbbehaaGreatDoor
