/-
  DERIVED. GIVEN WITH THE SEED: THE CARDS: each row of YtnomgajekgfgaaaGreatDoorRows.lean that lists a variable, with what it lists TIED to the program's text (the seventh form; the later family's looks); each row that meets fmt, with fmt's text TOLD by the authors' own Lean function (tested against real Go, not proved from fmt's source: count such statements apart). THE CARD IS WHAT COUNTS. Prove the row's statement (the work); the ties are given (YtnomgajekgfgaaaGreatDoorTie.lean); close each card by the builder's one call (the guide's Derived/Test/ToyasCard.lean, 'card_holds'). Laid BY PROGRAM, IN A SANDBOX (cutbox-door.mjs). By AI agents, Wed Nov 11 2026. No macro, syntax, notation, axiom, sorry.
-/
import Derived.Test.YtnomgajekgfgaaaGreatDoorRows
import GoSem.ClaimSeven
namespace Go.Proofs.YtnomgajekgfgaaaGreatDoor
namespace Rows

/-- THE TIED CARD OF 'cutplanelaw28.PolishPaths'. -/
def polishPathsCard : Claim7 := { stood := { row := polishPathsRow, standIns := [], harness := (true, "c82f72599308b48dd519055c29f44ece88b8f7e1172534996e6a5f0fcb48f45d"), looks := false }, kinds := [], alts := [], laidByText := true, laidKinds := [.data], laidTests := true, laidLooks := .later }
def PolishPathsCardSaid : Prop := Claim7.holds Tryz.pinned (.plain (OpenSpec.ofChange polishPathsSpec)) polishPathsCard

/-- THE TIED CARD OF 'cutplanelaw28.PolishFalls'. -/
def polishFallsCard : Claim7 := { stood := { row := polishFallsRow, standIns := [], harness := (true, "c82f72599308b48dd519055c29f44ece88b8f7e1172534996e6a5f0fcb48f45d"), looks := false }, kinds := [], alts := [], laidByText := true, laidKinds := [.data], laidTests := true, laidLooks := .later }
def PolishFallsCardSaid : Prop := Claim7.holds Tryz.pinned (.plain (OpenSpec.ofChange polishFallsSpec)) polishFallsCard

/-- THE SECOND FORM's CARD OF 'cutplanelaw28.PolishPaths'. -/
def polishPathsUptoCard : Claim7 := { stood := { row := polishPathsUptoRow, standIns := [], harness := (true, "c82f72599308b48dd519055c29f44ece88b8f7e1172534996e6a5f0fcb48f45d"), looks := false }, kinds := [], alts := [], laidByText := true, laidKinds := [.data], laidTests := true, laidLooks := .later }
def PolishPathsUptoCardSaid : Prop := Claim7.holds Tryz.pinned (.plain (OpenSpec.upto polishPathsSpec)) polishPathsUptoCard

/-- THE SECOND FORM's CARD OF 'cutplanelaw28.PolishFalls'. -/
def polishFallsUptoCard : Claim7 := { stood := { row := polishFallsUptoRow, standIns := [], harness := (true, "c82f72599308b48dd519055c29f44ece88b8f7e1172534996e6a5f0fcb48f45d"), looks := false }, kinds := [], alts := [], laidByText := true, laidKinds := [.data], laidTests := true, laidLooks := .later }
def PolishFallsUptoCardSaid : Prop := Claim7.holds Tryz.pinned (.plain (OpenSpec.upto polishFallsSpec)) polishFallsUptoCard
end Rows
end Go.Proofs.YtnomgajekgfgaaaGreatDoor
