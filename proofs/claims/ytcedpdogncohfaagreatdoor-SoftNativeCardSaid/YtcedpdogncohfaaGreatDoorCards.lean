/-
  DERIVED. GIVEN WITH THE SEED: THE CARDS: each row of YtcedpdogncohfaaGreatDoorRows.lean that lists a variable, with what it lists TIED to the program's text (the seventh form; the later family's looks); each row that meets fmt, with fmt's text TOLD by the authors' own Lean function (tested against real Go, not proved from fmt's source: count such statements apart). THE CARD IS WHAT COUNTS. Prove the row's statement (the work); the ties are given (YtcedpdogncohfaaGreatDoorTie.lean); close each card by the builder's one call (the guide's Derived/Test/ToyasCard.lean, 'card_holds'). Laid BY PROGRAM, IN A SANDBOX (cutbox-door.mjs). By AI agents, Wed Nov 11 2026. No macro, syntax, notation, axiom, sorry.
-/
import Derived.Test.YtcedpdogncohfaaGreatDoorRows
import GoSem.ClaimSeven
namespace Go.Proofs.YtcedpdogncohfaaGreatDoor
namespace Rows

/-- THE TIED CARD OF 'cutplanelaw05.SoftNative'. -/
def softNativeCard : Claim7 := { stood := { row := softNativeRow, standIns := [], harness := (true, "9f07cfb88903ab0527a13e41ac339197be977bb033ead609619d9bdb2fcb7542"), looks := false }, kinds := [], alts := [], laidByText := true, laidKinds := [.data], laidTests := true, laidLooks := .later }
def SoftNativeCardSaid : Prop := Claim7.holds Tryz.pinned (.plain (OpenSpec.ofChange softNativeSpec)) softNativeCard

/-- THE SECOND FORM's CARD OF 'cutplanelaw05.SoftNative'. -/
def softNativeUptoCard : Claim7 := { stood := { row := softNativeUptoRow, standIns := [], harness := (true, "9f07cfb88903ab0527a13e41ac339197be977bb033ead609619d9bdb2fcb7542"), looks := false }, kinds := [], alts := [], laidByText := true, laidKinds := [.data], laidTests := true, laidLooks := .later }
def SoftNativeUptoCardSaid : Prop := Claim7.holds Tryz.pinned (.plain (OpenSpec.upto softNativeSpec)) softNativeUptoCard
end Rows
end Go.Proofs.YtcedpdogncohfaaGreatDoor
