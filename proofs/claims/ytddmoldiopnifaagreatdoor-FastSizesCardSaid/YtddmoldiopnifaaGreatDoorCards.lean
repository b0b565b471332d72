/-
  DERIVED. GIVEN WITH THE SEED: THE CARDS: each row of YtddmoldiopnifaaGreatDoorRows.lean that lists a variable, with what it lists TIED to the program's text (the seventh form; the later family's looks); each row that meets fmt, with fmt's text TOLD by the authors' own Lean function (tested against real Go, not proved from fmt's source: count such statements apart). THE CARD IS WHAT COUNTS. Prove the row's statement (the work); the ties are given (YtddmoldiopnifaaGreatDoorTie.lean); close each card by the builder's one call (the guide's Derived/Test/ToyasCard.lean, 'card_holds'). Laid BY PROGRAM, IN A SANDBOX (cutbox-door.mjs). By AI agents, Wed Nov 11 2026. No macro, syntax, notation, axiom, sorry.
-/
import Derived.Test.YtddmoldiopnifaaGreatDoorRows
import GoSem.ClaimSeven
namespace Go.Proofs.YtddmoldiopnifaaGreatDoor
namespace Rows

/-- THE TIED CARD OF 'cutplanelaw15.FastProducts'. -/
def fastProductsCard : Claim7 := { stood := { row := fastProductsRow, standIns := [], harness := (true, "b0f37cdfa2ae2fc16316a736f241ff3b5ba71204ecd29557ab30520f3bb49e40"), looks := false }, kinds := [], alts := [], laidByText := true, laidKinds := [.data], laidTests := true, laidLooks := .later }
def FastProductsCardSaid : Prop := Claim7.holds Tryz.pinned (.plain (OpenSpec.ofChange fastProductsSpec)) fastProductsCard

/-- THE TIED CARD OF 'cutplanelaw15.FastQuotients'. -/
def fastQuotientsCard : Claim7 := { stood := { row := fastQuotientsRow, standIns := [], harness := (true, "b0f37cdfa2ae2fc16316a736f241ff3b5ba71204ecd29557ab30520f3bb49e40"), looks := false }, kinds := [], alts := [], laidByText := true, laidKinds := [.data], laidTests := true, laidLooks := .later }
def FastQuotientsCardSaid : Prop := Claim7.holds Tryz.pinned (.plain (OpenSpec.ofChange fastQuotientsSpec)) fastQuotientsCard

/-- THE TIED CARD OF 'cutplanelaw15.FastSizes'. -/
def fastSizesCard : Claim7 := { stood := { row := fastSizesRow, standIns := [], harness := (true, "b0f37cdfa2ae2fc16316a736f241ff3b5ba71204ecd29557ab30520f3bb49e40"), looks := false }, kinds := [], alts := [], laidByText := true, laidKinds := [.data], laidTests := true, laidLooks := .later }
def FastSizesCardSaid : Prop := Claim7.holds Tryz.pinned (.plain (OpenSpec.ofChange fastSizesSpec)) fastSizesCard

/-- THE TIED CARD OF 'cutplanelaw15.FastWindow'. -/
def fastWindowCard : Claim7 := { stood := { row := fastWindowRow, standIns := [], harness := (true, "b0f37cdfa2ae2fc16316a736f241ff3b5ba71204ecd29557ab30520f3bb49e40"), looks := false }, kinds := [], alts := [], laidByText := true, laidKinds := [.data], laidTests := true, laidLooks := .later }
def FastWindowCardSaid : Prop := Claim7.holds Tryz.pinned (.plain (OpenSpec.ofChange fastWindowSpec)) fastWindowCard

/-- THE TIED CARD OF 'cutplanelaw15.FastCounts'. -/
def fastCountsCard : Claim7 := { stood := { row := fastCountsRow, standIns := [], harness := (true, "b0f37cdfa2ae2fc16316a736f241ff3b5ba71204ecd29557ab30520f3bb49e40"), looks := false }, kinds := [], alts := [], laidByText := true, laidKinds := [.data], laidTests := true, laidLooks := .later }
def FastCountsCardSaid : Prop := Claim7.holds Tryz.pinned (.plain (OpenSpec.ofChange fastCountsSpec)) fastCountsCard

/-- THE TIED CARD OF 'cutplanelaw27.PolyValues'. -/
def polyValuesCard : Claim7 := { stood := { row := polyValuesRow, standIns := [], harness := (true, "b0f37cdfa2ae2fc16316a736f241ff3b5ba71204ecd29557ab30520f3bb49e40"), looks := false }, kinds := [], alts := [], laidByText := true, laidKinds := [.data], laidTests := true, laidLooks := .later }
def PolyValuesCardSaid : Prop := Claim7.holds Tryz.pinned (.plain (OpenSpec.ofChange polyValuesSpec)) polyValuesCard

/-- THE TIED CARD OF 'cutplanelaw27.PolyBound'. -/
def polyBoundCard : Claim7 := { stood := { row := polyBoundRow, standIns := [], harness := (true, "b0f37cdfa2ae2fc16316a736f241ff3b5ba71204ecd29557ab30520f3bb49e40"), looks := false }, kinds := [], alts := [], laidByText := true, laidKinds := [.data], laidTests := true, laidLooks := .later }
def PolyBoundCardSaid : Prop := Claim7.holds Tryz.pinned (.plain (OpenSpec.ofChange polyBoundSpec)) polyBoundCard

/-- THE TIED CARD OF 'cutplanelaw27.PolySlack'. -/
def polySlackCard : Claim7 := { stood := { row := polySlackRow, standIns := [], harness := (true, "b0f37cdfa2ae2fc16316a736f241ff3b5ba71204ecd29557ab30520f3bb49e40"), looks := false }, kinds := [], alts := [], laidByText := true, laidKinds := [.data], laidTests := true, laidLooks := .later }
def PolySlackCardSaid : Prop := Claim7.holds Tryz.pinned (.plain (OpenSpec.ofChange polySlackSpec)) polySlackCard

/-- THE TIED CARD OF 'cutplanelaw27.PolyFew'. -/
def polyFewCard : Claim7 := { stood := { row := polyFewRow, standIns := [], harness := (true, "b0f37cdfa2ae2fc16316a736f241ff3b5ba71204ecd29557ab30520f3bb49e40"), looks := false }, kinds := [], alts := [], laidByText := true, laidKinds := [.data], laidTests := true, laidLooks := .later }
def PolyFewCardSaid : Prop := Claim7.holds Tryz.pinned (.plain (OpenSpec.ofChange polyFewSpec)) polyFewCard

/-- THE TIED CARD OF 'cutplanelaw27.PolyDerives'. -/
def polyDerivesCard : Claim7 := { stood := { row := polyDerivesRow, standIns := [], harness := (true, "b0f37cdfa2ae2fc16316a736f241ff3b5ba71204ecd29557ab30520f3bb49e40"), looks := false }, kinds := [], alts := [], laidByText := true, laidKinds := [.data], laidTests := true, laidLooks := .later }
def PolyDerivesCardSaid : Prop := Claim7.holds Tryz.pinned (.plain (OpenSpec.ofChange polyDerivesSpec)) polyDerivesCard

/-- THE TIED CARD OF 'cutplanelaw28.PolishPaths'. -/
def polishPathsCard : Claim7 := { stood := { row := polishPathsRow, standIns := [], harness := (true, "b0f37cdfa2ae2fc16316a736f241ff3b5ba71204ecd29557ab30520f3bb49e40"), looks := false }, kinds := [], alts := [], laidByText := true, laidKinds := [.data], laidTests := true, laidLooks := .later }
def PolishPathsCardSaid : Prop := Claim7.holds Tryz.pinned (.plain (OpenSpec.ofChange polishPathsSpec)) polishPathsCard

/-- THE TIED CARD OF 'cutplanelaw28.PolishFalls'. -/
def polishFallsCard : Claim7 := { stood := { row := polishFallsRow, standIns := [], harness := (true, "b0f37cdfa2ae2fc16316a736f241ff3b5ba71204ecd29557ab30520f3bb49e40"), looks := false }, kinds := [], alts := [], laidByText := true, laidKinds := [.data], laidTests := true, laidLooks := .later }
def PolishFallsCardSaid : Prop := Claim7.holds Tryz.pinned (.plain (OpenSpec.ofChange polishFallsSpec)) polishFallsCard

/-- THE SECOND FORM's CARD OF 'cutplanelaw15.FastProducts'. -/
def fastProductsUptoCard : Claim7 := { stood := { row := fastProductsUptoRow, standIns := [], harness := (true, "b0f37cdfa2ae2fc16316a736f241ff3b5ba71204ecd29557ab30520f3bb49e40"), looks := false }, kinds := [], alts := [], laidByText := true, laidKinds := [.data], laidTests := true, laidLooks := .later }
def FastProductsUptoCardSaid : Prop := Claim7.holds Tryz.pinned (.plain (OpenSpec.upto fastProductsSpec)) fastProductsUptoCard

/-- THE SECOND FORM's CARD OF 'cutplanelaw15.FastQuotients'. -/
def fastQuotientsUptoCard : Claim7 := { stood := { row := fastQuotientsUptoRow, standIns := [], harness := (true, "b0f37cdfa2ae2fc16316a736f241ff3b5ba71204ecd29557ab30520f3bb49e40"), looks := false }, kinds := [], alts := [], laidByText := true, laidKinds := [.data], laidTests := true, laidLooks := .later }
def FastQuotientsUptoCardSaid : Prop := Claim7.holds Tryz.pinned (.plain (OpenSpec.upto fastQuotientsSpec)) fastQuotientsUptoCard

/-- THE SECOND FORM's CARD OF 'cutplanelaw15.FastSizes'. -/
def fastSizesUptoCard : Claim7 := { stood := { row := fastSizesUptoRow, standIns := [], harness := (true, "b0f37cdfa2ae2fc16316a736f241ff3b5ba71204ecd29557ab30520f3bb49e40"), looks := false }, kinds := [], alts := [], laidByText := true, laidKinds := [.data], laidTests := true, laidLooks := .later }
def FastSizesUptoCardSaid : Prop := Claim7.holds Tryz.pinned (.plain (OpenSpec.upto fastSizesSpec)) fastSizesUptoCard

/-- THE SECOND FORM's CARD OF 'cutplanelaw15.FastWindow'. -/
def fastWindowUptoCard : Claim7 := { stood := { row := fastWindowUptoRow, standIns := [], harness := (true, "b0f37cdfa2ae2fc16316a736f241ff3b5ba71204ecd29557ab30520f3bb49e40"), looks := false }, kinds := [], alts := [], laidByText := true, laidKinds := [.data], laidTests := true, laidLooks := .later }
def FastWindowUptoCardSaid : Prop := Claim7.holds Tryz.pinned (.plain (OpenSpec.upto fastWindowSpec)) fastWindowUptoCard

/-- THE SECOND FORM's CARD OF 'cutplanelaw15.FastCounts'. -/
def fastCountsUptoCard : Claim7 := { stood := { row := fastCountsUptoRow, standIns := [], harness := (true, "b0f37cdfa2ae2fc16316a736f241ff3b5ba71204ecd29557ab30520f3bb49e40"), looks := false }, kinds := [], alts := [], laidByText := true, laidKinds := [.data], laidTests := true, laidLooks := .later }
def FastCountsUptoCardSaid : Prop := Claim7.holds Tryz.pinned (.plain (OpenSpec.upto fastCountsSpec)) fastCountsUptoCard

/-- THE SECOND FORM's CARD OF 'cutplanelaw27.PolyValues'. -/
def polyValuesUptoCard : Claim7 := { stood := { row := polyValuesUptoRow, standIns := [], harness := (true, "b0f37cdfa2ae2fc16316a736f241ff3b5ba71204ecd29557ab30520f3bb49e40"), looks := false }, kinds := [], alts := [], laidByText := true, laidKinds := [.data], laidTests := true, laidLooks := .later }
def PolyValuesUptoCardSaid : Prop := Claim7.holds Tryz.pinned (.plain (OpenSpec.upto polyValuesSpec)) polyValuesUptoCard

/-- THE SECOND FORM's CARD OF 'cutplanelaw27.PolyBound'. -/
def polyBoundUptoCard : Claim7 := { stood := { row := polyBoundUptoRow, standIns := [], harness := (true, "b0f37cdfa2ae2fc16316a736f241ff3b5ba71204ecd29557ab30520f3bb49e40"), looks := false }, kinds := [], alts := [], laidByText := true, laidKinds := [.data], laidTests := true, laidLooks := .later }
def PolyBoundUptoCardSaid : Prop := Claim7.holds Tryz.pinned (.plain (OpenSpec.upto polyBoundSpec)) polyBoundUptoCard

/-- THE SECOND FORM's CARD OF 'cutplanelaw27.PolySlack'. -/
def polySlackUptoCard : Claim7 := { stood := { row := polySlackUptoRow, standIns := [], harness := (true, "b0f37cdfa2ae2fc16316a736f241ff3b5ba71204ecd29557ab30520f3bb49e40"), looks := false }, kinds := [], alts := [], laidByText := true, laidKinds := [.data], laidTests := true, laidLooks := .later }
def PolySlackUptoCardSaid : Prop := Claim7.holds Tryz.pinned (.plain (OpenSpec.upto polySlackSpec)) polySlackUptoCard

/-- THE SECOND FORM's CARD OF 'cutplanelaw27.PolyFew'. -/
def polyFewUptoCard : Claim7 := { stood := { row := polyFewUptoRow, standIns := [], harness := (true, "b0f37cdfa2ae2fc16316a736f241ff3b5ba71204ecd29557ab30520f3bb49e40"), looks := false }, kinds := [], alts := [], laidByText := true, laidKinds := [.data], laidTests := true, laidLooks := .later }
def PolyFewUptoCardSaid : Prop := Claim7.holds Tryz.pinned (.plain (OpenSpec.upto polyFewSpec)) polyFewUptoCard

/-- THE SECOND FORM's CARD OF 'cutplanelaw27.PolyDerives'. -/
def polyDerivesUptoCard : Claim7 := { stood := { row := polyDerivesUptoRow, standIns := [], harness := (true, "b0f37cdfa2ae2fc16316a736f241ff3b5ba71204ecd29557ab30520f3bb49e40"), looks := false }, kinds := [], alts := [], laidByText := true, laidKinds := [.data], laidTests := true, laidLooks := .later }
def PolyDerivesUptoCardSaid : Prop := Claim7.holds Tryz.pinned (.plain (OpenSpec.upto polyDerivesSpec)) polyDerivesUptoCard

/-- THE SECOND FORM's CARD OF 'cutplanelaw28.PolishPaths'. -/
def polishPathsUptoCard : Claim7 := { stood := { row := polishPathsUptoRow, standIns := [], harness := (true, "b0f37cdfa2ae2fc16316a736f241ff3b5ba71204ecd29557ab30520f3bb49e40"), looks := false }, kinds := [], alts := [], laidByText := true, laidKinds := [.data], laidTests := true, laidLooks := .later }
def PolishPathsUptoCardSaid : Prop := Claim7.holds Tryz.pinned (.plain (OpenSpec.upto polishPathsSpec)) polishPathsUptoCard

/-- THE SECOND FORM's CARD OF 'cutplanelaw28.PolishFalls'. -/
def polishFallsUptoCard : Claim7 := { stood := { row := polishFallsUptoRow, standIns := [], harness := (true, "b0f37cdfa2ae2fc16316a736f241ff3b5ba71204ecd29557ab30520f3bb49e40"), looks := false }, kinds := [], alts := [], laidByText := true, laidKinds := [.data], laidTests := true, laidLooks := .later }
def PolishFallsUptoCardSaid : Prop := Claim7.holds Tryz.pinned (.plain (OpenSpec.upto polishFallsSpec)) polishFallsUptoCard
end Rows
end Go.Proofs.YtddmoldiopnifaaGreatDoor
