/-
  NARROWER THAN 'FOR EVERY INPUT', by the rows' own cells (each row's printed sentence says how): FastProducts: laid · FastQuotients: laid · FastSizes: laid · FastWindow: laid · FastCounts: laid · PolyValues: laid · PolyBound: laid · PolySlack: laid · PolyFew: laid · PolyDerives: laid · PolishPaths: laid · PolishFalls: laid.
  DERIVED. THE GIVEN ROWS OF THIS SEAT. 12 by the template 'for every input the law returns true; each argument reads behind the call as it read before'; 0 by the template 'total and deterministic' (their statements: YtddmoldiopnifaaGreatDoorTotals.lean).
  GIVEN WITH THE SEED: the statements are not yours to turn. If you find one false, say at which input.
  Laid BY PROGRAM, IN A SANDBOX (cutbox-rows.mjs): the forced cells as the released guide's own fill.sh prints them over the translation 3d395643008a818e… (all of the seat's roots in one cut). By AI agents, Wed Nov 11 2026. No macro, syntax, notation, axiom, sorry.
-/
import Derived.Test.YtddmoldiopnifaaGreatDoorChecked
import GoSem.Claim
import GoSem.ClaimJoined
import GoSem.ClaimMapViews
import Derived.JoinedTies
import Derived.KernelRfl
namespace Go.Proofs.YtddmoldiopnifaaGreatDoor
/- THE CELL 'sum', in the pinned program and in every row, IS THE sha256 OF THE DUMP (.gsa) THAT YtddmoldiopnifaaGreatDoorProg.lean LOADS. Nothing in Lean hashes anything: it is a label: what it is worth is what the hold of that sum in a sandbox is worth. -/
noncomputable def Tryz.pinned : Pinned := { name := "ytddmoldiopnifaagreatdoor", sum := "3d395643008a818ec9d28d8e39fdcca99e592f6a504d4b192d90551ce827ce39", checked := Tryz.checked }
namespace Rows
def none {H : Type} : Left H := { results := [], args := [] }

/- WHAT THE LISTED PACKAGE-LEVEL VARIABLES READ AS WHEN THE CALL BEGINS. Each datum BY PROGRAM (the guide's laid-datum.mjs) off the statement by which the dump's own 'gosem.cut.vars' lays the variable. In a bare row this is a premise. The card (YtddmoldiopnifaaGreatDoorCards.lean) ties it to the program's text. -/
def laid_math_bits_deBruijn32tab {H : Type} : DataW H := .agg [.lit (.int .u8 0), .lit (.int .u8 1), .lit (.int .u8 28), .lit (.int .u8 2), .lit (.int .u8 29), .lit (.int .u8 14), .lit (.int .u8 24), .lit (.int .u8 3), .lit (.int .u8 30), .lit (.int .u8 22), .lit (.int .u8 20), .lit (.int .u8 15), .lit (.int .u8 25), .lit (.int .u8 17), .lit (.int .u8 4), .lit (.int .u8 8), .lit (.int .u8 31), .lit (.int .u8 27), .lit (.int .u8 13), .lit (.int .u8 23), .lit (.int .u8 21), .lit (.int .u8 19), .lit (.int .u8 16), .lit (.int .u8 7), .lit (.int .u8 26), .lit (.int .u8 12), .lit (.int .u8 18), .lit (.int .u8 6), .lit (.int .u8 11), .lit (.int .u8 5), .lit (.int .u8 10), .lit (.int .u8 9)]

/-- 'cutplanelaw15.FastProducts': WHATEVER THE INPUT: true; the input reads as it did. -/
def fastProductsSpec : ChangeSpec := { name := "fastProducts", fn := fun _ => fun
  | [d1, d2, d3] => { results := [.lit (.bool true)], args := [d1, d2, d3] }
  | _ => none }
def fastProductsRow : OpenClaim := { program := "ytddmoldiopnifaagreatdoor", sum := "3d395643008a818ec9d28d8e39fdcca99e592f6a504d4b192d90551ce827ce39", func := "cutplane/cutplanelaw15.FastProducts", spec := "fastProducts", inPlace := ["math.Float32frombits", "math.Float32bits", "math.Float64frombits", "math.Float64bits", "sync/atomic.AddUint64", "sync/atomic.LoadUint64"], unfollowed := true, recurses := true, named := ["math/bits.deBruijn32tab", "math/bits.overflowError"], apart := false, laid := [("math/bits.deBruijn32tab", laid_math_bits_deBruijn32tab)] }
def FastProductsSaid : Prop := fastProductsRow.holds Tryz.pinned (OpenSpec.ofChange fastProductsSpec)

/-- ITS FALSE NEIGHBOUR: 'it returns false'. Refute it at one input. -/
def fastProductsWrong : ChangeSpec := { name := "fastProducts", fn := fun _ => fun
  | [d1, d2, d3] => { results := [.lit (.bool false)], args := [d1, d2, d3] }
  | _ => none }
def FastProductsWrongFalsely : Prop := fastProductsRow.holds Tryz.pinned (OpenSpec.ofChange fastProductsWrong)

/-- 'cutplanelaw15.FastQuotients': WHATEVER THE INPUT: true; the input reads as it did. -/
def fastQuotientsSpec : ChangeSpec := { name := "fastQuotients", fn := fun _ => fun
  | [d1, d2, d3] => { results := [.lit (.bool true)], args := [d1, d2, d3] }
  | _ => none }
def fastQuotientsRow : OpenClaim := { program := "ytddmoldiopnifaagreatdoor", sum := "3d395643008a818ec9d28d8e39fdcca99e592f6a504d4b192d90551ce827ce39", func := "cutplane/cutplanelaw15.FastQuotients", spec := "fastQuotients", inPlace := ["math.Float32frombits", "math.Float32bits", "math.Float64frombits", "math.Float64bits", "sync/atomic.AddUint64", "sync/atomic.LoadUint64"], unfollowed := true, recurses := true, named := ["math/bits.deBruijn32tab", "math/bits.overflowError"], apart := false, laid := [("math/bits.deBruijn32tab", laid_math_bits_deBruijn32tab)] }
def FastQuotientsSaid : Prop := fastQuotientsRow.holds Tryz.pinned (OpenSpec.ofChange fastQuotientsSpec)

/-- ITS FALSE NEIGHBOUR: 'it returns false'. Refute it at one input. -/
def fastQuotientsWrong : ChangeSpec := { name := "fastQuotients", fn := fun _ => fun
  | [d1, d2, d3] => { results := [.lit (.bool false)], args := [d1, d2, d3] }
  | _ => none }
def FastQuotientsWrongFalsely : Prop := fastQuotientsRow.holds Tryz.pinned (OpenSpec.ofChange fastQuotientsWrong)

/-- 'cutplanelaw15.FastSizes': WHATEVER THE INPUT: true; the input reads as it did. -/
def fastSizesSpec : ChangeSpec := { name := "fastSizes", fn := fun _ => fun
  | [d1, d2] => { results := [.lit (.bool true)], args := [d1, d2] }
  | _ => none }
def fastSizesRow : OpenClaim := { program := "ytddmoldiopnifaagreatdoor", sum := "3d395643008a818ec9d28d8e39fdcca99e592f6a504d4b192d90551ce827ce39", func := "cutplane/cutplanelaw15.FastSizes", spec := "fastSizes", inPlace := ["math.Float32frombits", "math.Float32bits", "math.Float64frombits", "math.Float64bits", "sync/atomic.AddUint64", "sync/atomic.LoadUint64", "math.sqrt"], unfollowed := true, recurses := true, named := ["math/bits.deBruijn32tab", "math/bits.overflowError"], apart := false, laid := [("math/bits.deBruijn32tab", laid_math_bits_deBruijn32tab)] }
def FastSizesSaid : Prop := fastSizesRow.holds Tryz.pinned (OpenSpec.ofChange fastSizesSpec)

/-- ITS FALSE NEIGHBOUR: 'it returns false'. Refute it at one input. -/
def fastSizesWrong : ChangeSpec := { name := "fastSizes", fn := fun _ => fun
  | [d1, d2] => { results := [.lit (.bool false)], args := [d1, d2] }
  | _ => none }
def FastSizesWrongFalsely : Prop := fastSizesRow.holds Tryz.pinned (OpenSpec.ofChange fastSizesWrong)

/-- 'cutplanelaw15.FastWindow': WHATEVER THE INPUT: true; the input reads as it did. -/
def fastWindowSpec : ChangeSpec := { name := "fastWindow", fn := fun _ => fun
  | [d1, d2] => { results := [.lit (.bool true)], args := [d1, d2] }
  | _ => none }
def fastWindowRow : OpenClaim := { program := "ytddmoldiopnifaagreatdoor", sum := "3d395643008a818ec9d28d8e39fdcca99e592f6a504d4b192d90551ce827ce39", func := "cutplane/cutplanelaw15.FastWindow", spec := "fastWindow", inPlace := ["math.Float32frombits", "math.Float32bits", "math.Float64frombits", "math.Float64bits", "sync/atomic.AddUint64", "math.sqrt", "sync/atomic.LoadUint64"], unfollowed := true, recurses := true, named := ["math/bits.deBruijn32tab", "math/bits.overflowError"], apart := false, laid := [("math/bits.deBruijn32tab", laid_math_bits_deBruijn32tab)] }
def FastWindowSaid : Prop := fastWindowRow.holds Tryz.pinned (OpenSpec.ofChange fastWindowSpec)

/-- ITS FALSE NEIGHBOUR: 'it returns false'. Refute it at one input. -/
def fastWindowWrong : ChangeSpec := { name := "fastWindow", fn := fun _ => fun
  | [d1, d2] => { results := [.lit (.bool false)], args := [d1, d2] }
  | _ => none }
def FastWindowWrongFalsely : Prop := fastWindowRow.holds Tryz.pinned (OpenSpec.ofChange fastWindowWrong)

/-- 'cutplanelaw15.FastCounts': WHATEVER THE INPUT: true; the input reads as it did. -/
def fastCountsSpec : ChangeSpec := { name := "fastCounts", fn := fun _ => fun
  | [d1, d2] => { results := [.lit (.bool true)], args := [d1, d2] }
  | _ => none }
def fastCountsRow : OpenClaim := { program := "ytddmoldiopnifaagreatdoor", sum := "3d395643008a818ec9d28d8e39fdcca99e592f6a504d4b192d90551ce827ce39", func := "cutplane/cutplanelaw15.FastCounts", spec := "fastCounts", inPlace := ["math.Float32frombits", "math.Float32bits", "math.Float64frombits", "math.Float64bits", "sync/atomic.AddUint64", "sync/atomic.LoadUint64", "math.sqrt"], unfollowed := true, recurses := true, named := ["math/bits.deBruijn32tab", "math/bits.overflowError"], apart := false, laid := [("math/bits.deBruijn32tab", laid_math_bits_deBruijn32tab)] }
def FastCountsSaid : Prop := fastCountsRow.holds Tryz.pinned (OpenSpec.ofChange fastCountsSpec)

/-- ITS FALSE NEIGHBOUR: 'it returns false'. Refute it at one input. -/
def fastCountsWrong : ChangeSpec := { name := "fastCounts", fn := fun _ => fun
  | [d1, d2] => { results := [.lit (.bool false)], args := [d1, d2] }
  | _ => none }
def FastCountsWrongFalsely : Prop := fastCountsRow.holds Tryz.pinned (OpenSpec.ofChange fastCountsWrong)

/-- 'cutplanelaw27.PolyValues': WHATEVER THE INPUT: true; the input reads as it did. -/
def polyValuesSpec : ChangeSpec := { name := "polyValues", fn := fun _ => fun
  | [d1, d2, d3] => { results := [.lit (.bool true)], args := [d1, d2, d3] }
  | _ => none }
def polyValuesRow : OpenClaim := { program := "ytddmoldiopnifaagreatdoor", sum := "3d395643008a818ec9d28d8e39fdcca99e592f6a504d4b192d90551ce827ce39", func := "cutplane/cutplanelaw27.PolyValues", spec := "polyValues", unfollowed := true, recurses := true, named := ["math/bits.deBruijn32tab", "math/bits.overflowError"], apart := false, laid := [("math/bits.deBruijn32tab", laid_math_bits_deBruijn32tab)] }
def PolyValuesSaid : Prop := polyValuesRow.holds Tryz.pinned (OpenSpec.ofChange polyValuesSpec)

/-- ITS FALSE NEIGHBOUR: 'it returns false'. Refute it at one input. -/
def polyValuesWrong : ChangeSpec := { name := "polyValues", fn := fun _ => fun
  | [d1, d2, d3] => { results := [.lit (.bool false)], args := [d1, d2, d3] }
  | _ => none }
def PolyValuesWrongFalsely : Prop := polyValuesRow.holds Tryz.pinned (OpenSpec.ofChange polyValuesWrong)

/-- 'cutplanelaw27.PolyBound': WHATEVER THE INPUT: true; the input reads as it did. -/
def polyBoundSpec : ChangeSpec := { name := "polyBound", fn := fun _ => fun
  | [d1, d2, d3] => { results := [.lit (.bool true)], args := [d1, d2, d3] }
  | _ => none }
def polyBoundRow : OpenClaim := { program := "ytddmoldiopnifaagreatdoor", sum := "3d395643008a818ec9d28d8e39fdcca99e592f6a504d4b192d90551ce827ce39", func := "cutplane/cutplanelaw27.PolyBound", spec := "polyBound", unfollowed := true, recurses := true, named := ["math/bits.deBruijn32tab", "math/bits.overflowError"], apart := false, laid := [("math/bits.deBruijn32tab", laid_math_bits_deBruijn32tab)] }
def PolyBoundSaid : Prop := polyBoundRow.holds Tryz.pinned (OpenSpec.ofChange polyBoundSpec)

/-- ITS FALSE NEIGHBOUR: 'it returns false'. Refute it at one input. -/
def polyBoundWrong : ChangeSpec := { name := "polyBound", fn := fun _ => fun
  | [d1, d2, d3] => { results := [.lit (.bool false)], args := [d1, d2, d3] }
  | _ => none }
def PolyBoundWrongFalsely : Prop := polyBoundRow.holds Tryz.pinned (OpenSpec.ofChange polyBoundWrong)

/-- 'cutplanelaw27.PolySlack': WHATEVER THE INPUT: true; the input reads as it did. -/
def polySlackSpec : ChangeSpec := { name := "polySlack", fn := fun _ => fun
  | [d1, d2, d3] => { results := [.lit (.bool true)], args := [d1, d2, d3] }
  | _ => none }
def polySlackRow : OpenClaim := { program := "ytddmoldiopnifaagreatdoor", sum := "3d395643008a818ec9d28d8e39fdcca99e592f6a504d4b192d90551ce827ce39", func := "cutplane/cutplanelaw27.PolySlack", spec := "polySlack", unfollowed := true, recurses := true, named := ["math/bits.deBruijn32tab", "math/bits.overflowError"], apart := false, laid := [("math/bits.deBruijn32tab", laid_math_bits_deBruijn32tab)] }
def PolySlackSaid : Prop := polySlackRow.holds Tryz.pinned (OpenSpec.ofChange polySlackSpec)

/-- ITS FALSE NEIGHBOUR: 'it returns false'. Refute it at one input. -/
def polySlackWrong : ChangeSpec := { name := "polySlack", fn := fun _ => fun
  | [d1, d2, d3] => { results := [.lit (.bool false)], args := [d1, d2, d3] }
  | _ => none }
def PolySlackWrongFalsely : Prop := polySlackRow.holds Tryz.pinned (OpenSpec.ofChange polySlackWrong)

/-- 'cutplanelaw27.PolyFew': WHATEVER THE INPUT: true; the input reads as it did. -/
def polyFewSpec : ChangeSpec := { name := "polyFew", fn := fun _ => fun
  | [d1, d2, d3] => { results := [.lit (.bool true)], args := [d1, d2, d3] }
  | _ => none }
def polyFewRow : OpenClaim := { program := "ytddmoldiopnifaagreatdoor", sum := "3d395643008a818ec9d28d8e39fdcca99e592f6a504d4b192d90551ce827ce39", func := "cutplane/cutplanelaw27.PolyFew", spec := "polyFew", unfollowed := true, recurses := true, named := ["math/bits.deBruijn32tab", "math/bits.overflowError"], apart := false, laid := [("math/bits.deBruijn32tab", laid_math_bits_deBruijn32tab)] }
def PolyFewSaid : Prop := polyFewRow.holds Tryz.pinned (OpenSpec.ofChange polyFewSpec)

/-- ITS FALSE NEIGHBOUR: 'it returns false'. Refute it at one input. -/
def polyFewWrong : ChangeSpec := { name := "polyFew", fn := fun _ => fun
  | [d1, d2, d3] => { results := [.lit (.bool false)], args := [d1, d2, d3] }
  | _ => none }
def PolyFewWrongFalsely : Prop := polyFewRow.holds Tryz.pinned (OpenSpec.ofChange polyFewWrong)

/-- 'cutplanelaw27.PolyDerives': WHATEVER THE INPUT: true; the input reads as it did. -/
def polyDerivesSpec : ChangeSpec := { name := "polyDerives", fn := fun _ => fun
  | [d1, d2] => { results := [.lit (.bool true)], args := [d1, d2] }
  | _ => none }
def polyDerivesRow : OpenClaim := { program := "ytddmoldiopnifaagreatdoor", sum := "3d395643008a818ec9d28d8e39fdcca99e592f6a504d4b192d90551ce827ce39", func := "cutplane/cutplanelaw27.PolyDerives", spec := "polyDerives", unfollowed := true, recurses := true, named := ["math/bits.deBruijn32tab", "math/bits.overflowError"], apart := false, laid := [("math/bits.deBruijn32tab", laid_math_bits_deBruijn32tab)] }
def PolyDerivesSaid : Prop := polyDerivesRow.holds Tryz.pinned (OpenSpec.ofChange polyDerivesSpec)

/-- ITS FALSE NEIGHBOUR: 'it returns false'. Refute it at one input. -/
def polyDerivesWrong : ChangeSpec := { name := "polyDerives", fn := fun _ => fun
  | [d1, d2] => { results := [.lit (.bool false)], args := [d1, d2] }
  | _ => none }
def PolyDerivesWrongFalsely : Prop := polyDerivesRow.holds Tryz.pinned (OpenSpec.ofChange polyDerivesWrong)

/-- 'cutplanelaw28.PolishPaths': WHATEVER THE INPUT: true; the input reads as it did. -/
def polishPathsSpec : ChangeSpec := { name := "polishPaths", fn := fun _ => fun
  | [d1, d2, d3, d4] => { results := [.lit (.bool true)], args := [d1, d2, d3, d4] }
  | _ => none }
def polishPathsRow : OpenClaim := { program := "ytddmoldiopnifaagreatdoor", sum := "3d395643008a818ec9d28d8e39fdcca99e592f6a504d4b192d90551ce827ce39", func := "cutplane/cutplanelaw28.PolishPaths", spec := "polishPaths", unfollowed := true, recurses := true, named := ["math/bits.deBruijn32tab", "math/bits.overflowError"], apart := false, laid := [("math/bits.deBruijn32tab", laid_math_bits_deBruijn32tab)] }
def PolishPathsSaid : Prop := polishPathsRow.holds Tryz.pinned (OpenSpec.ofChange polishPathsSpec)

/-- ITS FALSE NEIGHBOUR: 'it returns false'. Refute it at one input. -/
def polishPathsWrong : ChangeSpec := { name := "polishPaths", fn := fun _ => fun
  | [d1, d2, d3, d4] => { results := [.lit (.bool false)], args := [d1, d2, d3, d4] }
  | _ => none }
def PolishPathsWrongFalsely : Prop := polishPathsRow.holds Tryz.pinned (OpenSpec.ofChange polishPathsWrong)

/-- 'cutplanelaw28.PolishFalls': WHATEVER THE INPUT: true; the input reads as it did. -/
def polishFallsSpec : ChangeSpec := { name := "polishFalls", fn := fun _ => fun
  | [d1, d2, d3, d4] => { results := [.lit (.bool true)], args := [d1, d2, d3, d4] }
  | _ => none }
def polishFallsRow : OpenClaim := { program := "ytddmoldiopnifaagreatdoor", sum := "3d395643008a818ec9d28d8e39fdcca99e592f6a504d4b192d90551ce827ce39", func := "cutplane/cutplanelaw28.PolishFalls", spec := "polishFalls", unfollowed := true, recurses := true, named := ["math/bits.deBruijn32tab", "math/bits.overflowError"], apart := false, laid := [("math/bits.deBruijn32tab", laid_math_bits_deBruijn32tab)] }
def PolishFallsSaid : Prop := polishFallsRow.holds Tryz.pinned (OpenSpec.ofChange polishFallsSpec)

/-- ITS FALSE NEIGHBOUR: 'it returns false'. Refute it at one input. -/
def polishFallsWrong : ChangeSpec := { name := "polishFalls", fn := fun _ => fun
  | [d1, d2, d3, d4] => { results := [.lit (.bool false)], args := [d1, d2, d3, d4] }
  | _ => none }
def PolishFallsWrongFalsely : Prop := polishFallsRow.holds Tryz.pinned (OpenSpec.ofChange polishFallsWrong)

/- THE SECOND FORM. 'bulk': how many values and letters a reading holds, each counted each time it is reached (what is shared counts as often as it is met; a slice's spare places count too). A statement '..UptoSaid' is the law's where the arguments, and the package variables that the reading takes, are together of bulk at most 1048576: NARROWER than '..Said'. Prove '..Said' where nothing that the law and all that it calls make is longer than what came in: it says more and counts as full. Else prove '..UptoSaid'. A law counts once. -/
mutual
def uptoBulk {H : Type} : DataW H → Nat
  | .lit (.string bytes) => bytes.length + 1
  | .lit _ => 1
  | .nil => 1
  | .ptr d => uptoBulk d + 1
  | .slice elems spare => uptoBulkAll elems + uptoBulkAll spare + 1
  | .agg parts => uptoBulkAll parts + 1
  | .iface _ d => uptoBulk d + 1
  | .map entries => uptoBulkEntries entries + 1
  | .held _ => 1
def uptoBulkAll {H : Type} : List (DataW H) → Nat
  | [] => 0
  | d :: r => uptoBulk d + uptoBulkAll r
def uptoBulkEntries {H : Type} : List (Lit × DataW H) → Nat
  | [] => 0
  | x :: r => uptoBulkEntry x + uptoBulkEntries r
def uptoBulkEntry {H : Type} : Lit × DataW H → Nat
  | (.string bytes, d) => bytes.length + uptoBulk d + 1
  | (_, d) => uptoBulk d + 1
 end
def uptoSmall : (H : Type) → List (DataW H) → Bool := fun _ ds => decide (uptoBulkAll ds ≤ 1048576)
def OpenSpec.upto (s : _root_.Go.ChangeSpec) : _root_.Go.OpenSpec := { _root_.Go.OpenSpec.ofChange s with cond := some uptoSmall }

/-- 'cutplanelaw15.FastProducts', WHERE WHAT IT READS IS OF BULK AT MOST 1048576: true; the input reads as it did. -/
def fastProductsUptoRow : OpenClaim := { program := "ytddmoldiopnifaagreatdoor", sum := "3d395643008a818ec9d28d8e39fdcca99e592f6a504d4b192d90551ce827ce39", func := "cutplane/cutplanelaw15.FastProducts", spec := "fastProducts", inPlace := ["math.Float32frombits", "math.Float32bits", "math.Float64frombits", "math.Float64bits", "sync/atomic.AddUint64", "sync/atomic.LoadUint64"], unfollowed := true, recurses := true, named := ["math/bits.deBruijn32tab", "math/bits.overflowError"], apart := false, laid := [("math/bits.deBruijn32tab", laid_math_bits_deBruijn32tab)], narrowed := true }
def FastProductsUptoSaid : Prop := fastProductsUptoRow.holds Tryz.pinned (OpenSpec.upto fastProductsSpec)

/-- 'cutplanelaw15.FastQuotients', WHERE WHAT IT READS IS OF BULK AT MOST 1048576: true; the input reads as it did. -/
def fastQuotientsUptoRow : OpenClaim := { program := "ytddmoldiopnifaagreatdoor", sum := "3d395643008a818ec9d28d8e39fdcca99e592f6a504d4b192d90551ce827ce39", func := "cutplane/cutplanelaw15.FastQuotients", spec := "fastQuotients", inPlace := ["math.Float32frombits", "math.Float32bits", "math.Float64frombits", "math.Float64bits", "sync/atomic.AddUint64", "sync/atomic.LoadUint64"], unfollowed := true, recurses := true, named := ["math/bits.deBruijn32tab", "math/bits.overflowError"], apart := false, laid := [("math/bits.deBruijn32tab", laid_math_bits_deBruijn32tab)], narrowed := true }
def FastQuotientsUptoSaid : Prop := fastQuotientsUptoRow.holds Tryz.pinned (OpenSpec.upto fastQuotientsSpec)

/-- 'cutplanelaw15.FastSizes', WHERE WHAT IT READS IS OF BULK AT MOST 1048576: true; the input reads as it did. -/
def fastSizesUptoRow : OpenClaim := { program := "ytddmoldiopnifaagreatdoor", sum := "3d395643008a818ec9d28d8e39fdcca99e592f6a504d4b192d90551ce827ce39", func := "cutplane/cutplanelaw15.FastSizes", spec := "fastSizes", inPlace := ["math.Float32frombits", "math.Float32bits", "math.Float64frombits", "math.Float64bits", "sync/atomic.AddUint64", "sync/atomic.LoadUint64", "math.sqrt"], unfollowed := true, recurses := true, named := ["math/bits.deBruijn32tab", "math/bits.overflowError"], apart := false, laid := [("math/bits.deBruijn32tab", laid_math_bits_deBruijn32tab)], narrowed := true }
def FastSizesUptoSaid : Prop := fastSizesUptoRow.holds Tryz.pinned (OpenSpec.upto fastSizesSpec)

/-- 'cutplanelaw15.FastWindow', WHERE WHAT IT READS IS OF BULK AT MOST 1048576: true; the input reads as it did. -/
def fastWindowUptoRow : OpenClaim := { program := "ytddmoldiopnifaagreatdoor", sum := "3d395643008a818ec9d28d8e39fdcca99e592f6a504d4b192d90551ce827ce39", func := "cutplane/cutplanelaw15.FastWindow", spec := "fastWindow", inPlace := ["math.Float32frombits", "math.Float32bits", "math.Float64frombits", "math.Float64bits", "sync/atomic.AddUint64", "math.sqrt", "sync/atomic.LoadUint64"], unfollowed := true, recurses := true, named := ["math/bits.deBruijn32tab", "math/bits.overflowError"], apart := false, laid := [("math/bits.deBruijn32tab", laid_math_bits_deBruijn32tab)], narrowed := true }
def FastWindowUptoSaid : Prop := fastWindowUptoRow.holds Tryz.pinned (OpenSpec.upto fastWindowSpec)

/-- 'cutplanelaw15.FastCounts', WHERE WHAT IT READS IS OF BULK AT MOST 1048576: true; the input reads as it did. -/
def fastCountsUptoRow : OpenClaim := { program := "ytddmoldiopnifaagreatdoor", sum := "3d395643008a818ec9d28d8e39fdcca99e592f6a504d4b192d90551ce827ce39", func := "cutplane/cutplanelaw15.FastCounts", spec := "fastCounts", inPlace := ["math.Float32frombits", "math.Float32bits", "math.Float64frombits", "math.Float64bits", "sync/atomic.AddUint64", "sync/atomic.LoadUint64", "math.sqrt"], unfollowed := true, recurses := true, named := ["math/bits.deBruijn32tab", "math/bits.overflowError"], apart := false, laid := [("math/bits.deBruijn32tab", laid_math_bits_deBruijn32tab)], narrowed := true }
def FastCountsUptoSaid : Prop := fastCountsUptoRow.holds Tryz.pinned (OpenSpec.upto fastCountsSpec)

/-- 'cutplanelaw27.PolyValues', WHERE WHAT IT READS IS OF BULK AT MOST 1048576: true; the input reads as it did. -/
def polyValuesUptoRow : OpenClaim := { program := "ytddmoldiopnifaagreatdoor", sum := "3d395643008a818ec9d28d8e39fdcca99e592f6a504d4b192d90551ce827ce39", func := "cutplane/cutplanelaw27.PolyValues", spec := "polyValues", unfollowed := true, recurses := true, named := ["math/bits.deBruijn32tab", "math/bits.overflowError"], apart := false, laid := [("math/bits.deBruijn32tab", laid_math_bits_deBruijn32tab)], narrowed := true }
def PolyValuesUptoSaid : Prop := polyValuesUptoRow.holds Tryz.pinned (OpenSpec.upto polyValuesSpec)

/-- 'cutplanelaw27.PolyBound', WHERE WHAT IT READS IS OF BULK AT MOST 1048576: true; the input reads as it did. -/
def polyBoundUptoRow : OpenClaim := { program := "ytddmoldiopnifaagreatdoor", sum := "3d395643008a818ec9d28d8e39fdcca99e592f6a504d4b192d90551ce827ce39", func := "cutplane/cutplanelaw27.PolyBound", spec := "polyBound", unfollowed := true, recurses := true, named := ["math/bits.deBruijn32tab", "math/bits.overflowError"], apart := false, laid := [("math/bits.deBruijn32tab", laid_math_bits_deBruijn32tab)], narrowed := true }
def PolyBoundUptoSaid : Prop := polyBoundUptoRow.holds Tryz.pinned (OpenSpec.upto polyBoundSpec)

/-- 'cutplanelaw27.PolySlack', WHERE WHAT IT READS IS OF BULK AT MOST 1048576: true; the input reads as it did. -/
def polySlackUptoRow : OpenClaim := { program := "ytddmoldiopnifaagreatdoor", sum := "3d395643008a818ec9d28d8e39fdcca99e592f6a504d4b192d90551ce827ce39", func := "cutplane/cutplanelaw27.PolySlack", spec := "polySlack", unfollowed := true, recurses := true, named := ["math/bits.deBruijn32tab", "math/bits.overflowError"], apart := false, laid := [("math/bits.deBruijn32tab", laid_math_bits_deBruijn32tab)], narrowed := true }
def PolySlackUptoSaid : Prop := polySlackUptoRow.holds Tryz.pinned (OpenSpec.upto polySlackSpec)

/-- 'cutplanelaw27.PolyFew', WHERE WHAT IT READS IS OF BULK AT MOST 1048576: true; the input reads as it did. -/
def polyFewUptoRow : OpenClaim := { program := "ytddmoldiopnifaagreatdoor", sum := "3d395643008a818ec9d28d8e39fdcca99e592f6a504d4b192d90551ce827ce39", func := "cutplane/cutplanelaw27.PolyFew", spec := "polyFew", unfollowed := true, recurses := true, named := ["math/bits.deBruijn32tab", "math/bits.overflowError"], apart := false, laid := [("math/bits.deBruijn32tab", laid_math_bits_deBruijn32tab)], narrowed := true }
def PolyFewUptoSaid : Prop := polyFewUptoRow.holds Tryz.pinned (OpenSpec.upto polyFewSpec)

/-- 'cutplanelaw27.PolyDerives', WHERE WHAT IT READS IS OF BULK AT MOST 1048576: true; the input reads as it did. -/
def polyDerivesUptoRow : OpenClaim := { program := "ytddmoldiopnifaagreatdoor", sum := "3d395643008a818ec9d28d8e39fdcca99e592f6a504d4b192d90551ce827ce39", func := "cutplane/cutplanelaw27.PolyDerives", spec := "polyDerives", unfollowed := true, recurses := true, named := ["math/bits.deBruijn32tab", "math/bits.overflowError"], apart := false, laid := [("math/bits.deBruijn32tab", laid_math_bits_deBruijn32tab)], narrowed := true }
def PolyDerivesUptoSaid : Prop := polyDerivesUptoRow.holds Tryz.pinned (OpenSpec.upto polyDerivesSpec)

/-- 'cutplanelaw28.PolishPaths', WHERE WHAT IT READS IS OF BULK AT MOST 1048576: true; the input reads as it did. -/
def polishPathsUptoRow : OpenClaim := { program := "ytddmoldiopnifaagreatdoor", sum := "3d395643008a818ec9d28d8e39fdcca99e592f6a504d4b192d90551ce827ce39", func := "cutplane/cutplanelaw28.PolishPaths", spec := "polishPaths", unfollowed := true, recurses := true, named := ["math/bits.deBruijn32tab", "math/bits.overflowError"], apart := false, laid := [("math/bits.deBruijn32tab", laid_math_bits_deBruijn32tab)], narrowed := true }
def PolishPathsUptoSaid : Prop := polishPathsUptoRow.holds Tryz.pinned (OpenSpec.upto polishPathsSpec)

/-- 'cutplanelaw28.PolishFalls', WHERE WHAT IT READS IS OF BULK AT MOST 1048576: true; the input reads as it did. -/
def polishFallsUptoRow : OpenClaim := { program := "ytddmoldiopnifaagreatdoor", sum := "3d395643008a818ec9d28d8e39fdcca99e592f6a504d4b192d90551ce827ce39", func := "cutplane/cutplanelaw28.PolishFalls", spec := "polishFalls", unfollowed := true, recurses := true, named := ["math/bits.deBruijn32tab", "math/bits.overflowError"], apart := false, laid := [("math/bits.deBruijn32tab", laid_math_bits_deBruijn32tab)], narrowed := true }
def PolishFallsUptoSaid : Prop := polishFallsUptoRow.holds Tryz.pinned (OpenSpec.upto polishFallsSpec)

end Rows
end Go.Proofs.YtddmoldiopnifaaGreatDoor
