/-
  NARROWER THAN 'FOR EVERY INPUT', by the rows' own cells (each row's printed sentence says how): SoftFused: laid · SoftSums: laid · SoftProducts: laid · SoftRoots: laid · SoftNear: laid · ModulusSizes: laid · ModulusOrders: laid.
  DERIVED. THE GIVEN ROWS OF THIS SEAT. 7 by the template 'for every input the law returns true; each argument reads behind the call as it read before'; 0 by the template 'total and deterministic' (their statements: YtmjcmppbmolmnaaGreatDoorTotals.lean).
  GIVEN WITH THE SEED: the statements are not yours to turn. If you find one false, say at which input.
  Laid BY PROGRAM, IN A SANDBOX (cutbox-rows.mjs): the forced cells as the released guide's own fill.sh prints them over the translation dea84121b9de034f… (all of the seat's roots in one cut). By AI agents, Wed Nov 11 2026. No macro, syntax, notation, axiom, sorry.
-/
import Derived.Test.YtmjcmppbmolmnaaGreatDoorChecked
import GoSem.Claim
import GoSem.ClaimJoined
import GoSem.ClaimMapViews
import Derived.JoinedTies
import Derived.KernelRfl
namespace Go.Proofs.YtmjcmppbmolmnaaGreatDoor
/- THE CELL 'sum', in the pinned program and in every row, IS THE sha256 OF THE DUMP (.gsa) THAT YtmjcmppbmolmnaaGreatDoorProg.lean LOADS. Nothing in Lean hashes anything: it is a label: what it is worth is what the hold of that sum in a sandbox is worth. -/
noncomputable def Tryz.pinned : Pinned := { name := "ytmjcmppbmolmnaagreatdoor", sum := "dea84121b9de034f75e4c5b3899f32abd20502d36c06de25d8218132e0051017", checked := Tryz.checked }
namespace Rows
def none {H : Type} : Left H := { results := [], args := [] }

/- WHAT THE LISTED PACKAGE-LEVEL VARIABLES READ AS WHEN THE CALL BEGINS. Each datum BY PROGRAM (the guide's laid-datum.mjs) off the statement by which the dump's own 'gosem.cut.vars' lays the variable. In a bare row this is a premise. The card (YtmjcmppbmolmnaaGreatDoorCards.lean) ties it to the program's text. -/
def laid_math_bits_deBruijn32tab {H : Type} : DataW H := .agg [.lit (.int .u8 0), .lit (.int .u8 1), .lit (.int .u8 28), .lit (.int .u8 2), .lit (.int .u8 29), .lit (.int .u8 14), .lit (.int .u8 24), .lit (.int .u8 3), .lit (.int .u8 30), .lit (.int .u8 22), .lit (.int .u8 20), .lit (.int .u8 15), .lit (.int .u8 25), .lit (.int .u8 17), .lit (.int .u8 4), .lit (.int .u8 8), .lit (.int .u8 31), .lit (.int .u8 27), .lit (.int .u8 13), .lit (.int .u8 23), .lit (.int .u8 21), .lit (.int .u8 19), .lit (.int .u8 16), .lit (.int .u8 7), .lit (.int .u8 26), .lit (.int .u8 12), .lit (.int .u8 18), .lit (.int .u8 6), .lit (.int .u8 11), .lit (.int .u8 5), .lit (.int .u8 10), .lit (.int .u8 9)]

/-- 'cutplanelaw05.SoftFused': WHATEVER THE INPUT: true; the input reads as it did. -/
def softFusedSpec : ChangeSpec := { name := "softFused", fn := fun _ => fun
  | [d1, d2, d3] => { results := [.lit (.bool true)], args := [d1, d2, d3] }
  | _ => none }
def softFusedRow : OpenClaim := { program := "ytmjcmppbmolmnaagreatdoor", sum := "dea84121b9de034f75e4c5b3899f32abd20502d36c06de25d8218132e0051017", func := "cutplane/cutplanelaw05.SoftFused", spec := "softFused", unfollowed := true, recurses := true, named := ["math/bits.deBruijn32tab"], apart := false, laid := [("math/bits.deBruijn32tab", laid_math_bits_deBruijn32tab)] }
def SoftFusedSaid : Prop := softFusedRow.holds Tryz.pinned (OpenSpec.ofChange softFusedSpec)

/-- ITS FALSE NEIGHBOUR: 'it returns false'. Refute it at one input. -/
def softFusedWrong : ChangeSpec := { name := "softFused", fn := fun _ => fun
  | [d1, d2, d3] => { results := [.lit (.bool false)], args := [d1, d2, d3] }
  | _ => none }
def SoftFusedWrongFalsely : Prop := softFusedRow.holds Tryz.pinned (OpenSpec.ofChange softFusedWrong)

/-- 'cutplanelaw05.SoftSums': WHATEVER THE INPUT: true; the input reads as it did. -/
def softSumsSpec : ChangeSpec := { name := "softSums", fn := fun _ => fun
  | [d1, d2, d3, d4] => { results := [.lit (.bool true)], args := [d1, d2, d3, d4] }
  | _ => none }
def softSumsRow : OpenClaim := { program := "ytmjcmppbmolmnaagreatdoor", sum := "dea84121b9de034f75e4c5b3899f32abd20502d36c06de25d8218132e0051017", func := "cutplane/cutplanelaw05.SoftSums", spec := "softSums", unfollowed := true, recurses := true, named := ["math/bits.deBruijn32tab"], apart := false, laid := [("math/bits.deBruijn32tab", laid_math_bits_deBruijn32tab)] }
def SoftSumsSaid : Prop := softSumsRow.holds Tryz.pinned (OpenSpec.ofChange softSumsSpec)

/-- ITS FALSE NEIGHBOUR: 'it returns false'. Refute it at one input. -/
def softSumsWrong : ChangeSpec := { name := "softSums", fn := fun _ => fun
  | [d1, d2, d3, d4] => { results := [.lit (.bool false)], args := [d1, d2, d3, d4] }
  | _ => none }
def SoftSumsWrongFalsely : Prop := softSumsRow.holds Tryz.pinned (OpenSpec.ofChange softSumsWrong)

/-- 'cutplanelaw05.SoftProducts': WHATEVER THE INPUT: true; the input reads as it did. -/
def softProductsSpec : ChangeSpec := { name := "softProducts", fn := fun _ => fun
  | [d1, d2, d3, d4] => { results := [.lit (.bool true)], args := [d1, d2, d3, d4] }
  | _ => none }
def softProductsRow : OpenClaim := { program := "ytmjcmppbmolmnaagreatdoor", sum := "dea84121b9de034f75e4c5b3899f32abd20502d36c06de25d8218132e0051017", func := "cutplane/cutplanelaw05.SoftProducts", spec := "softProducts", unfollowed := true, recurses := true, named := ["math/bits.deBruijn32tab", "math/bits.overflowError"], apart := false, laid := [("math/bits.deBruijn32tab", laid_math_bits_deBruijn32tab)] }
def SoftProductsSaid : Prop := softProductsRow.holds Tryz.pinned (OpenSpec.ofChange softProductsSpec)

/-- ITS FALSE NEIGHBOUR: 'it returns false'. Refute it at one input. -/
def softProductsWrong : ChangeSpec := { name := "softProducts", fn := fun _ => fun
  | [d1, d2, d3, d4] => { results := [.lit (.bool false)], args := [d1, d2, d3, d4] }
  | _ => none }
def SoftProductsWrongFalsely : Prop := softProductsRow.holds Tryz.pinned (OpenSpec.ofChange softProductsWrong)

/-- 'cutplanelaw05.SoftRoots': WHATEVER THE INPUT: true; the input reads as it did. -/
def softRootsSpec : ChangeSpec := { name := "softRoots", fn := fun _ => fun
  | [d1, d2, d3] => { results := [.lit (.bool true)], args := [d1, d2, d3] }
  | _ => none }
def softRootsRow : OpenClaim := { program := "ytmjcmppbmolmnaagreatdoor", sum := "dea84121b9de034f75e4c5b3899f32abd20502d36c06de25d8218132e0051017", func := "cutplane/cutplanelaw05.SoftRoots", spec := "softRoots", unfollowed := true, recurses := true, named := ["math/bits.deBruijn32tab", "math/bits.overflowError"], apart := false, laid := [("math/bits.deBruijn32tab", laid_math_bits_deBruijn32tab)] }
def SoftRootsSaid : Prop := softRootsRow.holds Tryz.pinned (OpenSpec.ofChange softRootsSpec)

/-- ITS FALSE NEIGHBOUR: 'it returns false'. Refute it at one input. -/
def softRootsWrong : ChangeSpec := { name := "softRoots", fn := fun _ => fun
  | [d1, d2, d3] => { results := [.lit (.bool false)], args := [d1, d2, d3] }
  | _ => none }
def SoftRootsWrongFalsely : Prop := softRootsRow.holds Tryz.pinned (OpenSpec.ofChange softRootsWrong)

/-- 'cutplanelaw05.SoftNear': WHATEVER THE INPUT: true; the input reads as it did. -/
def softNearSpec : ChangeSpec := { name := "softNear", fn := fun _ => fun
  | [d1, d2, d3, d4] => { results := [.lit (.bool true)], args := [d1, d2, d3, d4] }
  | _ => none }
def softNearRow : OpenClaim := { program := "ytmjcmppbmolmnaagreatdoor", sum := "dea84121b9de034f75e4c5b3899f32abd20502d36c06de25d8218132e0051017", func := "cutplane/cutplanelaw05.SoftNear", spec := "softNear", unfollowed := true, recurses := true, named := ["math/bits.deBruijn32tab"], apart := false, laid := [("math/bits.deBruijn32tab", laid_math_bits_deBruijn32tab)] }
def SoftNearSaid : Prop := softNearRow.holds Tryz.pinned (OpenSpec.ofChange softNearSpec)

/-- ITS FALSE NEIGHBOUR: 'it returns false'. Refute it at one input. -/
def softNearWrong : ChangeSpec := { name := "softNear", fn := fun _ => fun
  | [d1, d2, d3, d4] => { results := [.lit (.bool false)], args := [d1, d2, d3, d4] }
  | _ => none }
def SoftNearWrongFalsely : Prop := softNearRow.holds Tryz.pinned (OpenSpec.ofChange softNearWrong)

/-- 'cutplanelaw13.ModulusSizes': WHATEVER THE INPUT: true; the input reads as it did. -/
def modulusSizesSpec : ChangeSpec := { name := "modulusSizes", fn := fun _ => fun
  | [d1, d2, d3] => { results := [.lit (.bool true)], args := [d1, d2, d3] }
  | _ => none }
def modulusSizesRow : OpenClaim := { program := "ytmjcmppbmolmnaagreatdoor", sum := "dea84121b9de034f75e4c5b3899f32abd20502d36c06de25d8218132e0051017", func := "cutplane/cutplanelaw13.ModulusSizes", spec := "modulusSizes", unfollowed := true, recurses := true, named := ["math/bits.deBruijn32tab", "math/bits.overflowError"], apart := false, laid := [("math/bits.deBruijn32tab", laid_math_bits_deBruijn32tab)] }
def ModulusSizesSaid : Prop := modulusSizesRow.holds Tryz.pinned (OpenSpec.ofChange modulusSizesSpec)

/-- ITS FALSE NEIGHBOUR: 'it returns false'. Refute it at one input. -/
def modulusSizesWrong : ChangeSpec := { name := "modulusSizes", fn := fun _ => fun
  | [d1, d2, d3] => { results := [.lit (.bool false)], args := [d1, d2, d3] }
  | _ => none }
def ModulusSizesWrongFalsely : Prop := modulusSizesRow.holds Tryz.pinned (OpenSpec.ofChange modulusSizesWrong)

/-- 'cutplanelaw13.ModulusOrders': WHATEVER THE INPUT: true; the input reads as it did. -/
def modulusOrdersSpec : ChangeSpec := { name := "modulusOrders", fn := fun _ => fun
  | [d1, d2, d3] => { results := [.lit (.bool true)], args := [d1, d2, d3] }
  | _ => none }
def modulusOrdersRow : OpenClaim := { program := "ytmjcmppbmolmnaagreatdoor", sum := "dea84121b9de034f75e4c5b3899f32abd20502d36c06de25d8218132e0051017", func := "cutplane/cutplanelaw13.ModulusOrders", spec := "modulusOrders", unfollowed := true, recurses := true, named := ["math/bits.deBruijn32tab", "math/bits.overflowError"], apart := false, laid := [("math/bits.deBruijn32tab", laid_math_bits_deBruijn32tab)] }
def ModulusOrdersSaid : Prop := modulusOrdersRow.holds Tryz.pinned (OpenSpec.ofChange modulusOrdersSpec)

/-- ITS FALSE NEIGHBOUR: 'it returns false'. Refute it at one input. -/
def modulusOrdersWrong : ChangeSpec := { name := "modulusOrders", fn := fun _ => fun
  | [d1, d2, d3] => { results := [.lit (.bool false)], args := [d1, d2, d3] }
  | _ => none }
def ModulusOrdersWrongFalsely : Prop := modulusOrdersRow.holds Tryz.pinned (OpenSpec.ofChange modulusOrdersWrong)

/- THE SECOND FORM. 'bulk': how many values and letters a reading holds, each counted each time it is reached (what is shared counts as often as it is met; a slice's spare places count too). A statement '..UptoSaid' is the law's where the arguments, and the package variables that the reading takes, are together of bulk at most 1048576: NARROWER than '..Said'. Prove '..Said' where nothing that the law and all that it calls make is longer than what came in: it says more and counts as full. Else prove '..UptoSaid'. A law counts once. -/
mutual
def uptoBulk {H : Type} : DataW H → Nat
  | .lit (.string bytes) => bytes.length + 1
  | .lit _ => 1
  | .nil => 1
  | .ptr d => uptoBulk d + 1
  | .slice elems spare => uptoBulkAll elems + uptoBulkAll spare + 1
  | .agg parts => uptoBulkAll parts + 1
  | .iface _ d => uptoBulk d + 1
  | .map entries => uptoBulkEntries entries + 1
  | .held _ => 1
def uptoBulkAll {H : Type} : List (DataW H) → Nat
  | [] => 0
  | d :: r => uptoBulk d + uptoBulkAll r
def uptoBulkEntries {H : Type} : List (Lit × DataW H) → Nat
  | [] => 0
  | x :: r => uptoBulkEntry x + uptoBulkEntries r
def uptoBulkEntry {H : Type} : Lit × DataW H → Nat
  | (.string bytes, d) => bytes.length + uptoBulk d + 1
  | (_, d) => uptoBulk d + 1
 end
def uptoSmall : (H : Type) → List (DataW H) → Bool := fun _ ds => decide (uptoBulkAll ds ≤ 1048576)
def OpenSpec.upto (s : _root_.Go.ChangeSpec) : _root_.Go.OpenSpec := { _root_.Go.OpenSpec.ofChange s with cond := some uptoSmall }

/-- 'cutplanelaw05.SoftFused', WHERE WHAT IT READS IS OF BULK AT MOST 1048576: true; the input reads as it did. -/
def softFusedUptoRow : OpenClaim := { program := "ytmjcmppbmolmnaagreatdoor", sum := "dea84121b9de034f75e4c5b3899f32abd20502d36c06de25d8218132e0051017", func := "cutplane/cutplanelaw05.SoftFused", spec := "softFused", unfollowed := true, recurses := true, named := ["math/bits.deBruijn32tab"], apart := false, laid := [("math/bits.deBruijn32tab", laid_math_bits_deBruijn32tab)], narrowed := true }
def SoftFusedUptoSaid : Prop := softFusedUptoRow.holds Tryz.pinned (OpenSpec.upto softFusedSpec)

/-- 'cutplanelaw05.SoftSums', WHERE WHAT IT READS IS OF BULK AT MOST 1048576: true; the input reads as it did. -/
def softSumsUptoRow : OpenClaim := { program := "ytmjcmppbmolmnaagreatdoor", sum := "dea84121b9de034f75e4c5b3899f32abd20502d36c06de25d8218132e0051017", func := "cutplane/cutplanelaw05.SoftSums", spec := "softSums", unfollowed := true, recurses := true, named := ["math/bits.deBruijn32tab"], apart := false, laid := [("math/bits.deBruijn32tab", laid_math_bits_deBruijn32tab)], narrowed := true }
def SoftSumsUptoSaid : Prop := softSumsUptoRow.holds Tryz.pinned (OpenSpec.upto softSumsSpec)

/-- 'cutplanelaw05.SoftProducts', WHERE WHAT IT READS IS OF BULK AT MOST 1048576: true; the input reads as it did. -/
def softProductsUptoRow : OpenClaim := { program := "ytmjcmppbmolmnaagreatdoor", sum := "dea84121b9de034f75e4c5b3899f32abd20502d36c06de25d8218132e0051017", func := "cutplane/cutplanelaw05.SoftProducts", spec := "softProducts", unfollowed := true, recurses := true, named := ["math/bits.deBruijn32tab", "math/bits.overflowError"], apart := false, laid := [("math/bits.deBruijn32tab", laid_math_bits_deBruijn32tab)], narrowed := true }
def SoftProductsUptoSaid : Prop := softProductsUptoRow.holds Tryz.pinned (OpenSpec.upto softProductsSpec)

/-- 'cutplanelaw05.SoftRoots', WHERE WHAT IT READS IS OF BULK AT MOST 1048576: true; the input reads as it did. -/
def softRootsUptoRow : OpenClaim := { program := "ytmjcmppbmolmnaagreatdoor", sum := "dea84121b9de034f75e4c5b3899f32abd20502d36c06de25d8218132e0051017", func := "cutplane/cutplanelaw05.SoftRoots", spec := "softRoots", unfollowed := true, recurses := true, named := ["math/bits.deBruijn32tab", "math/bits.overflowError"], apart := false, laid := [("math/bits.deBruijn32tab", laid_math_bits_deBruijn32tab)], narrowed := true }
def SoftRootsUptoSaid : Prop := softRootsUptoRow.holds Tryz.pinned (OpenSpec.upto softRootsSpec)

/-- 'cutplanelaw05.SoftNear', WHERE WHAT IT READS IS OF BULK AT MOST 1048576: true; the input reads as it did. -/
def softNearUptoRow : OpenClaim := { program := "ytmjcmppbmolmnaagreatdoor", sum := "dea84121b9de034f75e4c5b3899f32abd20502d36c06de25d8218132e0051017", func := "cutplane/cutplanelaw05.SoftNear", spec := "softNear", unfollowed := true, recurses := true, named := ["math/bits.deBruijn32tab"], apart := false, laid := [("math/bits.deBruijn32tab", laid_math_bits_deBruijn32tab)], narrowed := true }
def SoftNearUptoSaid : Prop := softNearUptoRow.holds Tryz.pinned (OpenSpec.upto softNearSpec)

/-- 'cutplanelaw13.ModulusSizes', WHERE WHAT IT READS IS OF BULK AT MOST 1048576: true; the input reads as it did. -/
def modulusSizesUptoRow : OpenClaim := { program := "ytmjcmppbmolmnaagreatdoor", sum := "dea84121b9de034f75e4c5b3899f32abd20502d36c06de25d8218132e0051017", func := "cutplane/cutplanelaw13.ModulusSizes", spec := "modulusSizes", unfollowed := true, recurses := true, named := ["math/bits.deBruijn32tab", "math/bits.overflowError"], apart := false, laid := [("math/bits.deBruijn32tab", laid_math_bits_deBruijn32tab)], narrowed := true }
def ModulusSizesUptoSaid : Prop := modulusSizesUptoRow.holds Tryz.pinned (OpenSpec.upto modulusSizesSpec)

/-- 'cutplanelaw13.ModulusOrders', WHERE WHAT IT READS IS OF BULK AT MOST 1048576: true; the input reads as it did. -/
def modulusOrdersUptoRow : OpenClaim := { program := "ytmjcmppbmolmnaagreatdoor", sum := "dea84121b9de034f75e4c5b3899f32abd20502d36c06de25d8218132e0051017", func := "cutplane/cutplanelaw13.ModulusOrders", spec := "modulusOrders", unfollowed := true, recurses := true, named := ["math/bits.deBruijn32tab", "math/bits.overflowError"], apart := false, laid := [("math/bits.deBruijn32tab", laid_math_bits_deBruijn32tab)], narrowed := true }
def ModulusOrdersUptoSaid : Prop := modulusOrdersUptoRow.holds Tryz.pinned (OpenSpec.upto modulusOrdersSpec)

end Rows
end Go.Proofs.YtmjcmppbmolmnaaGreatDoor
