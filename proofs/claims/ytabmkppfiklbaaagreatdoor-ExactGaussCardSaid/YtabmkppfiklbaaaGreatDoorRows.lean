/-
  NARROWER THAN 'FOR EVERY INPUT', by the rows' own cells (each row's printed sentence says how): ExactProducts: laid · ExactQuotients: laid · ExactBetween: laid · ExactBack: laid · ExactCommutes: laid · ExactSums: laid · ExactFused: laid · ExactGauss: laid.
  DERIVED. THE GIVEN ROWS OF THIS SEAT. 8 by the template 'for every input the law returns true; each argument reads behind the call as it read before'; 0 by the template 'total and deterministic' (their statements: YtabmkppfiklbaaaGreatDoorTotals.lean).
  GIVEN WITH THE SEED: the statements are not yours to turn. If you find one false, say at which input.
  Laid BY PROGRAM, IN A SANDBOX (cutbox-rows.mjs): the forced cells as the released guide's own fill.sh prints them over the translation 3fabc39acc12e92f… (all of the seat's roots in one cut). By AI agents, Wed Nov 11 2026. No macro, syntax, notation, axiom, sorry.
-/
import Derived.Test.YtabmkppfiklbaaaGreatDoorChecked
import GoSem.Claim
import GoSem.ClaimJoined
import GoSem.ClaimMapViews
import Derived.JoinedTies
import Derived.KernelRfl
namespace Go.Proofs.YtabmkppfiklbaaaGreatDoor
/- THE CELL 'sum', in the pinned program and in every row, IS THE sha256 OF THE DUMP (.gsa) THAT YtabmkppfiklbaaaGreatDoorProg.lean LOADS. Nothing in Lean hashes anything: it is a label: what it is worth is what the hold of that sum in a sandbox is worth. -/
noncomputable def Tryz.pinned : Pinned := { name := "ytabmkppfiklbaaagreatdoor", sum := "3fabc39acc12e92fb007590dc21984766dbcd55682f698862d67b0cbad3fd56b", checked := Tryz.checked }
namespace Rows
def none {H : Type} : Left H := { results := [], args := [] }

/- WHAT THE LISTED PACKAGE-LEVEL VARIABLES READ AS WHEN THE CALL BEGINS. Each datum BY PROGRAM (the guide's laid-datum.mjs) off the statement by which the dump's own 'gosem.cut.vars' lays the variable. In a bare row this is a premise. The card (YtabmkppfiklbaaaGreatDoorCards.lean) ties it to the program's text. -/
def laid_math_bits_deBruijn32tab {H : Type} : DataW H := .agg [.lit (.int .u8 0), .lit (.int .u8 1), .lit (.int .u8 28), .lit (.int .u8 2), .lit (.int .u8 29), .lit (.int .u8 14), .lit (.int .u8 24), .lit (.int .u8 3), .lit (.int .u8 30), .lit (.int .u8 22), .lit (.int .u8 20), .lit (.int .u8 15), .lit (.int .u8 25), .lit (.int .u8 17), .lit (.int .u8 4), .lit (.int .u8 8), .lit (.int .u8 31), .lit (.int .u8 27), .lit (.int .u8 13), .lit (.int .u8 23), .lit (.int .u8 21), .lit (.int .u8 19), .lit (.int .u8 16), .lit (.int .u8 7), .lit (.int .u8 26), .lit (.int .u8 12), .lit (.int .u8 18), .lit (.int .u8 6), .lit (.int .u8 11), .lit (.int .u8 5), .lit (.int .u8 10), .lit (.int .u8 9)]

/-- 'cutplanelaw12.ExactProducts': WHATEVER THE INPUT: true; the input reads as it did. -/
def exactProductsSpec : ChangeSpec := { name := "exactProducts", fn := fun _ => fun
  | [d1, d2, d3, d4] => { results := [.lit (.bool true)], args := [d1, d2, d3, d4] }
  | _ => none }
def exactProductsRow : OpenClaim := { program := "ytabmkppfiklbaaagreatdoor", sum := "3fabc39acc12e92fb007590dc21984766dbcd55682f698862d67b0cbad3fd56b", func := "cutplane/cutplanelaw12.ExactProducts", spec := "exactProducts", unfollowed := true, recurses := true, named := ["math/bits.deBruijn32tab", "math/bits.overflowError"], apart := false, laid := [("math/bits.deBruijn32tab", laid_math_bits_deBruijn32tab)] }
def ExactProductsSaid : Prop := exactProductsRow.holds Tryz.pinned (OpenSpec.ofChange exactProductsSpec)

/-- ITS FALSE NEIGHBOUR: 'it returns false'. Refute it at one input. -/
def exactProductsWrong : ChangeSpec := { name := "exactProducts", fn := fun _ => fun
  | [d1, d2, d3, d4] => { results := [.lit (.bool false)], args := [d1, d2, d3, d4] }
  | _ => none }
def ExactProductsWrongFalsely : Prop := exactProductsRow.holds Tryz.pinned (OpenSpec.ofChange exactProductsWrong)

/-- 'cutplanelaw12.ExactQuotients': WHATEVER THE INPUT: true; the input reads as it did. -/
def exactQuotientsSpec : ChangeSpec := { name := "exactQuotients", fn := fun _ => fun
  | [d1, d2, d3, d4] => { results := [.lit (.bool true)], args := [d1, d2, d3, d4] }
  | _ => none }
def exactQuotientsRow : OpenClaim := { program := "ytabmkppfiklbaaagreatdoor", sum := "3fabc39acc12e92fb007590dc21984766dbcd55682f698862d67b0cbad3fd56b", func := "cutplane/cutplanelaw12.ExactQuotients", spec := "exactQuotients", unfollowed := true, recurses := true, named := ["math/bits.deBruijn32tab", "math/bits.overflowError"], apart := false, laid := [("math/bits.deBruijn32tab", laid_math_bits_deBruijn32tab)] }
def ExactQuotientsSaid : Prop := exactQuotientsRow.holds Tryz.pinned (OpenSpec.ofChange exactQuotientsSpec)

/-- ITS FALSE NEIGHBOUR: 'it returns false'. Refute it at one input. -/
def exactQuotientsWrong : ChangeSpec := { name := "exactQuotients", fn := fun _ => fun
  | [d1, d2, d3, d4] => { results := [.lit (.bool false)], args := [d1, d2, d3, d4] }
  | _ => none }
def ExactQuotientsWrongFalsely : Prop := exactQuotientsRow.holds Tryz.pinned (OpenSpec.ofChange exactQuotientsWrong)

/-- 'cutplanelaw12.ExactBetween': WHATEVER THE INPUT: true; the input reads as it did. -/
def exactBetweenSpec : ChangeSpec := { name := "exactBetween", fn := fun _ => fun
  | [d1, d2, d3, d4, d5] => { results := [.lit (.bool true)], args := [d1, d2, d3, d4, d5] }
  | _ => none }
def exactBetweenRow : OpenClaim := { program := "ytabmkppfiklbaaagreatdoor", sum := "3fabc39acc12e92fb007590dc21984766dbcd55682f698862d67b0cbad3fd56b", func := "cutplane/cutplanelaw12.ExactBetween", spec := "exactBetween", unfollowed := true, recurses := true, named := ["math/bits.deBruijn32tab", "math/bits.overflowError"], apart := false, laid := [("math/bits.deBruijn32tab", laid_math_bits_deBruijn32tab)] }
def ExactBetweenSaid : Prop := exactBetweenRow.holds Tryz.pinned (OpenSpec.ofChange exactBetweenSpec)

/-- ITS FALSE NEIGHBOUR: 'it returns false'. Refute it at one input. -/
def exactBetweenWrong : ChangeSpec := { name := "exactBetween", fn := fun _ => fun
  | [d1, d2, d3, d4, d5] => { results := [.lit (.bool false)], args := [d1, d2, d3, d4, d5] }
  | _ => none }
def ExactBetweenWrongFalsely : Prop := exactBetweenRow.holds Tryz.pinned (OpenSpec.ofChange exactBetweenWrong)

/-- 'cutplanelaw12.ExactBack': WHATEVER THE INPUT: true; the input reads as it did. -/
def exactBackSpec : ChangeSpec := { name := "exactBack", fn := fun _ => fun
  | [d1, d2, d3, d4] => { results := [.lit (.bool true)], args := [d1, d2, d3, d4] }
  | _ => none }
def exactBackRow : OpenClaim := { program := "ytabmkppfiklbaaagreatdoor", sum := "3fabc39acc12e92fb007590dc21984766dbcd55682f698862d67b0cbad3fd56b", func := "cutplane/cutplanelaw12.ExactBack", spec := "exactBack", unfollowed := true, recurses := true, named := ["math/bits.deBruijn32tab", "math/bits.overflowError"], apart := false, laid := [("math/bits.deBruijn32tab", laid_math_bits_deBruijn32tab)] }
def ExactBackSaid : Prop := exactBackRow.holds Tryz.pinned (OpenSpec.ofChange exactBackSpec)

/-- ITS FALSE NEIGHBOUR: 'it returns false'. Refute it at one input. -/
def exactBackWrong : ChangeSpec := { name := "exactBack", fn := fun _ => fun
  | [d1, d2, d3, d4] => { results := [.lit (.bool false)], args := [d1, d2, d3, d4] }
  | _ => none }
def ExactBackWrongFalsely : Prop := exactBackRow.holds Tryz.pinned (OpenSpec.ofChange exactBackWrong)

/-- 'cutplanelaw12.ExactCommutes': WHATEVER THE INPUT: true; the input reads as it did. -/
def exactCommutesSpec : ChangeSpec := { name := "exactCommutes", fn := fun _ => fun
  | [d1, d2, d3, d4] => { results := [.lit (.bool true)], args := [d1, d2, d3, d4] }
  | _ => none }
def exactCommutesRow : OpenClaim := { program := "ytabmkppfiklbaaagreatdoor", sum := "3fabc39acc12e92fb007590dc21984766dbcd55682f698862d67b0cbad3fd56b", func := "cutplane/cutplanelaw12.ExactCommutes", spec := "exactCommutes", unfollowed := true, recurses := true, named := ["math/bits.deBruijn32tab", "math/bits.overflowError"], apart := false, laid := [("math/bits.deBruijn32tab", laid_math_bits_deBruijn32tab)] }
def ExactCommutesSaid : Prop := exactCommutesRow.holds Tryz.pinned (OpenSpec.ofChange exactCommutesSpec)

/-- ITS FALSE NEIGHBOUR: 'it returns false'. Refute it at one input. -/
def exactCommutesWrong : ChangeSpec := { name := "exactCommutes", fn := fun _ => fun
  | [d1, d2, d3, d4] => { results := [.lit (.bool false)], args := [d1, d2, d3, d4] }
  | _ => none }
def ExactCommutesWrongFalsely : Prop := exactCommutesRow.holds Tryz.pinned (OpenSpec.ofChange exactCommutesWrong)

/-- 'cutplanelaw12.ExactSums': WHATEVER THE INPUT: true; the input reads as it did. -/
def exactSumsSpec : ChangeSpec := { name := "exactSums", fn := fun _ => fun
  | [d1, d2, d3, d4] => { results := [.lit (.bool true)], args := [d1, d2, d3, d4] }
  | _ => none }
def exactSumsRow : OpenClaim := { program := "ytabmkppfiklbaaagreatdoor", sum := "3fabc39acc12e92fb007590dc21984766dbcd55682f698862d67b0cbad3fd56b", func := "cutplane/cutplanelaw12.ExactSums", spec := "exactSums", unfollowed := true, recurses := true, named := ["math/bits.deBruijn32tab", "math/bits.overflowError"], apart := false, laid := [("math/bits.deBruijn32tab", laid_math_bits_deBruijn32tab)] }
def ExactSumsSaid : Prop := exactSumsRow.holds Tryz.pinned (OpenSpec.ofChange exactSumsSpec)

/-- ITS FALSE NEIGHBOUR: 'it returns false'. Refute it at one input. -/
def exactSumsWrong : ChangeSpec := { name := "exactSums", fn := fun _ => fun
  | [d1, d2, d3, d4] => { results := [.lit (.bool false)], args := [d1, d2, d3, d4] }
  | _ => none }
def ExactSumsWrongFalsely : Prop := exactSumsRow.holds Tryz.pinned (OpenSpec.ofChange exactSumsWrong)

/-- 'cutplanelaw12.ExactFused': WHATEVER THE INPUT: true; the input reads as it did. -/
def exactFusedSpec : ChangeSpec := { name := "exactFused", fn := fun _ => fun
  | [d1, d2, d3] => { results := [.lit (.bool true)], args := [d1, d2, d3] }
  | _ => none }
def exactFusedRow : OpenClaim := { program := "ytabmkppfiklbaaagreatdoor", sum := "3fabc39acc12e92fb007590dc21984766dbcd55682f698862d67b0cbad3fd56b", func := "cutplane/cutplanelaw12.ExactFused", spec := "exactFused", unfollowed := true, recurses := true, named := ["math/bits.deBruijn32tab", "math/bits.overflowError"], apart := false, laid := [("math/bits.deBruijn32tab", laid_math_bits_deBruijn32tab)] }
def ExactFusedSaid : Prop := exactFusedRow.holds Tryz.pinned (OpenSpec.ofChange exactFusedSpec)

/-- ITS FALSE NEIGHBOUR: 'it returns false'. Refute it at one input. -/
def exactFusedWrong : ChangeSpec := { name := "exactFused", fn := fun _ => fun
  | [d1, d2, d3] => { results := [.lit (.bool false)], args := [d1, d2, d3] }
  | _ => none }
def ExactFusedWrongFalsely : Prop := exactFusedRow.holds Tryz.pinned (OpenSpec.ofChange exactFusedWrong)

/-- 'cutplanelaw12.ExactGauss': WHATEVER THE INPUT: true; the input reads as it did. -/
def exactGaussSpec : ChangeSpec := { name := "exactGauss", fn := fun _ => fun
  | [d1, d2, d3] => { results := [.lit (.bool true)], args := [d1, d2, d3] }
  | _ => none }
def exactGaussRow : OpenClaim := { program := "ytabmkppfiklbaaagreatdoor", sum := "3fabc39acc12e92fb007590dc21984766dbcd55682f698862d67b0cbad3fd56b", func := "cutplane/cutplanelaw12.ExactGauss", spec := "exactGauss", unfollowed := true, recurses := true, named := ["math/bits.deBruijn32tab", "math/bits.overflowError"], apart := false, laid := [("math/bits.deBruijn32tab", laid_math_bits_deBruijn32tab)] }
def ExactGaussSaid : Prop := exactGaussRow.holds Tryz.pinned (OpenSpec.ofChange exactGaussSpec)

/-- ITS FALSE NEIGHBOUR: 'it returns false'. Refute it at one input. -/
def exactGaussWrong : ChangeSpec := { name := "exactGauss", fn := fun _ => fun
  | [d1, d2, d3] => { results := [.lit (.bool false)], args := [d1, d2, d3] }
  | _ => none }
def ExactGaussWrongFalsely : Prop := exactGaussRow.holds Tryz.pinned (OpenSpec.ofChange exactGaussWrong)

/- THE SECOND FORM. 'bulk': how many values and letters a reading holds, each counted each time it is reached (what is shared counts as often as it is met; a slice's spare places count too). A statement '..UptoSaid' is the law's where the arguments, and the package variables that the reading takes, are together of bulk at most 1048576: NARROWER than '..Said'. Prove '..Said' where nothing that the law and all that it calls make is longer than what came in: it says more and counts as full. Else prove '..UptoSaid'. A law counts once. -/
mutual
def uptoBulk {H : Type} : DataW H → Nat
  | .lit (.string bytes) => bytes.length + 1
  | .lit _ => 1
  | .nil => 1
  | .ptr d => uptoBulk d + 1
  | .slice elems spare => uptoBulkAll elems + uptoBulkAll spare + 1
  | .agg parts => uptoBulkAll parts + 1
  | .iface _ d => uptoBulk d + 1
  | .map entries => uptoBulkEntries entries + 1
  | .held _ => 1
def uptoBulkAll {H : Type} : List (DataW H) → Nat
  | [] => 0
  | d :: r => uptoBulk d + uptoBulkAll r
def uptoBulkEntries {H : Type} : List (Lit × DataW H) → Nat
  | [] => 0
  | x :: r => uptoBulkEntry x + uptoBulkEntries r
def uptoBulkEntry {H : Type} : Lit × DataW H → Nat
  | (.string bytes, d) => bytes.length + uptoBulk d + 1
  | (_, d) => uptoBulk d + 1
 end
def uptoSmall : (H : Type) → List (DataW H) → Bool := fun _ ds => decide (uptoBulkAll ds ≤ 1048576)
def OpenSpec.upto (s : _root_.Go.ChangeSpec) : _root_.Go.OpenSpec := { _root_.Go.OpenSpec.ofChange s with cond := some uptoSmall }

/-- 'cutplanelaw12.ExactProducts', WHERE WHAT IT READS IS OF BULK AT MOST 1048576: true; the input reads as it did. -/
def exactProductsUptoRow : OpenClaim := { program := "ytabmkppfiklbaaagreatdoor", sum := "3fabc39acc12e92fb007590dc21984766dbcd55682f698862d67b0cbad3fd56b", func := "cutplane/cutplanelaw12.ExactProducts", spec := "exactProducts", unfollowed := true, recurses := true, named := ["math/bits.deBruijn32tab", "math/bits.overflowError"], apart := false, laid := [("math/bits.deBruijn32tab", laid_math_bits_deBruijn32tab)], narrowed := true }
def ExactProductsUptoSaid : Prop := exactProductsUptoRow.holds Tryz.pinned (OpenSpec.upto exactProductsSpec)

/-- 'cutplanelaw12.ExactQuotients', WHERE WHAT IT READS IS OF BULK AT MOST 1048576: true; the input reads as it did. -/
def exactQuotientsUptoRow : OpenClaim := { program := "ytabmkppfiklbaaagreatdoor", sum := "3fabc39acc12e92fb007590dc21984766dbcd55682f698862d67b0cbad3fd56b", func := "cutplane/cutplanelaw12.ExactQuotients", spec := "exactQuotients", unfollowed := true, recurses := true, named := ["math/bits.deBruijn32tab", "math/bits.overflowError"], apart := false, laid := [("math/bits.deBruijn32tab", laid_math_bits_deBruijn32tab)], narrowed := true }
def ExactQuotientsUptoSaid : Prop := exactQuotientsUptoRow.holds Tryz.pinned (OpenSpec.upto exactQuotientsSpec)

/-- 'cutplanelaw12.ExactBetween', WHERE WHAT IT READS IS OF BULK AT MOST 1048576: true; the input reads as it did. -/
def exactBetweenUptoRow : OpenClaim := { program := "ytabmkppfiklbaaagreatdoor", sum := "3fabc39acc12e92fb007590dc21984766dbcd55682f698862d67b0cbad3fd56b", func := "cutplane/cutplanelaw12.ExactBetween", spec := "exactBetween", unfollowed := true, recurses := true, named := ["math/bits.deBruijn32tab", "math/bits.overflowError"], apart := false, laid := [("math/bits.deBruijn32tab", laid_math_bits_deBruijn32tab)], narrowed := true }
def ExactBetweenUptoSaid : Prop := exactBetweenUptoRow.holds Tryz.pinned (OpenSpec.upto exactBetweenSpec)

/-- 'cutplanelaw12.ExactBack', WHERE WHAT IT READS IS OF BULK AT MOST 1048576: true; the input reads as it did. -/
def exactBackUptoRow : OpenClaim := { program := "ytabmkppfiklbaaagreatdoor", sum := "3fabc39acc12e92fb007590dc21984766dbcd55682f698862d67b0cbad3fd56b", func := "cutplane/cutplanelaw12.ExactBack", spec := "exactBack", unfollowed := true, recurses := true, named := ["math/bits.deBruijn32tab", "math/bits.overflowError"], apart := false, laid := [("math/bits.deBruijn32tab", laid_math_bits_deBruijn32tab)], narrowed := true }
def ExactBackUptoSaid : Prop := exactBackUptoRow.holds Tryz.pinned (OpenSpec.upto exactBackSpec)

/-- 'cutplanelaw12.ExactCommutes', WHERE WHAT IT READS IS OF BULK AT MOST 1048576: true; the input reads as it did. -/
def exactCommutesUptoRow : OpenClaim := { program := "ytabmkppfiklbaaagreatdoor", sum := "3fabc39acc12e92fb007590dc21984766dbcd55682f698862d67b0cbad3fd56b", func := "cutplane/cutplanelaw12.ExactCommutes", spec := "exactCommutes", unfollowed := true, recurses := true, named := ["math/bits.deBruijn32tab", "math/bits.overflowError"], apart := false, laid := [("math/bits.deBruijn32tab", laid_math_bits_deBruijn32tab)], narrowed := true }
def ExactCommutesUptoSaid : Prop := exactCommutesUptoRow.holds Tryz.pinned (OpenSpec.upto exactCommutesSpec)

/-- 'cutplanelaw12.ExactSums', WHERE WHAT IT READS IS OF BULK AT MOST 1048576: true; the input reads as it did. -/
def exactSumsUptoRow : OpenClaim := { program := "ytabmkppfiklbaaagreatdoor", sum := "3fabc39acc12e92fb007590dc21984766dbcd55682f698862d67b0cbad3fd56b", func := "cutplane/cutplanelaw12.ExactSums", spec := "exactSums", unfollowed := true, recurses := true, named := ["math/bits.deBruijn32tab", "math/bits.overflowError"], apart := false, laid := [("math/bits.deBruijn32tab", laid_math_bits_deBruijn32tab)], narrowed := true }
def ExactSumsUptoSaid : Prop := exactSumsUptoRow.holds Tryz.pinned (OpenSpec.upto exactSumsSpec)

/-- 'cutplanelaw12.ExactFused', WHERE WHAT IT READS IS OF BULK AT MOST 1048576: true; the input reads as it did. -/
def exactFusedUptoRow : OpenClaim := { program := "ytabmkppfiklbaaagreatdoor", sum := "3fabc39acc12e92fb007590dc21984766dbcd55682f698862d67b0cbad3fd56b", func := "cutplane/cutplanelaw12.ExactFused", spec := "exactFused", unfollowed := true, recurses := true, named := ["math/bits.deBruijn32tab", "math/bits.overflowError"], apart := false, laid := [("math/bits.deBruijn32tab", laid_math_bits_deBruijn32tab)], narrowed := true }
def ExactFusedUptoSaid : Prop := exactFusedUptoRow.holds Tryz.pinned (OpenSpec.upto exactFusedSpec)

/-- 'cutplanelaw12.ExactGauss', WHERE WHAT IT READS IS OF BULK AT MOST 1048576: true; the input reads as it did. -/
def exactGaussUptoRow : OpenClaim := { program := "ytabmkppfiklbaaagreatdoor", sum := "3fabc39acc12e92fb007590dc21984766dbcd55682f698862d67b0cbad3fd56b", func := "cutplane/cutplanelaw12.ExactGauss", spec := "exactGauss", unfollowed := true, recurses := true, named := ["math/bits.deBruijn32tab", "math/bits.overflowError"], apart := false, laid := [("math/bits.deBruijn32tab", laid_math_bits_deBruijn32tab)], narrowed := true }
def ExactGaussUptoSaid : Prop := exactGaussUptoRow.holds Tryz.pinned (OpenSpec.upto exactGaussSpec)

end Rows
end Go.Proofs.YtabmkppfiklbaaaGreatDoor
