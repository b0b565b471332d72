/-
  NARROWER THAN 'FOR EVERY INPUT', by the rows' own cells (each row's printed sentence says how): RoundBetween: laid · RoundNearest: laid · RoundOrder: laid · RoundMirror: laid · RoundSquares: laid.
  DERIVED. THE GIVEN ROWS OF THIS SEAT. 5 by the template 'for every input the law returns true; each argument reads behind the call as it read before'; 0 by the template 'total and deterministic' (their statements: YthhmfdmdhbbehaaDoorTotals.lean).
  GIVEN WITH THE SEED: the statements are not yours to turn. If you find one false, say at which input.
  Laid BY PROGRAM, IN A SANDBOX (cutbox-rows.mjs): the forced cells as the released guide's own fill.sh prints them over the translation 8792bf9e08b7a3d1… (all of the seat's roots in one cut). By AI agents, Wed Nov 11 2026. No macro, syntax, notation, axiom, sorry.
-/
import Derived.Test.YthhmfdmdhbbehaaDoorChecked
import GoSem.Claim
import GoSem.ClaimJoined
import GoSem.ClaimMapViews
import Derived.JoinedTies
import Derived.KernelRfl
namespace Go.Proofs.YthhmfdmdhbbehaaDoor
/- THE CELL 'sum', in the pinned program and in every row, IS THE sha256 OF THE DUMP (.gsa) THAT YthhmfdmdhbbehaaDoorProg.lean LOADS. Nothing in Lean hashes anything: it is a label: what it is worth is what the hold of that sum in a sandbox is worth. -/
noncomputable def Tryd.pinned : Pinned := { name := "ythhmfdmdhbbehaadoor", sum := "8792bf9e08b7a3d1f4221a0075d51249a8ed94e1ccd0166caa5c7fd8333c2501", checked := Tryd.checked }
namespace Rows
def none {H : Type} : Left H := { results := [], args := [] }

/- WHAT THE LISTED PACKAGE-LEVEL VARIABLES READ AS WHEN THE CALL BEGINS. Each datum BY PROGRAM (the guide's laid-datum.mjs) off the statement by which the dump's own 'gosem.cut.vars' lays the variable. In a bare row this is a premise. The card (YthhmfdmdhbbehaaDoorCards.lean) ties it to the program's text. -/
def laid_math_bits_deBruijn32tab {H : Type} : DataW H := .agg [.lit (.int .u8 0), .lit (.int .u8 1), .lit (.int .u8 28), .lit (.int .u8 2), .lit (.int .u8 29), .lit (.int .u8 14), .lit (.int .u8 24), .lit (.int .u8 3), .lit (.int .u8 30), .lit (.int .u8 22), .lit (.int .u8 20), .lit (.int .u8 15), .lit (.int .u8 25), .lit (.int .u8 17), .lit (.int .u8 4), .lit (.int .u8 8), .lit (.int .u8 31), .lit (.int .u8 27), .lit (.int .u8 13), .lit (.int .u8 23), .lit (.int .u8 21), .lit (.int .u8 19), .lit (.int .u8 16), .lit (.int .u8 7), .lit (.int .u8 26), .lit (.int .u8 12), .lit (.int .u8 18), .lit (.int .u8 6), .lit (.int .u8 11), .lit (.int .u8 5), .lit (.int .u8 10), .lit (.int .u8 9)]

/-- 'cutplanelaw04.RoundBetween': WHATEVER THE INPUT: true; the input reads as it did. -/
def roundBetweenSpec : ChangeSpec := { name := "roundBetween", fn := fun _ => fun
  | [d1, d2, d3] => { results := [.lit (.bool true)], args := [d1, d2, d3] }
  | _ => none }
def roundBetweenRow : OpenClaim := { program := "ythhmfdmdhbbehaadoor", sum := "8792bf9e08b7a3d1f4221a0075d51249a8ed94e1ccd0166caa5c7fd8333c2501", func := "cutplane/cutplanelaw04.RoundBetween", spec := "roundBetween", unfollowed := true, recurses := true, named := ["math/bits.deBruijn32tab", "math/bits.overflowError"], apart := false, laid := [("math/bits.deBruijn32tab", laid_math_bits_deBruijn32tab)] }
def RoundBetweenSaid : Prop := roundBetweenRow.holds Tryd.pinned (OpenSpec.ofChange roundBetweenSpec)

/-- ITS FALSE NEIGHBOUR: 'it returns false'. Refute it at one input. -/
def roundBetweenWrong : ChangeSpec := { name := "roundBetween", fn := fun _ => fun
  | [d1, d2, d3] => { results := [.lit (.bool false)], args := [d1, d2, d3] }
  | _ => none }
def RoundBetweenWrongFalsely : Prop := roundBetweenRow.holds Tryd.pinned (OpenSpec.ofChange roundBetweenWrong)

/-- 'cutplanelaw04.RoundNearest': WHATEVER THE INPUT: true; the input reads as it did. -/
def roundNearestSpec : ChangeSpec := { name := "roundNearest", fn := fun _ => fun
  | [d1, d2, d3] => { results := [.lit (.bool true)], args := [d1, d2, d3] }
  | _ => none }
def roundNearestRow : OpenClaim := { program := "ythhmfdmdhbbehaadoor", sum := "8792bf9e08b7a3d1f4221a0075d51249a8ed94e1ccd0166caa5c7fd8333c2501", func := "cutplane/cutplanelaw04.RoundNearest", spec := "roundNearest", unfollowed := true, recurses := true, named := ["math/bits.deBruijn32tab", "math/bits.overflowError"], apart := false, laid := [("math/bits.deBruijn32tab", laid_math_bits_deBruijn32tab)] }
def RoundNearestSaid : Prop := roundNearestRow.holds Tryd.pinned (OpenSpec.ofChange roundNearestSpec)

/-- ITS FALSE NEIGHBOUR: 'it returns false'. Refute it at one input. -/
def roundNearestWrong : ChangeSpec := { name := "roundNearest", fn := fun _ => fun
  | [d1, d2, d3] => { results := [.lit (.bool false)], args := [d1, d2, d3] }
  | _ => none }
def RoundNearestWrongFalsely : Prop := roundNearestRow.holds Tryd.pinned (OpenSpec.ofChange roundNearestWrong)

/-- 'cutplanelaw04.RoundOrder': WHATEVER THE INPUT: true; the input reads as it did. -/
def roundOrderSpec : ChangeSpec := { name := "roundOrder", fn := fun _ => fun
  | [d1, d2, d3, d4] => { results := [.lit (.bool true)], args := [d1, d2, d3, d4] }
  | _ => none }
def roundOrderRow : OpenClaim := { program := "ythhmfdmdhbbehaadoor", sum := "8792bf9e08b7a3d1f4221a0075d51249a8ed94e1ccd0166caa5c7fd8333c2501", func := "cutplane/cutplanelaw04.RoundOrder", spec := "roundOrder", unfollowed := true, recurses := true, named := ["math/bits.deBruijn32tab", "math/bits.overflowError"], apart := false, laid := [("math/bits.deBruijn32tab", laid_math_bits_deBruijn32tab)] }
def RoundOrderSaid : Prop := roundOrderRow.holds Tryd.pinned (OpenSpec.ofChange roundOrderSpec)

/-- ITS FALSE NEIGHBOUR: 'it returns false'. Refute it at one input. -/
def roundOrderWrong : ChangeSpec := { name := "roundOrder", fn := fun _ => fun
  | [d1, d2, d3, d4] => { results := [.lit (.bool false)], args := [d1, d2, d3, d4] }
  | _ => none }
def RoundOrderWrongFalsely : Prop := roundOrderRow.holds Tryd.pinned (OpenSpec.ofChange roundOrderWrong)

/-- 'cutplanelaw04.RoundMirror': WHATEVER THE INPUT: true; the input reads as it did. -/
def roundMirrorSpec : ChangeSpec := { name := "roundMirror", fn := fun _ => fun
  | [d1, d2, d3, d4] => { results := [.lit (.bool true)], args := [d1, d2, d3, d4] }
  | _ => none }
def roundMirrorRow : OpenClaim := { program := "ythhmfdmdhbbehaadoor", sum := "8792bf9e08b7a3d1f4221a0075d51249a8ed94e1ccd0166caa5c7fd8333c2501", func := "cutplane/cutplanelaw04.RoundMirror", spec := "roundMirror", unfollowed := true, recurses := true, named := ["math/bits.deBruijn32tab", "math/bits.overflowError"], apart := false, laid := [("math/bits.deBruijn32tab", laid_math_bits_deBruijn32tab)] }
def RoundMirrorSaid : Prop := roundMirrorRow.holds Tryd.pinned (OpenSpec.ofChange roundMirrorSpec)

/-- ITS FALSE NEIGHBOUR: 'it returns false'. Refute it at one input. -/
def roundMirrorWrong : ChangeSpec := { name := "roundMirror", fn := fun _ => fun
  | [d1, d2, d3, d4] => { results := [.lit (.bool false)], args := [d1, d2, d3, d4] }
  | _ => none }
def RoundMirrorWrongFalsely : Prop := roundMirrorRow.holds Tryd.pinned (OpenSpec.ofChange roundMirrorWrong)

/-- 'cutplanelaw04.RoundSquares': WHATEVER THE INPUT: true; the input reads as it did. -/
def roundSquaresSpec : ChangeSpec := { name := "roundSquares", fn := fun _ => fun
  | [d1, d2, d3, d4] => { results := [.lit (.bool true)], args := [d1, d2, d3, d4] }
  | _ => none }
def roundSquaresRow : OpenClaim := { program := "ythhmfdmdhbbehaadoor", sum := "8792bf9e08b7a3d1f4221a0075d51249a8ed94e1ccd0166caa5c7fd8333c2501", func := "cutplane/cutplanelaw04.RoundSquares", spec := "roundSquares", unfollowed := true, recurses := true, named := ["math/bits.deBruijn32tab", "math/bits.overflowError"], apart := false, laid := [("math/bits.deBruijn32tab", laid_math_bits_deBruijn32tab)] }
def RoundSquaresSaid : Prop := roundSquaresRow.holds Tryd.pinned (OpenSpec.ofChange roundSquaresSpec)

/-- ITS FALSE NEIGHBOUR: 'it returns false'. Refute it at one input. -/
def roundSquaresWrong : ChangeSpec := { name := "roundSquares", fn := fun _ => fun
  | [d1, d2, d3, d4] => { results := [.lit (.bool false)], args := [d1, d2, d3, d4] }
  | _ => none }
def RoundSquaresWrongFalsely : Prop := roundSquaresRow.holds Tryd.pinned (OpenSpec.ofChange roundSquaresWrong)

/- THE SECOND FORM. 'bulk': how many values and letters a reading holds, each counted each time it is reached (what is shared counts as often as it is met; a slice's spare places count too). A statement '..UptoSaid' is the law's where the arguments, and the package variables that the reading takes, are together of bulk at most 1048576: NARROWER than '..Said'. Prove '..Said' where nothing that the law and all that it calls make is longer than what came in: it says more and counts as full. Else prove '..UptoSaid'. A law counts once. -/
mutual
def uptoBulk {H : Type} : DataW H → Nat
  | .lit (.string bytes) => bytes.length + 1
  | .lit _ => 1
  | .nil => 1
  | .ptr d => uptoBulk d + 1
  | .slice elems spare => uptoBulkAll elems + uptoBulkAll spare + 1
  | .agg parts => uptoBulkAll parts + 1
  | .iface _ d => uptoBulk d + 1
  | .map entries => uptoBulkEntries entries + 1
  | .held _ => 1
def uptoBulkAll {H : Type} : List (DataW H) → Nat
  | [] => 0
  | d :: r => uptoBulk d + uptoBulkAll r
def uptoBulkEntries {H : Type} : List (Lit × DataW H) → Nat
  | [] => 0
  | x :: r => uptoBulkEntry x + uptoBulkEntries r
def uptoBulkEntry {H : Type} : Lit × DataW H → Nat
  | (.string bytes, d) => bytes.length + uptoBulk d + 1
  | (_, d) => uptoBulk d + 1
 end
def uptoSmall : (H : Type) → List (DataW H) → Bool := fun _ ds => decide (uptoBulkAll ds ≤ 1048576)
def OpenSpec.upto (s : _root_.Go.ChangeSpec) : _root_.Go.OpenSpec := { _root_.Go.OpenSpec.ofChange s with cond := some uptoSmall }

/-- 'cutplanelaw04.RoundBetween', WHERE WHAT IT READS IS OF BULK AT MOST 1048576: true; the input reads as it did. -/
def roundBetweenUptoRow : OpenClaim := { program := "ythhmfdmdhbbehaadoor", sum := "8792bf9e08b7a3d1f4221a0075d51249a8ed94e1ccd0166caa5c7fd8333c2501", func := "cutplane/cutplanelaw04.RoundBetween", spec := "roundBetween", unfollowed := true, recurses := true, named := ["math/bits.deBruijn32tab", "math/bits.overflowError"], apart := false, laid := [("math/bits.deBruijn32tab", laid_math_bits_deBruijn32tab)], narrowed := true }
def RoundBetweenUptoSaid : Prop := roundBetweenUptoRow.holds Tryd.pinned (OpenSpec.upto roundBetweenSpec)

/-- 'cutplanelaw04.RoundNearest', WHERE WHAT IT READS IS OF BULK AT MOST 1048576: true; the input reads as it did. -/
def roundNearestUptoRow : OpenClaim := { program := "ythhmfdmdhbbehaadoor", sum := "8792bf9e08b7a3d1f4221a0075d51249a8ed94e1ccd0166caa5c7fd8333c2501", func := "cutplane/cutplanelaw04.RoundNearest", spec := "roundNearest", unfollowed := true, recurses := true, named := ["math/bits.deBruijn32tab", "math/bits.overflowError"], apart := false, laid := [("math/bits.deBruijn32tab", laid_math_bits_deBruijn32tab)], narrowed := true }
def RoundNearestUptoSaid : Prop := roundNearestUptoRow.holds Tryd.pinned (OpenSpec.upto roundNearestSpec)

/-- 'cutplanelaw04.RoundOrder', WHERE WHAT IT READS IS OF BULK AT MOST 1048576: true; the input reads as it did. -/
def roundOrderUptoRow : OpenClaim := { program := "ythhmfdmdhbbehaadoor", sum := "8792bf9e08b7a3d1f4221a0075d51249a8ed94e1ccd0166caa5c7fd8333c2501", func := "cutplane/cutplanelaw04.RoundOrder", spec := "roundOrder", unfollowed := true, recurses := true, named := ["math/bits.deBruijn32tab", "math/bits.overflowError"], apart := false, laid := [("math/bits.deBruijn32tab", laid_math_bits_deBruijn32tab)], narrowed := true }
def RoundOrderUptoSaid : Prop := roundOrderUptoRow.holds Tryd.pinned (OpenSpec.upto roundOrderSpec)

/-- 'cutplanelaw04.RoundMirror', WHERE WHAT IT READS IS OF BULK AT MOST 1048576: true; the input reads as it did. -/
def roundMirrorUptoRow : OpenClaim := { program := "ythhmfdmdhbbehaadoor", sum := "8792bf9e08b7a3d1f4221a0075d51249a8ed94e1ccd0166caa5c7fd8333c2501", func := "cutplane/cutplanelaw04.RoundMirror", spec := "roundMirror", unfollowed := true, recurses := true, named := ["math/bits.deBruijn32tab", "math/bits.overflowError"], apart := false, laid := [("math/bits.deBruijn32tab", laid_math_bits_deBruijn32tab)], narrowed := true }
def RoundMirrorUptoSaid : Prop := roundMirrorUptoRow.holds Tryd.pinned (OpenSpec.upto roundMirrorSpec)

/-- 'cutplanelaw04.RoundSquares', WHERE WHAT IT READS IS OF BULK AT MOST 1048576: true; the input reads as it did. -/
def roundSquaresUptoRow : OpenClaim := { program := "ythhmfdmdhbbehaadoor", sum := "8792bf9e08b7a3d1f4221a0075d51249a8ed94e1ccd0166caa5c7fd8333c2501", func := "cutplane/cutplanelaw04.RoundSquares", spec := "roundSquares", unfollowed := true, recurses := true, named := ["math/bits.deBruijn32tab", "math/bits.overflowError"], apart := false, laid := [("math/bits.deBruijn32tab", laid_math_bits_deBruijn32tab)], narrowed := true }
def RoundSquaresUptoSaid : Prop := roundSquaresUptoRow.holds Tryd.pinned (OpenSpec.upto roundSquaresSpec)

end Rows
end Go.Proofs.YthhmfdmdhbbehaaDoor
