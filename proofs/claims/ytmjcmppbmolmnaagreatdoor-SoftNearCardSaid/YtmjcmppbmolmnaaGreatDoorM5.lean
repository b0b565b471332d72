/-
  A part of the proof of the statements of this seat (texts that the law's own text leans on): no condition.
-/
import Derived.Test.YtmjcmppbmolmnaaGreatDoorM4
import Derived.Test.YtmjcmppbmolmnaaGreatDoorM3
set_option linter.unusedVariables false
set_option linter.unusedSimpArgs false
/-
  Formats and words: the small functions.
-/
namespace Go.Cv
variable {G : Nat → Option (List AV)} {T : Tbl} {g : Nat}

/-- The two formats. -/
inductive Fm where
  | s | d
  deriving DecidableEq
def Fm.u : Fm → Int | .s => 1 | .d => 2
def Fm.fr : Fm → Nat | .s => 23 | .d => 52
def Fm.low : Fm → Int | .s => -149 | .d => -1074
def Fm.wide : Fm → Int | .s => 128 | .d => 1024
def Fm.most : Fm → Nat | .s => 255 | .d => 2047
def Fm.sg : Fm → Nat | .s => 2147483648 | .d => 9223372036854775808
theorem fm_of {f : Int} (h : f = 1 ∨ f = 2) : ∃ F : Fm, f = F.u := by
  rcases h with rfl | rfl
  · exact ⟨.s, rfl⟩
  · exact ⟨.d, rfl⟩

theorem ref03_Is (hT : HasD g T) {f : Int} : run G T 27 [.int .u8 f] = some (.bool (decide (f = 1 ∨ f = 2))) := by
  rw [run_k G T hT.ref03_Is]
  repeat' (first | (simp (maxSteps := 1000000) only [evB, if_true, if_false, ne_eq, Nat.reduceEqDiff, Nat.reduceAdd, reduceCtorEq, Int.reduceLE, Int.reduceLT, Int.reduceEq, Int.reduceNeg, Int.reduceToNat, Int.reducePow, Int.reduceMod, Int.reduceDiv, Int.reduceSub, Int.reduceAdd, Int.reduceMul, Nat.reduceMul, Nat.reduceSub, Nat.reducePow, exB, resC_ptr, res_cell, nilb, nilf, faddr_p, c_ref03_Is]) | (simp (maxSteps := 1000000) (disch := first | with_reducible assumption | omega) only [dxB]) | (simp only [kI_d, kG_dt, kG_df]; split) | (simp only [kI_v, kG_vt, kG_vf]; split))
  all_goals simp_all
theorem ref03_Frac (hT : HasD g T) (F : Fm) : run G T 31 [.int .u8 F.u] = some (.int .i64 (F.fr : Int)) := by
  rw [run_k G T hT.ref03_Frac]
  cases F <;> (simp only [Fm.u, Fm.fr]; repeat' (first | (simp (maxSteps := 1000000) only [evB, if_true, if_false, ne_eq, Nat.reduceEqDiff, Nat.reduceAdd, reduceCtorEq, Int.reduceLE, Int.reduceLT, Int.reduceEq, Int.reduceNeg, Int.reduceToNat, Int.reducePow, Int.reduceMod, Int.reduceDiv, Int.reduceSub, Int.reduceAdd, Int.reduceMul, Nat.reduceMul, Nat.reduceSub, Nat.reducePow, exB, resC_ptr, res_cell, nilb, nilf, faddr_p, c_ref03_Frac]) | (simp (maxSteps := 1000000) (disch := first | with_reducible assumption | omega) only [dxB]) | (simp only [kI_d, kG_dt, kG_df]; split) | (simp only [kI_v, kG_vt, kG_vf]; split)))
theorem ref03_Low (hT : HasD g T) (F : Fm) : run G T 33 [.int .u8 F.u] = some (.int .i64 F.low) := by
  rw [run_k G T hT.ref03_Low]
  cases F <;> (simp only [Fm.u, Fm.low]; repeat' (first | (simp (maxSteps := 1000000) only [evB, if_true, if_false, ne_eq, Nat.reduceEqDiff, Nat.reduceAdd, reduceCtorEq, Int.reduceLE, Int.reduceLT, Int.reduceEq, Int.reduceNeg, Int.reduceToNat, Int.reducePow, Int.reduceMod, Int.reduceDiv, Int.reduceSub, Int.reduceAdd, Int.reduceMul, Nat.reduceMul, Nat.reduceSub, Nat.reducePow, exB, resC_ptr, res_cell, nilb, nilf, faddr_p, c_ref03_Low]) | (simp (maxSteps := 1000000) (disch := first | with_reducible assumption | omega) only [dxB]) | (simp only [kI_d, kG_dt, kG_df]; split) | (simp only [kI_v, kG_vt, kG_vf]; split)))
theorem ref03_Most (hT : HasD g T) (F : Fm) : run G T 63 [.int .u8 F.u] = some (.int .i64 (F.most : Int)) := by
  rw [run_k G T hT.ref03_Most]
  cases F <;> (simp only [Fm.u, Fm.most]; repeat' (first | (simp (maxSteps := 1000000) only [evB, if_true, if_false, ne_eq, Nat.reduceEqDiff, Nat.reduceAdd, reduceCtorEq, Int.reduceLE, Int.reduceLT, Int.reduceEq, Int.reduceNeg, Int.reduceToNat, Int.reducePow, Int.reduceMod, Int.reduceDiv, Int.reduceSub, Int.reduceAdd, Int.reduceMul, Nat.reduceMul, Nat.reduceSub, Nat.reducePow, exB, resC_ptr, res_cell, nilb, nilf, faddr_p, c_ref03_Most]) | (simp (maxSteps := 1000000) (disch := first | with_reducible assumption | omega) only [dxB]) | (simp only [kI_d, kG_dt, kG_df]; split) | (simp only [kI_v, kG_vt, kG_vf]; split)))
theorem ref03_Sign (hT : HasD g T) (F : Fm) : run G T 73 [.int .u8 F.u] = some (.int .u64 (F.sg : Int)) := by
  rw [run_k G T hT.ref03_Sign]
  cases F <;> (simp only [Fm.u, Fm.sg]; repeat' (first | (simp (maxSteps := 1000000) only [evB, if_true, if_false, ne_eq, Nat.reduceEqDiff, Nat.reduceAdd, reduceCtorEq, Int.reduceLE, Int.reduceLT, Int.reduceEq, Int.reduceNeg, Int.reduceToNat, Int.reducePow, Int.reduceMod, Int.reduceDiv, Int.reduceSub, Int.reduceAdd, Int.reduceMul, Nat.reduceMul, Nat.reduceSub, Nat.reducePow, exB, resC_ptr, res_cell, nilb, nilf, faddr_p, c_ref03_Sign]) | (simp (maxSteps := 1000000) (disch := first | with_reducible assumption | omega) only [dxB]) | (simp only [kI_d, kG_dt, kG_df]; split) | (simp only [kI_v, kG_vt, kG_vf]; split)))

/-- A word's sign bit. -/
def Fm.sgn (F : Fm) (n : Bool) : Nat := if n then F.sg else 0
def fldA (n : Bool) (x w : Int) : AV := .agg [.bool n, .int .i64 x, .int .u64 w]

/-- The infinite word. -/
def Fm.inf (F : Fm) (n : Bool) : Nat := F.most * 2 ^ F.fr + F.sgn n
end Go.Cv

/-
  Words: the program's shapes, named words.
-/
namespace Go.Cv
variable {G : Nat → Option (List AV)} {T : Tbl} {g : Nat}

/-- A format's shape. -/
def shA (F : Fm) : AV := .agg [.int .i64 (F.fr : Int), .int .i64 (F.most : Int), .int .u64 (F.sg : Int)]
theorem or64z {x : Int} (h : 0 ≤ x ∧ x < 18446744073709551616) : orI .u64 0 x = x := by
  obtain ⟨n, rfl⟩ := Int.eq_ofNat_of_zero_le h.1
  have := or64 (a := 0) (b := n) (by decide) (by omega)
  rw [cast0] at this; rw [this]; simp
theorem or64_31 {x : Int} (h : 0 ≤ x ∧ x < 2147483648) : orI .u64 x 2147483648 = x + 2147483648 := by
  obtain ⟨n, rfl⟩ := Int.eq_ofNat_of_zero_le h.1
  have := or64 (a := n) (b := 2147483648) (by omega) (by decide)
  rw [Int.cast_ofNat_Int] at this; rw [this]
  have e := or_add (c := n) (x := 1) (s := 31) (by omega)
  rw [Nat.one_mul] at e
  rw [show (2147483648 : Nat) = 2 ^ 31 from rfl, e]; omega
theorem or64_63 {x : Int} (h : 0 ≤ x ∧ x < 9223372036854775808) : orI .u64 x 9223372036854775808 = x + 9223372036854775808 := by
  obtain ⟨n, rfl⟩ := Int.eq_ofNat_of_zero_le h.1
  have := or64 (a := n) (b := 9223372036854775808) (by omega) (by decide)
  rw [Int.cast_ofNat_Int] at this; rw [this]
  have e := or_add (c := n) (x := 1) (s := 63) (by omega)
  rw [Nat.one_mul] at e
  rw [show (9223372036854775808 : Nat) = 2 ^ 63 from rfl, e]; omega

theorem word_shapeOf (hT : HasD g T) (F : Fm) : run G T 115 [.int .u8 F.u] = some (.tup [shA F, .bool true]) := by
  rw [run_k G T hT.word_shapeOf]
  cases F <;> (simp only [shA, Fm.u, Fm.fr, Fm.most, Fm.sg, Int.cast_ofNat_Int]; repeat' (first | (simp (maxSteps := 1000000) only [evB, if_true, if_false, ne_eq, Nat.reduceEqDiff, Nat.reduceAdd, reduceCtorEq, Int.reduceLE, Int.reduceLT, Int.reduceEq, Int.reduceNeg, Int.reduceToNat, Int.reducePow, Int.reduceMod, Int.reduceDiv, Int.reduceSub, Int.reduceAdd, Int.reduceMul, Nat.reduceMul, Nat.reduceSub, Nat.reducePow, exB, resC_ptr, res_cell, nilb, nilf, faddr_p, c_word_shapeOf]) | (simp (maxSteps := 1000000) (disch := first | with_reducible assumption | omega) only [dxB]) | (simp only [kI_d, kG_dt, kG_df]; split) | (simp only [kI_v, kG_vt, kG_vf]; split)))
theorem word_open0 (hT : HasD g T) (F : Fm) : run G T 95 [.int .u8 F.u, .nil] = some (.tup [shA F, .int .i64 0]) := by
  rw [run_k G T hT.word_open]
  have h1 := word_shapeOf (G := G) hT F
  have hl : ∀ (e : Env) (h : Heap), evL G T c_word_open_l1 e h = kS G T (evL G T c_word_open_b1 (keepE [4, 6, 18, 19, 20] e) h) c_word_open_l1 := fun e h => s_loopc G T (c := c_word_open_l1) rfl e h
  simp only [shA] at *
  repeat' (first | (simp (maxSteps := 1000000) only [evB, if_true, if_false, ne_eq, Nat.reduceEqDiff, Nat.reduceAdd, reduceCtorEq, Int.reduceLE, Int.reduceLT, Int.reduceEq, Int.reduceNeg, Int.reduceToNat, Int.reducePow, Int.reduceMod, Int.reduceDiv, Int.reduceSub, Int.reduceAdd, Int.reduceMul, Nat.reduceMul, Nat.reduceSub, Nat.reducePow, exB, resC_ptr, res_cell, nilb, nilf, faddr_p, c_word_open, h1, hl, c_word_open_b1]) | (simp (maxSteps := 1000000) (disch := first | with_reducible assumption | omega) only [dxB]) | (simp only [kI_d, kG_dt, kG_df]; split) | (simp only [kI_v, kG_vt, kG_vf]; split))
theorem word_inf (hT : HasD g T) (F : Fm) : run G T 60 [shA F] = some (.int .u64 ((F.most * 2 ^ F.fr : Nat) : Int)) := by
  rw [run_k G T hT.word_shape_inf]
  cases F <;> (simp only [shA, Fm.u, Fm.fr, Fm.most, Fm.sg, Int.cast_ofNat_Int]; repeat' (first | (simp (maxSteps := 1000000) only [evB, if_true, if_false, ne_eq, Nat.reduceEqDiff, Nat.reduceAdd, reduceCtorEq, Int.reduceLE, Int.reduceLT, Int.reduceEq, Int.reduceNeg, Int.reduceToNat, Int.reducePow, Int.reduceMod, Int.reduceDiv, Int.reduceSub, Int.reduceAdd, Int.reduceMul, Nat.reduceMul, Nat.reduceSub, Nat.reducePow, exB, resC_ptr, res_cell, nilb, nilf, faddr_p, c_word_shape_inf]) | (simp (maxSteps := 1000000) (disch := first | with_reducible assumption | omega) only [dxB]) | (simp only [kI_d, kG_dt, kG_df]; split) | (simp only [kI_v, kG_vt, kG_vf]; split)))
theorem word_low (hT : HasD g T) (F : Fm) : run G T 96 [shA F] = some (.int .i64 F.low) := by
  rw [run_k G T hT.word_shape_low]
  cases F <;> (simp only [shA, Fm.u, Fm.fr, Fm.most, Fm.sg, Fm.low, Int.cast_ofNat_Int]; repeat' (first | (simp (maxSteps := 1000000) only [evB, if_true, if_false, ne_eq, Nat.reduceEqDiff, Nat.reduceAdd, reduceCtorEq, Int.reduceLE, Int.reduceLT, Int.reduceEq, Int.reduceNeg, Int.reduceToNat, Int.reducePow, Int.reduceMod, Int.reduceDiv, Int.reduceSub, Int.reduceAdd, Int.reduceMul, Nat.reduceMul, Nat.reduceSub, Nat.reducePow, exB, resC_ptr, res_cell, nilb, nilf, faddr_p, c_word_shape_low]) | (simp (maxSteps := 1000000) (disch := first | with_reducible assumption | omega) only [dxB]) | (simp only [kI_d, kG_dt, kG_df]; split) | (simp only [kI_v, kG_vt, kG_vf]; split)))
theorem word_join0 (hT : HasD g T) (F : Fm) {n : Bool} {w : Nat} (hw : w < F.sg) :
    run G T 97 [shA F, fldA n 0 w] = some (.int .u64 ((w + F.sgn n : Nat) : Int)) := by
  rw [run_k G T hT.word_shape_join]
  cases F <;> cases n <;> (
    simp only [shA, Fm.u, Fm.fr, Fm.sg, Fm.most, fldA, Fm.sgn, Int.cast_ofNat_Int] at *
    repeat' (first | (simp (maxSteps := 1000000) only [evB, if_true, if_false, ne_eq, Nat.reduceEqDiff, Nat.reduceAdd, reduceCtorEq, Int.reduceLE, Int.reduceLT, Int.reduceEq, Int.reduceNeg, Int.reduceToNat, Int.reducePow, Int.reduceMod, Int.reduceDiv, Int.reduceSub, Int.reduceAdd, Int.reduceMul, Nat.reduceMul, Nat.reduceSub, Nat.reducePow, exB, resC_ptr, res_cell, nilb, nilf, faddr_p, c_word_shape_join ]) | (simp (maxSteps := 1000000) (disch := first | with_reducible assumption | omega) only [dxB,  or64z, or64_31, or64_63]) | (simp only [kI_d, kG_dt, kG_df]; split) | (simp only [kI_v, kG_vt, kG_vf]; split))
    all_goals (refine some_int ?_; try simp))
theorem word_zero1 (hT : HasD g T) (F : Fm) : run G T 98 [shA F] = some (.int .u64 0) := by
  rw [run_k G T hT.word_Zero_1]
  simp only [shA]; repeat' (first | (simp (maxSteps := 1000000) only [evB, if_true, if_false, ne_eq, Nat.reduceEqDiff, Nat.reduceAdd, reduceCtorEq, Int.reduceLE, Int.reduceLT, Int.reduceEq, Int.reduceNeg, Int.reduceToNat, Int.reducePow, Int.reduceMod, Int.reduceDiv, Int.reduceSub, Int.reduceAdd, Int.reduceMul, Nat.reduceMul, Nat.reduceSub, Nat.reducePow, exB, resC_ptr, res_cell, nilb, nilf, faddr_p, c_word_Zero_1]) | (simp (maxSteps := 1000000) (disch := first | with_reducible assumption | omega) only [dxB]) | (simp only [kI_d, kG_dt, kG_df]; split) | (simp only [kI_v, kG_vt, kG_vf]; split))
theorem word_greatest1 (hT : HasD g T) (F : Fm) : run G T 59 [shA F] = some (.int .u64 ((F.most * 2 ^ F.fr - 1 : Nat) : Int)) := by
  rw [run_k G T hT.word_Greatest_1]
  have h := word_inf (G := G) hT F
  cases F <;> (simp only [shA, Fm.u, Fm.fr, Fm.most, Fm.sg, Int.cast_ofNat_Int, Nat.reducePow, Nat.reduceMul] at *; repeat' (first | (simp (maxSteps := 1000000) only [evB, if_true, if_false, ne_eq, Nat.reduceEqDiff, Nat.reduceAdd, reduceCtorEq, Int.reduceLE, Int.reduceLT, Int.reduceEq, Int.reduceNeg, Int.reduceToNat, Int.reducePow, Int.reduceMod, Int.reduceDiv, Int.reduceSub, Int.reduceAdd, Int.reduceMul, Nat.reduceMul, Nat.reduceSub, Nat.reducePow, exB, resC_ptr, res_cell, nilb, nilf, faddr_p, c_word_Greatest_1, h]) | (simp (maxSteps := 1000000) (disch := first | with_reducible assumption | omega) only [dxB]) | (simp only [kI_d, kG_dt, kG_df]; split) | (simp only [kI_v, kG_vt, kG_vf]; split)))

theorem word_named (hT : HasD g T) (F : Fm) {n : Bool} {k x : Nat} (hk : run G T k [shA F] = some (.int .u64 (x : Int))) (hx : x < F.sg) :
    run G T 58 [.int .u8 F.u, .bool n, .fn k []] = some (.tup [.int .u64 ((x + F.sgn n : Nat) : Int), .int .i64 0]) := by
  rw [run_k G T hT.word_named]
  have h1 := word_open0 (G := G) hT F
  cases F <;> cases n <;> (
    simp only [shA, Fm.u, Fm.fr, Fm.sg, Fm.most, Fm.sgn, Int.cast_ofNat_Int] at *
    repeat' (first | (simp (maxSteps := 1000000) only [evB, if_true, if_false, ne_eq, Nat.reduceEqDiff, Nat.reduceAdd, reduceCtorEq, Int.reduceLE, Int.reduceLT, Int.reduceEq, Int.reduceNeg, Int.reduceToNat, Int.reducePow, Int.reduceMod, Int.reduceDiv, Int.reduceSub, Int.reduceAdd, Int.reduceMul, Nat.reduceMul, Nat.reduceSub, Nat.reducePow, exB, resC_ptr, res_cell, nilb, nilf, faddr_p, c_word_named, h1, hk ]) | (simp (maxSteps := 1000000) (disch := first | with_reducible assumption | omega) only [dxB,  or64_31, or64_63]) | (simp only [kI_d, kG_dt, kG_df]; split) | (simp only [kI_v, kG_vt, kG_vf]; split))
    all_goals (refine congrArg (fun x : Int => some (AV.tup [.int .u64 x, .int .i64 0])) ?_; try simp))
theorem word_Zero (hT : HasD g T) (F : Fm) {n : Bool} : run G T 57 [.int .u8 F.u, .bool n] = some (.tup [.int .u64 ((F.sgn n : Nat) : Int), .int .i64 0]) := by
  rw [run_k G T hT.word_Zero]
  have h := word_named (G := G) hT F (n := n) (k := 98) (x := 0) (word_zero1 hT F) (by cases F <;> decide)
  rw [Nat.zero_add] at h
  repeat' (first | (simp (maxSteps := 1000000) only [evB, if_true, if_false, ne_eq, Nat.reduceEqDiff, Nat.reduceAdd, reduceCtorEq, Int.reduceLE, Int.reduceLT, Int.reduceEq, Int.reduceNeg, Int.reduceToNat, Int.reducePow, Int.reduceMod, Int.reduceDiv, Int.reduceSub, Int.reduceAdd, Int.reduceMul, Nat.reduceMul, Nat.reduceSub, Nat.reducePow, exB, resC_ptr, res_cell, nilb, nilf, faddr_p, c_word_Zero, h]) | (simp (maxSteps := 1000000) (disch := first | with_reducible assumption | omega) only [dxB]) | (simp only [kI_d, kG_dt, kG_df]; split) | (simp only [kI_v, kG_vt, kG_vf]; split))
theorem word_Inf (hT : HasD g T) (F : Fm) {n : Bool} : run G T 26 [.int .u8 F.u, .bool n] = some (.tup [.int .u64 ((F.inf n : Nat) : Int), .int .i64 0]) := by
  rw [run_k G T hT.word_Inf]
  have h := word_named (G := G) hT F (n := n) (k := 60) (word_inf hT F) (by cases F <;> decide)
  repeat' (first | (simp (maxSteps := 1000000) only [evB, if_true, if_false, ne_eq, Nat.reduceEqDiff, Nat.reduceAdd, reduceCtorEq, Int.reduceLE, Int.reduceLT, Int.reduceEq, Int.reduceNeg, Int.reduceToNat, Int.reducePow, Int.reduceMod, Int.reduceDiv, Int.reduceSub, Int.reduceAdd, Int.reduceMul, Nat.reduceMul, Nat.reduceSub, Nat.reducePow, exB, resC_ptr, res_cell, nilb, nilf, faddr_p, c_word_Inf, h]) | (simp (maxSteps := 1000000) (disch := first | with_reducible assumption | omega) only [dxB]) | (simp only [kI_d, kG_dt, kG_df]; split) | (simp only [kI_v, kG_vt, kG_vf]; split))
  rfl
theorem word_Greatest (hT : HasD g T) (F : Fm) {n : Bool} : run G T 25 [.int .u8 F.u, .bool n] = some (.tup [.int .u64 ((F.inf n - 1 : Nat) : Int), .int .i64 0]) := by
  rw [run_k G T hT.word_Greatest]
  have h := word_named (G := G) hT F (n := n) (k := 59) (word_greatest1 hT F) (by cases F <;> decide)
  repeat' (first | (simp (maxSteps := 1000000) only [evB, if_true, if_false, ne_eq, Nat.reduceEqDiff, Nat.reduceAdd, reduceCtorEq, Int.reduceLE, Int.reduceLT, Int.reduceEq, Int.reduceNeg, Int.reduceToNat, Int.reducePow, Int.reduceMod, Int.reduceDiv, Int.reduceSub, Int.reduceAdd, Int.reduceMul, Nat.reduceMul, Nat.reduceSub, Nat.reducePow, exB, resC_ptr, res_cell, nilb, nilf, faddr_p, c_word_Greatest, h]) | (simp (maxSteps := 1000000) (disch := first | with_reducible assumption | omega) only [dxB]) | (simp only [kI_d, kG_dt, kG_df]; split) | (simp only [kI_v, kG_vt, kG_vf]; split))
  cases F <;> cases n <;> rfl
end Go.Cv

/-
  The word that has a value.
-/
namespace Go.Cv
variable {G : Nat → Option (List AV)} {T : Tbl} {g : Nat}

/-- The unit of a value. -/
def Fm.unit (F : Fm) (d : Dy) : Int := max (d.e + blen d.m - F.fr - 1) F.low
/-- May a word have that value? -/
def Fm.fits (F : Fm) (d : Dy) : Prop := d.m ≠ 0 ∧ blen d.m ≤ F.fr + 1 ∧ F.low ≤ d.e ∧ d.e + blen d.m ≤ F.wide
/-- So many units of 2^u, as a word's size. -/
def Fm.enc (F : Fm) (n : Nat) (u : Int) : Nat := (u - F.low).toNat * 2 ^ F.fr + n

theorem fits_len {F : Fm} {d : Dy} (h : F.fits d) : F.unit d ≤ d.e ∧ F.low ≤ F.unit d ∧ blen (d.m * 2 ^ (d.e - F.unit d).toNat) ≤ F.fr + 1 ∧ (F.unit d = F.low ∨ 2 ^ F.fr ≤ d.m * 2 ^ (d.e - F.unit d).toNat) ∧ (F.unit d - F.low).toNat + 1 < F.most := by
  obtain ⟨h0, h1, h2, h3⟩ := h
  have e1 : F.unit d ≤ d.e := by unfold Fm.unit; omega
  have e2 : F.low ≤ F.unit d := by unfold Fm.unit; omega
  have hb := blen_mul h0 (d.e - F.unit d).toNat
  refine ⟨e1, e2, ?_, ?_, ?_⟩
  · rw [hb]; unfold Fm.unit at *; omega
  · by_cases hu : F.unit d = F.low
    · exact Or.inl hu
    · right
      apply lt_blen.1
      rw [hb]; unfold Fm.unit at *; omega
  · cases F <;> simp only [Fm.unit, Fm.fr, Fm.low, Fm.wide, Fm.most] at * <;> omega

theorem enc_lt {F : Fm} {d : Dy} (h : F.fits d) : F.enc (d.m * 2 ^ (d.e - F.unit d).toNat) (F.unit d) < F.most * 2 ^ F.fr := by
  obtain ⟨h1, h2, h3, h4, h5⟩ := fits_len h
  have := blen_le.1 h3
  rw [Nat.pow_succ] at this
  unfold Fm.enc
  have h6 : ((F.unit d - F.low).toNat + 2) * 2 ^ F.fr ≤ F.most * 2 ^ F.fr := Nat.mul_le_mul_right _ (by omega)
  rw [Nat.add_mul] at h6
  omega

theorem min_to {k : Int} {n : Nat} (h : k.toNat ≤ n) : min k.toNat n = k.toNat := Nat.min_eq_left h
theorem shl_u64 {m : Nat} {k : Int} (hk : k.toNat ≤ 64) (h : m * 2 ^ k.toNat < 18446744073709551616) : IntKind.u64.wrap ((m : Int) * 2 ^ (min k.toNat 64)) = ((m * 2 ^ k.toNat : Nat) : Int) := by
  rw [min_to hk, pow_cast, ← Int.natCast_mul, wrap_u64]
  omega

theorem word_Of (hA : HasA g T) (hC : HasC g T) (hT : HasD g T) (F : Fm) {z : Bool} {d : Dy} (hm : mayD d.n (dl d.m) d.e = true) (hf : F.fits d) :
    run G T 56 [.int .u8 F.u, DyA z d] = some (.tup [.int .u64 ((F.enc (d.m * 2 ^ (d.e - F.unit d).toNat) (F.unit d) + F.sgn d.n : Nat) : Int), .int .i64 0]) := by
  rw [run_k G T hT.word_Of]
  have hl := fits_len hf
  have he := enc_lt hf
  obtain ⟨n, m, e⟩ := d
  obtain ⟨hf0, hf1, hf2, hf3⟩ := hf
  obtain ⟨hl1, hl2, hl3, hl4, hl5⟩ := hl
  simp only at *
  have hmb := blen_le.1 hf1
  have h1 := word_open0 (G := G) hT F
  have h2 := dyad_May (G := G) hA hC n z (Dg_dl m) e
  rw [hm] at h2
  have m64 : m < 18446744073709551616 := Nat.lt_of_lt_of_le hmb (by cases F <;> decide)
  have h3 := nat_Num (G := G) (T := T) hA (z := z) m64
  have h4 := bits_Len64 (G := G) (T := T) hA m64
  have h5 := word_low (G := G) hT F
  have hx := blen_le.1 hl3
  have hb64 : F.most * 2 ^ F.fr ≤ F.sg := by cases F <;> decide
  have h6 := word_join0 (G := G) hT F (n := n) (w := F.enc (m * 2 ^ (e - F.unit ⟨n, m, e⟩).toNat) (F.unit ⟨n, m, e⟩)) (by omega)
  have hu : max (e + blen m - F.fr - 1) F.low = F.unit ⟨n, m, e⟩ := rfl
  have hw1 : e ≤ 1024 := by cases F <;> simp only [Fm.wide] at hf3 <;> omega
  generalize hU : F.unit ⟨n, m, e⟩ = u at *
  have hX : m * 2 ^ (e - u).toNat < 18446744073709551616 := Nat.lt_of_lt_of_le hx (by cases F <;> decide)
  have hs := fun (hk : (e - u).toNat ≤ 64) => shl_u64 hk hX
  generalize m * 2 ^ (e - u).toNat = X at *
  have hne : ¬ (m : Int) = 0 := by omega
  cases F
  · simp only [Fm.u, Fm.fr, Fm.sg, Fm.most, Fm.low, Fm.wide, Fm.enc, shA, fldA, DyA, A3, Int.cast_ofNat_Int, Nat.reducePow] at *
    have hs' := hs (by omega)
    rw [wrap_u64] at hs'
    have hW : ((u - -149) % 18446744073709551616 * 8388608 % 18446744073709551616 + X) % 18446744073709551616 = (((u - -149).toNat * 8388608 + X : Nat) : Int) := by omega
    repeat' (first | (simp (maxSteps := 1000000) only [evB, if_true, if_false, ne_eq, Nat.reduceEqDiff, Nat.reduceAdd, reduceCtorEq, Int.reduceLE, Int.reduceLT, Int.reduceEq, Int.reduceNeg, Int.reduceToNat, Int.reducePow, Int.reduceMod, Int.reduceDiv, Int.reduceSub, Int.reduceAdd, Int.reduceMul, Nat.reduceMul, Nat.reduceSub, Nat.reducePow, exB, resC_ptr, res_cell, nilb, nilf, faddr_p, c_word_Of, h1, h2, h3, h4, h5, hu, hs', hW, h6 ]) | (simp (maxSteps := 1000000) (disch := first | with_reducible assumption | omega) only [dxB,  hu]) | (simp only [kI_d, kG_dt, kG_df]; split) | (simp only [kI_v, kG_vt, kG_vf]; split))
  · simp only [Fm.u, Fm.fr, Fm.sg, Fm.most, Fm.low, Fm.wide, Fm.enc, shA, fldA, DyA, A3, Int.cast_ofNat_Int, Nat.reducePow] at *
    have hs' := hs (by omega)
    rw [wrap_u64] at hs'
    have hW : ((u - -1074) % 18446744073709551616 * 4503599627370496 % 18446744073709551616 + X) % 18446744073709551616 = (((u - -1074).toNat * 4503599627370496 + X : Nat) : Int) := by omega
    repeat' (first | (simp (maxSteps := 1000000) only [evB, if_true, if_false, ne_eq, Nat.reduceEqDiff, Nat.reduceAdd, reduceCtorEq, Int.reduceLE, Int.reduceLT, Int.reduceEq, Int.reduceNeg, Int.reduceToNat, Int.reducePow, Int.reduceMod, Int.reduceDiv, Int.reduceSub, Int.reduceAdd, Int.reduceMul, Nat.reduceMul, Nat.reduceSub, Nat.reducePow, exB, resC_ptr, res_cell, nilb, nilf, faddr_p, c_word_Of, h1, h2, h3, h4, h5, hu, hs', hW, h6 ]) | (simp (maxSteps := 1000000) (disch := first | with_reducible assumption | omega) only [dxB,  hu]) | (simp only [kI_d, kG_dt, kG_df]; split) | (simp only [kI_v, kG_vt, kG_vf]; split))

theorem word_Of_zero (hA : HasA g T) (hC : HasC g T) (hT : HasD g T) (F : Fm) {z : Bool} : run G T 56 [.int .u8 F.u, DyA z ⟨false, 0, 0⟩] = some (.tup [.int .u64 0, .int .i64 0]) := by
  rw [run_k G T hT.word_Of]
  have h1 := word_open0 (G := G) hT F
  have h2 := dyad_May (G := G) hA hC false z (Dg_dl 0) 0
  rw [show mayD false (dl 0) 0 = true by rw [dl_zero]; rfl] at h2
  have h3 := nat_Num (G := G) (T := T) hA (z := z) (a := 0) (by decide)
  have h4 := bits_Len64 (G := G) (T := T) hA (x := 0) (by decide)
  rw [blen_zero] at h4
  cases F <;> (
    simp only [shA, DyA, A3, cast0, Fm.u, Fm.fr, Fm.sg, Fm.most, Int.cast_ofNat_Int] at *
    repeat' (first | (simp (maxSteps := 1000000) only [evB, if_true, if_false, ne_eq, Nat.reduceEqDiff, Nat.reduceAdd, reduceCtorEq, Int.reduceLE, Int.reduceLT, Int.reduceEq, Int.reduceNeg, Int.reduceToNat, Int.reducePow, Int.reduceMod, Int.reduceDiv, Int.reduceSub, Int.reduceAdd, Int.reduceMul, Nat.reduceMul, Nat.reduceSub, Nat.reducePow, exB, resC_ptr, res_cell, nilb, nilf, faddr_p, c_word_Of, h1, h2, h3, h4]) | (simp (maxSteps := 1000000) (disch := first | with_reducible assumption | omega) only [dxB]) | (simp only [kI_d, kG_dt, kG_df]; split) | (simp only [kI_v, kG_vt, kG_vf]; split)))
end Go.Cv

/-
  The word that has a value: the document's.
-/
namespace Go.Cv
variable {G : Nat → Option (List AV)} {T : Tbl} {g : Nat}

end Go.Cv

/-
  Rounding, in numbers: how many units, and whether that is exact.
-/
namespace Go.Cv

/-- Does a size go up? -/
def upB (md : Int) (neg odd half more : Bool) : Bool :=
  if md = 1 then half && (more || odd) else if md = 2 then half else if md = 4 then !neg && (half || more) else if md = 5 then neg && (half || more) else false

def halfN (M k : Nat) : Bool := decide (M / 2 ^ (k - 1) % 2 = 1)
def moreN (M : Nat) (s : Bool) (k : Nat) : Bool := s || decide (M % 2 ^ (k - 1) ≠ 0)

/-- M, of which k bits lie below the unit; s: there is something behind them. -/
def rdN (md : Int) (neg : Bool) (M : Nat) (s : Bool) (k : Nat) : Nat × Bool :=
  (M / 2 ^ k + (upB md neg (decide (M / 2 ^ k % 2 = 1)) (halfN M k) (moreN M s k)).toNat, !halfN M k && !moreN M s k)

/-- M times 2^E, in units of 2^u. -/
def rnd (md : Int) (neg : Bool) (M : Nat) (E u : Int) : Nat × Bool :=
  if u ≤ E then (M * 2 ^ (E - u).toNat, true) else rdN md neg M false (u - E).toNat

theorem mod_mod_pow (M j k : Nat) : (M % 2 ^ (j + k) = 0) ↔ (M % 2 ^ j = 0 ∧ M / 2 ^ j % 2 ^ k = 0) := by
  rw [Nat.pow_add, Nat.mod_mul]
  have hp : 0 < 2 ^ j := Nat.two_pow_pos j
  constructor
  · intro h
    have h1 : M % 2 ^ j = 0 := by omega
    refine ⟨h1, ?_⟩
    rw [h1, Nat.zero_add] at h
    rcases Nat.mul_eq_zero.1 h with h2 | h2
    · omega
    · exact h2
  · rintro ⟨h1, h2⟩; rw [h1, h2]; rfl

theorem rdN_shift (md : Int) (neg : Bool) (M : Nat) (s : Bool) (j k : Nat) (hk : 0 < k) :
    rdN md neg (M / 2 ^ j) (s || decide (M % 2 ^ j ≠ 0)) k = rdN md neg M s (j + k) := by
  obtain ⟨i, rfl⟩ : ∃ i, k = i + 1 := ⟨k - 1, by omega⟩
  have e1 : ∀ i, M / 2 ^ j / 2 ^ i = M / 2 ^ (j + i) := fun i => by rw [Nat.div_div_eq_div_mul, ← Nat.pow_add]
  have e2 : halfN (M / 2 ^ j) (i + 1) = halfN M (j + (i + 1)) := by
    simp only [halfN, e1]
    rw [show j + (i + 1 - 1) = j + (i + 1) - 1 by omega]
  have e3 : moreN (M / 2 ^ j) (s || decide (M % 2 ^ j ≠ 0)) (i + 1) = moreN M s (j + (i + 1)) := by
    simp only [moreN]
    rw [show j + (i + 1) - 1 = j + i by omega, show i + 1 - 1 = i by omega, Bool.or_assoc]
    congr 1
    have := mod_mod_pow M j i
    rw [Bool.eq_iff_iff]
    simp only [Bool.or_eq_true, decide_eq_true_eq, ne_eq, this]
    by_cases h : M % 2 ^ j = 0 <;> simp [h]
  simp only [rdN, e1, e2, e3]

theorem div_pow_mul {M j k : Nat} (h : k ≤ j) : M * 2 ^ j / 2 ^ k = M * 2 ^ (j - k) := by
  obtain ⟨i, rfl⟩ : ∃ i, j = k + i := ⟨j - k, by omega⟩
  rw [Nat.pow_add, Nat.mul_comm (2 ^ k), ← Nat.mul_assoc, Nat.mul_div_cancel _ (Nat.two_pow_pos k), show k + i - k = i by omega]
theorem mod_pow_mul {M j k : Nat} (h : k ≤ j) : M * 2 ^ j % 2 ^ k = 0 := by
  obtain ⟨i, rfl⟩ : ∃ i, j = k + i := ⟨j - k, by omega⟩
  rw [Nat.pow_add, Nat.mul_comm (2 ^ k), ← Nat.mul_assoc]; exact Nat.mul_mod_left ..
theorem div_pow_mul2 {M j k : Nat} (h : j ≤ k) : M * 2 ^ j / 2 ^ k = M / 2 ^ (k - j) := by
  obtain ⟨i, rfl⟩ : ∃ i, k = j + i := ⟨k - j, by omega⟩
  rw [Nat.pow_add, ← Nat.div_div_eq_div_mul, Nat.mul_div_cancel _ (Nat.two_pow_pos j), show j + i - j = i by omega]
theorem mod_pow_mul2 {M j k : Nat} (h : j ≤ k) : M * 2 ^ j % 2 ^ k = M % 2 ^ (k - j) * 2 ^ j := by
  obtain ⟨i, rfl⟩ : ∃ i, k = j + i := ⟨k - j, by omega⟩
  rw [Nat.pow_add, Nat.mul_comm (2 ^ j), Nat.mul_mod_mul_right, show j + i - j = i by omega]

theorem rdN_up (md : Int) (neg : Bool) (M j k : Nat) (hk : 0 < k) :
    rdN md neg (M * 2 ^ j) false k = if k ≤ j then (M * 2 ^ (j - k), true) else rdN md neg M false (k - j) := by
  obtain ⟨i, rfl⟩ : ∃ i, k = i + 1 := ⟨k - 1, by omega⟩
  by_cases h : i + 1 ≤ j
  · rw [if_pos h]
    have e1 : halfN (M * 2 ^ j) (i + 1) = false := by
      simp only [halfN, Nat.add_sub_cancel]
      rw [div_pow_mul (by omega), show j - i = (j - i - 1) + 1 by omega, Nat.pow_succ, ← Nat.mul_assoc, Nat.mul_mod_left]; rfl
    have e2 : moreN (M * 2 ^ j) false (i + 1) = false := by
      simp only [moreN, Nat.add_sub_cancel, Bool.false_or]
      rw [mod_pow_mul (by omega)]; rfl
    have e3 : ∀ a b, upB md a b false false = false := by intro a b; simp [upB]
    simp only [rdN, e1, e2, e3, div_pow_mul h]; rfl
  · rw [if_neg h]
    have e1 : halfN (M * 2 ^ j) (i + 1) = halfN M (i + 1 - j) := by
      simp only [halfN]
      rw [div_pow_mul2 (by omega), show i + 1 - 1 - j = i + 1 - j - 1 by omega]
    have e2 : moreN (M * 2 ^ j) false (i + 1) = moreN M false (i + 1 - j) := by
      simp only [moreN, Bool.false_or]
      rw [mod_pow_mul2 (by omega), show i + 1 - 1 - j = i + 1 - j - 1 by omega]
      have hp := Nat.two_pow_pos j
      congr 1
      apply propext
      constructor
      · intro h1 h2; apply h1; rw [h2, Nat.zero_mul]
      · intro h1 h2
        rcases Nat.mul_eq_zero.1 h2 with h3 | h3
        · exact h1 h3
        · omega
    simp only [rdN, e1, e2, div_pow_mul2 (show j ≤ i + 1 by omega)]

/-- The first 64 bits, and whether there is something behind them: units of a number. -/
theorem rdN_part (md : Int) (neg : Bool) {M : Nat} (hM : M ≠ 0) (E u : Int) (hu : E + blen M - 64 < u) :
    rdN md neg (if blen M ≤ 64 then M * 2 ^ (64 - blen M) else M / 2 ^ (blen M - 64)) (if blen M ≤ 64 then false else decide (M % 2 ^ (blen M - 64) ≠ 0)) (u - (E + blen M) + 64).toNat = rnd md neg M E u := by
  by_cases h : blen M ≤ 64
  · rw [if_pos h, if_pos h, rdN_up _ _ _ _ _ (by omega)]
    unfold rnd
    by_cases h2 : u ≤ E
    · rw [if_pos h2, if_pos (by omega), show 64 - blen M - (u - (E + blen M) + 64).toNat = (E - u).toNat by omega]
    · rw [if_neg h2, if_neg (by omega), show (u - (E + blen M) + 64).toNat - (64 - blen M) = (u - E).toNat by omega]
  · rw [if_neg h, if_neg h]
    have := rdN_shift md neg M false (blen M - 64) (u - (E + blen M) + 64).toNat (by omega)
    rw [Bool.false_or] at this
    rw [this]
    unfold rnd
    rw [if_neg (by omega), show blen M - 64 + (u - (E + blen M) + 64).toNat = (u - E).toNat by omega]

/-! ### the word, and the flags -/
def ovr (F : Fm) (md : Int) (neg : Bool) : Nat := if md = 3 ∨ (md = 4 ∧ neg = true) ∨ (md = 5 ∧ neg = false) then F.inf neg - 1 else F.inf neg
/-- Of so many units of 2^e (n; exact or not), the size's top, and the units that there would be without a least exponent. -/
def wordOf (F : Fm) (md : Int) (neg : Bool) (n : Nat) (ex : Bool) (e top : Int) (fine : Nat) : Nat × Nat :=
  if F.wide < blen n + e then (ovr F md neg, 20)
  else (F.enc n e + F.sgn neg, if ex then 0 else if blen fine + (top - F.fr - 1) < F.low + F.fr + 1 then 24 else 16)
def Fm.eOf (F : Fm) (top : Int) : Int := max (top - F.fr - 1) F.low
def rndW (F : Fm) (md : Int) (d : Dy) : Nat × Nat :=
  if d.m = 0 then (0, 0) else
  let top := d.e + blen d.m
  let r := rnd md d.n d.m d.e (F.eOf top)
  wordOf F md d.n r.1 r.2 (F.eOf top) top (rnd md d.n d.m d.e (top - F.fr - 1)).1
end Go.Cv

/-
  Rounding: formats, what is asked first, the first bits of a number.
-/
namespace Go.Cv
variable {G : Nat → Option (List AV)} {T : Tbl} {g : Nat}

def fmA (F : Fm) : AV := .agg [.int .i64 ((F.fr : Int) + 1), .int .i64 F.low, .int .i64 F.wide]
theorem round_formOf (hT : HasE g T) (F : Fm) : run G T 47 [.int .u8 F.u] = some (.tup [fmA F, .bool true]) := by
  rw [run_k G T hT.round_formOf]
  cases F <;> (simp only [fmA, Fm.u, Fm.fr, Fm.low, Fm.wide, Int.cast_ofNat_Int, Int.reduceAdd]; repeat' (first | (simp (maxSteps := 1000000) only [evB, if_true, if_false, ne_eq, Nat.reduceEqDiff, Nat.reduceAdd, reduceCtorEq, Int.reduceLE, Int.reduceLT, Int.reduceEq, Int.reduceNeg, Int.reduceToNat, Int.reducePow, Int.reduceMod, Int.reduceDiv, Int.reduceSub, Int.reduceAdd, Int.reduceMul, Nat.reduceMul, Nat.reduceSub, Nat.reducePow, exB, resC_ptr, res_cell, nilb, nilf, faddr_p, c_round_formOf]) | (simp (maxSteps := 1000000) (disch := first | with_reducible assumption | omega) only [dxB]) | (simp only [kI_d, kG_dt, kG_df]; split) | (simp only [kI_v, kG_vt, kG_vf]; split)))
theorem iad10 (a b c : AV) (k : IntKind) : iaddrV 3 (.imm 1 [a, b, c]) (.int k 0) = some (.iptr [a, b, c] 0) := rfl
theorem iad20 (a b c a' b' c' : AV) (k : IntKind) : iaddrV 3 (.imm 2 [a, b, c, a', b', c']) (.int k 0) = some (.iptr [a, b, c, a', b', c'] 0) := rfl
theorem iad21 (a b c a' b' c' : AV) (k : IntKind) : iaddrV 3 (.imm 2 [a, b, c, a', b', c']) (.int k 1) = some (.iptr [a, b, c, a', b', c'] 3) := rfl
theorem rOpen_loop : ∀ (e : Env) (h : Heap), evL G T c_round_open_l1 e h = kS G T (evL G T c_round_open_b1 (keepE [6, 8, 27, 28, 29] e) h) c_round_open_l1 := fun e h => s_loopc G T (c := c_round_open_l1) rfl e h

theorem round_open0 (hT : HasE g T) (F : Fm) {m : Int} (h : 1 ≤ m ∧ m ≤ 5) : run G T 21 [.int .u8 F.u, .int .u8 m, .nil] = some (.tup [fmA F, .int .i64 0]) := by
  rw [run_k G T hT.round_open]
  have h1 := round_formOf (G := G) hT F
  simp only [fmA] at *
  repeat' (first | (simp (maxSteps := 1000000) only [evB, if_true, if_false, ne_eq, Nat.reduceEqDiff, Nat.reduceAdd, reduceCtorEq, Int.reduceLE, Int.reduceLT, Int.reduceEq, Int.reduceNeg, Int.reduceToNat, Int.reducePow, Int.reduceMod, Int.reduceDiv, Int.reduceSub, Int.reduceAdd, Int.reduceMul, Nat.reduceMul, Nat.reduceSub, Nat.reducePow, exB, resC_ptr, res_cell, nilb, nilf, faddr_p, c_round_open, h1, rOpen_loop, c_round_open_b1]) | (simp (maxSteps := 1000000) (disch := first | with_reducible assumption | omega) only [dxB]) | (simp only [kI_d, kG_dt, kG_df]; split) | (simp only [kI_v, kG_vt, kG_vf]; split))
theorem round_open1 (hA : HasA g T) (hC : HasC g T) (hT : HasE g T) (F : Fm) {m : Int} (h : 1 ≤ m ∧ m ≤ 5) {n z : Bool} {l : List Nat} (hd : Dg l) {e : Int} :
    run G T 21 [.int .u8 F.u, .int .u8 m, .imm 1 [.bool n, D z l, .int .i64 e]] = some (.tup [fmA F, .int .i64 (if mayD n l e then 0 else 2)]) := by
  rw [run_k G T hT.round_open]
  have h1 := round_formOf (G := G) hT F
  have h2 := dyad_May (G := G) hA hC n z hd e
  simp only [fmA, A3] at *
  cases hm : mayD n l e <;> (
    rw [hm] at h2
    repeat' (first | (simp (maxSteps := 1000000) only [evB, if_true, if_false, ne_eq, Nat.reduceEqDiff, Nat.reduceAdd, reduceCtorEq, Int.reduceLE, Int.reduceLT, Int.reduceEq, Int.reduceNeg, Int.reduceToNat, Int.reducePow, Int.reduceMod, Int.reduceDiv, Int.reduceSub, Int.reduceAdd, Int.reduceMul, Nat.reduceMul, Nat.reduceSub, Nat.reducePow, exB, resC_ptr, res_cell, nilb, nilf, faddr_p, c_round_open, h1, h2, rOpen_loop, c_round_open_b1, iad10, iad20, iad21, rd_ip]) | (simp (maxSteps := 1000000) (disch := first | with_reducible assumption | omega) only [dxB]) | (simp only [kI_d, kG_dt, kG_df]; split) | (simp only [kI_v, kG_vt, kG_vf]; split))
    all_goals rfl)
end Go.Cv

/-
  Rounding: up or not, the first bits of a number, its units.
-/
namespace Go.Cv
variable {G : Nat → Option (List AV)} {T : Tbl} {g : Nat}

theorem round_up (hT : HasE g T) {m : Int} {neg odd half more : Bool} : run G T 93 [.int .u8 m, .bool neg, .bool odd, .bool half, .bool more] = some (.bool (upB m neg odd half more)) := by
  rw [run_k G T hT.round_up]
  by_cases h1 : m = 1
  · subst h1
    cases odd <;> cases more <;> (repeat' (first | (simp (maxSteps := 1000000) only [evB, if_true, if_false, ne_eq, Nat.reduceEqDiff, Nat.reduceAdd, reduceCtorEq, Int.reduceLE, Int.reduceLT, Int.reduceEq, Int.reduceNeg, Int.reduceToNat, Int.reducePow, Int.reduceMod, Int.reduceDiv, Int.reduceSub, Int.reduceAdd, Int.reduceMul, Nat.reduceMul, Nat.reduceSub, Nat.reducePow, exB, resC_ptr, res_cell, nilb, nilf, faddr_p, c_round_up]) | (simp (maxSteps := 1000000) (disch := first | with_reducible assumption | omega) only [dxB]) | (simp only [kI_d, kG_dt, kG_df]; split) | (simp only [kI_v, kG_vt, kG_vf]; split)); cases half <;> rfl)
  · by_cases h2 : m = 2
    · subst h2; repeat' (first | (simp (maxSteps := 1000000) only [evB, if_true, if_false, ne_eq, Nat.reduceEqDiff, Nat.reduceAdd, reduceCtorEq, Int.reduceLE, Int.reduceLT, Int.reduceEq, Int.reduceNeg, Int.reduceToNat, Int.reducePow, Int.reduceMod, Int.reduceDiv, Int.reduceSub, Int.reduceAdd, Int.reduceMul, Nat.reduceMul, Nat.reduceSub, Nat.reducePow, exB, resC_ptr, res_cell, nilb, nilf, faddr_p, c_round_up]) | (simp (maxSteps := 1000000) (disch := first | with_reducible assumption | omega) only [dxB]) | (simp only [kI_d, kG_dt, kG_df]; split) | (simp only [kI_v, kG_vt, kG_vf]; split)); rfl
    · by_cases h4 : m = 4
      · subst h4
        cases neg <;> cases half <;> (repeat' (first | (simp (maxSteps := 1000000) only [evB, if_true, if_false, ne_eq, Nat.reduceEqDiff, Nat.reduceAdd, reduceCtorEq, Int.reduceLE, Int.reduceLT, Int.reduceEq, Int.reduceNeg, Int.reduceToNat, Int.reducePow, Int.reduceMod, Int.reduceDiv, Int.reduceSub, Int.reduceAdd, Int.reduceMul, Nat.reduceMul, Nat.reduceSub, Nat.reducePow, exB, resC_ptr, res_cell, nilb, nilf, faddr_p, c_round_up]) | (simp (maxSteps := 1000000) (disch := first | with_reducible assumption | omega) only [dxB]) | (simp only [kI_d, kG_dt, kG_df]; split) | (simp only [kI_v, kG_vt, kG_vf]; split)); cases more <;> rfl)
      · by_cases h5 : m = 5
        · subst h5
          cases neg <;> cases half <;> (repeat' (first | (simp (maxSteps := 1000000) only [evB, if_true, if_false, ne_eq, Nat.reduceEqDiff, Nat.reduceAdd, reduceCtorEq, Int.reduceLE, Int.reduceLT, Int.reduceEq, Int.reduceNeg, Int.reduceToNat, Int.reducePow, Int.reduceMod, Int.reduceDiv, Int.reduceSub, Int.reduceAdd, Int.reduceMul, Nat.reduceMul, Nat.reduceSub, Nat.reducePow, exB, resC_ptr, res_cell, nilb, nilf, faddr_p, c_round_up]) | (simp (maxSteps := 1000000) (disch := first | with_reducible assumption | omega) only [dxB]) | (simp only [kI_d, kG_dt, kG_df]; split) | (simp only [kI_v, kG_vt, kG_vf]; split)); cases more <;> rfl)
        · repeat' (first | (simp (maxSteps := 1000000) only [evB, if_true, if_false, ne_eq, Nat.reduceEqDiff, Nat.reduceAdd, reduceCtorEq, Int.reduceLE, Int.reduceLT, Int.reduceEq, Int.reduceNeg, Int.reduceToNat, Int.reducePow, Int.reduceMod, Int.reduceDiv, Int.reduceSub, Int.reduceAdd, Int.reduceMul, Nat.reduceMul, Nat.reduceSub, Nat.reducePow, exB, resC_ptr, res_cell, nilb, nilf, faddr_p, c_round_up]) | (simp (maxSteps := 1000000) (disch := first | with_reducible assumption | omega) only [dxB]) | (simp only [kI_d, kG_dt, kG_df]; split) | (simp only [kI_v, kG_vt, kG_vf]; split))
          simp [upB, h1, h2, h4, h5]
theorem round_btoi (hT : HasE g T) {b : Bool} : run G T 92 [.bool b] = some (.int .u64 (b.toNat : Int)) := by
  rw [run_k G T hT.round_btoi]
  cases b <;> (repeat' (first | (simp (maxSteps := 1000000) only [evB, if_true, if_false, ne_eq, Nat.reduceEqDiff, Nat.reduceAdd, reduceCtorEq, Int.reduceLE, Int.reduceLT, Int.reduceEq, Int.reduceNeg, Int.reduceToNat, Int.reducePow, Int.reduceMod, Int.reduceDiv, Int.reduceSub, Int.reduceAdd, Int.reduceMul, Nat.reduceMul, Nat.reduceSub, Nat.reducePow, exB, resC_ptr, res_cell, nilb, nilf, faddr_p, c_round_btoi]) | (simp (maxSteps := 1000000) (disch := first | with_reducible assumption | omega) only [dxB]) | (simp only [kI_d, kG_dt, kG_df]; split) | (simp only [kI_v, kG_vt, kG_vf]; split)); try rfl)

/-- The first 64 bits of a number. -/
def headN (m : Nat) : Nat := if blen m ≤ 64 then m * 2 ^ (64 - blen m) else m / 2 ^ (blen m - 64)
def behindN (m : Nat) : Bool := if blen m ≤ 64 then false else decide (m % 2 ^ (blen m - 64) ≠ 0)
theorem headN_blen {m : Nat} (h : m ≠ 0) : blen (headN m) = 64 := by
  unfold headN; split
  · rw [blen_mul h]; omega
  · rw [blen_div]; omega
def partA (w : Nat) (top : Int) (more : Bool) : AV := .agg [.int .u64 (w : Int), .int .i64 top, .bool more]

theorem round_partOf (hA : HasA g T) (hG : Glob G g) (hT : HasE g T) {z : Bool} {d : Dy} (hm : mayL (dl d.m) = true) (h0 : d.m ≠ 0) (he : -1099511627776 < d.e ∧ d.e < 1099511627776) :
    run G T 23 [DyA z d] = some (partA (headN d.m) (d.e + blen d.m) (behindN d.m)) := by
  rw [run_k G T hT.round_partOf]
  obtain ⟨n, m, e⟩ := d
  simp only at *
  have hb := may_blen hm
  have hh := headN_blen h0
  have h1 := nat_Len (G := G) (T := T) hA (z := z) hm
  have h64 : headN m < 18446744073709551616 := blen_le.1 (Nat.le_of_eq hh)
  have hs : ∃ z', run G T 50 [D z (dl m), .int .i64 (64 - blen m)] = some (.tup [D z' (dl (headN m)), .bool (behindN m), .int .i64 0]) := by
    unfold headN behindN
    by_cases hc : blen m ≤ 64
    · obtain ⟨z', hz⟩ := nat_Shift_up (G := G) hA (z := z) (a := m) (n := 64 - blen m) hm (by omega) (by omega)
      rw [show ((64 - blen m : Nat) : Int) = 64 - blen m by omega] at hz
      exact ⟨z', by rw [if_pos hc, if_pos hc]; exact hz⟩
    · obtain ⟨z', hz⟩ := nat_Shift_down (G := G) hA hG (z := z) (a := m) (n := blen m - 64) hm (by omega) (by omega)
      rw [show -((blen m - 64 : Nat) : Int) = 64 - blen m by omega] at hz
      exact ⟨z', by rw [if_neg hc, if_neg hc, hz]; simp⟩
  obtain ⟨z', h2⟩ := hs
  have h3 := nat_Num (G := G) (T := T) hA (z := z') h64
  simp only [DyA, A3, partA] at *
  repeat' (first | (simp (maxSteps := 1000000) only [evB, if_true, if_false, ne_eq, Nat.reduceEqDiff, Nat.reduceAdd, reduceCtorEq, Int.reduceLE, Int.reduceLT, Int.reduceEq, Int.reduceNeg, Int.reduceToNat, Int.reducePow, Int.reduceMod, Int.reduceDiv, Int.reduceSub, Int.reduceAdd, Int.reduceMul, Nat.reduceMul, Nat.reduceSub, Nat.reducePow, exB, resC_ptr, res_cell, nilb, nilf, faddr_p, c_round_partOf, h1, h2, h3]) | (simp (maxSteps := 1000000) (disch := first | with_reducible assumption | omega) only [dxB]) | (simp only [kI_d, kG_dt, kG_df]; split) | (simp only [kI_v, kG_vt, kG_vf]; split))

theorem and1_64 {x : Int} (h : 0 ≤ x ∧ x < 18446744073709551616) : andI .u64 x 1 = x % 2 := by
  obtain ⟨n, rfl⟩ := Int.eq_ofNat_of_zero_le h.1
  have := and64 (a := n) (b := 1) (by omega) (by decide)
  rw [show ((1 : Nat) : Int) = 1 from rfl] at this
  rw [this, and_one]; rfl
theorem lt_cast64 {n : Nat} (h : n < 18446744073709551616) : 0 ≤ (n : Int) ∧ (n : Int) < 18446744073709551616 := ⟨Int.natCast_nonneg n, by omega⟩
theorem and_mask {x j : Nat} (hx : x < 18446744073709551616) (hj : j < 64) : andI .u64 (x : Int) (2 ^ j - 1) = ((x % 2 ^ j : Nat) : Int) := by
  have hp := Nat.two_pow_pos j
  have h2 : 2 ^ j < 18446744073709551616 := Nat.lt_of_lt_of_le (Nat.pow_lt_pow_right (by decide) hj) (by decide)
  have e : ((2 : Int) ^ j - 1) = ((2 ^ j - 1 : Nat) : Int) := by rw [pow_cast]; omega
  rw [e, and64 hx (by omega), Nat.and_two_pow_sub_one_eq_mod]

set_option maxHeartbeats 2000000 in
theorem round_units (hT : HasE g T) {m : Int} {neg more : Bool} {w k : Nat} {e top : Int} (hw : blen w = 64) (hk : e - top + 64 = k) (h0 : 0 < k) (he : -1099511627776 < e ∧ e < 1099511627776) (ht : -1099511627776 < top ∧ top < 1099511627776) :
    run G T 52 [partA w top more, .int .u8 m, .bool neg, .int .i64 e] = some (.tup [.int .u64 ((rdN m neg w more k).1 : Int), .bool (rdN m neg w more k).2]) := by
  rw [run_k G T hT.round_part_units]
  have h64 : w < 18446744073709551616 := blen_le.1 (Nat.le_of_eq hw)
  have hw0 : w ≠ 0 := by rintro rfl; rw [blen_zero] at hw; omega
  by_cases hc : 64 < k
  · have h1 := round_up (G := G) hT (m := m) (neg := neg) (odd := false) (half := false) (more := true)
    have h2 := round_btoi (G := G) hT (b := upB m neg false false true)
    have e0 : ∀ j, 64 ≤ j → w < 2 ^ j := fun j hj => Nat.lt_of_lt_of_le h64 (by rw [show 18446744073709551616 = 2 ^ 64 from rfl]; exact Nat.pow_le_pow_right (by decide) hj)
    have e1 : w / 2 ^ k = 0 := Nat.div_eq_of_lt (e0 _ (by omega))
    have e2 : halfN w k = false := by simp only [halfN]; rw [Nat.div_eq_of_lt (e0 _ (by omega))]; rfl
    have e3 : moreN w more k = true := by simp only [moreN]; rw [Nat.mod_eq_of_lt (e0 _ (by omega)), decide_eq_true hw0, Bool.or_true]
    have e4 : rdN m neg w more k = ((upB m neg false false true).toNat, false) := by simp only [rdN, e1, e2, e3]; simp
    rw [e4]
    simp only [partA] at *
    repeat' (first | (simp (maxSteps := 1000000) only [evB, if_true, if_false, ne_eq, Nat.reduceEqDiff, Nat.reduceAdd, reduceCtorEq, Int.reduceLE, Int.reduceLT, Int.reduceEq, Int.reduceNeg, Int.reduceToNat, Int.reducePow, Int.reduceMod, Int.reduceDiv, Int.reduceSub, Int.reduceAdd, Int.reduceMul, Nat.reduceMul, Nat.reduceSub, Nat.reducePow, exB, resC_ptr, res_cell, nilb, nilf, faddr_p, c_round_part_units, h1, h2, hk]) | (simp (maxSteps := 1000000) (disch := first | with_reducible assumption | omega) only [dxB]) | (simp only [kI_d, kG_dt, kG_df]; split) | (simp only [kI_v, kG_vt, kG_vf]; split))
  · have hkm : min (k - 1) 64 = k - 1 := by omega
    have hkp : min k 64 = k := by omega
    have p1 := Nat.two_pow_pos k
    have hh : (w : Int) / 2 ^ (k - 1) = ((w / 2 ^ (k - 1) : Nat) : Int) := by rw [pow_cast]; rfl
    have hd : (w : Int) / 2 ^ k = ((w / 2 ^ k : Nat) : Int) := by rw [pow_cast]; rfl
    have hq : w / 2 ^ (k - 1) < 18446744073709551616 := Nat.lt_of_le_of_lt (Nat.div_le_self ..) h64
    have hq2 : w / 2 ^ k < 9223372036854775808 := by
      apply Nat.div_lt_of_lt_mul
      have : 2 ^ 1 ≤ 2 ^ k := Nat.pow_le_pow_right (by decide) h0
      omega
    have hmsk := and_mask (x := w) (j := k - 1) h64 (by omega)
    have p2 : 2 ^ (k - 1) < 18446744073709551616 := Nat.lt_of_lt_of_le (Nat.pow_lt_pow_right (by decide) (show k - 1 < 64 by omega)) (by decide)
    have p3 := Nat.two_pow_pos (k - 1)
    have w1 : (1 * (2 : Int) ^ (k - 1)) % 18446744073709551616 = 2 ^ (k - 1) := by rw [pow_cast]; omega
    have w2 : ((2 : Int) ^ (k - 1) - 1) % 18446744073709551616 = 2 ^ (k - 1) - 1 := by rw [pow_cast]; omega
    have hb1 : decide (((w / 2 ^ (k - 1) : Nat) : Int) % 2 = 1) = halfN w k := by
      simp only [halfN]; congr 1; apply propext; omega
    have hb2 : (!decide (((w % 2 ^ (k - 1) : Nat) : Int) = 0)) = moreN w false k := by
      simp only [moreN, Bool.false_or, ne_eq, decide_not]; congr 2; apply propext; omega
    have hb4 : moreN w true k = true := rfl
    have hA1 := and1_64 (x := ((w / 2 ^ (k - 1) : Nat) : Int)) (lt_cast64 hq)
    have hA2 := and1_64 (x := ((w / 2 ^ k : Nat) : Int)) (lt_cast64 (Nat.lt_trans hq2 (by decide)))
    have hA3 := and1_64 (x := 0) (by decide)
    by_cases hk2 : k = 64
    · have e1 : w / 2 ^ k = 0 := Nat.div_eq_of_lt (by rw [hk2]; exact h64)
      have h1 := round_up (G := G) hT (m := m) (neg := neg) (odd := false) (half := halfN w k) (more := moreN w more k)
      have h2 := round_btoi (G := G) hT (b := upB m neg false (halfN w k) (moreN w more k))
      have e4 : rdN m neg w more k = ((upB m neg false (halfN w k) (moreN w more k)).toNat, !halfN w k && !moreN w more k) := by simp only [rdN, e1]; simp
      have hbt : (upB m neg false (halfN w k) (moreN w more k)).toNat ≤ 1 := by cases upB m neg false (halfN w k) (moreN w more k) <;> decide
      rw [e4]
      generalize (upB m neg false (halfN w k) (moreN w more k)).toNat = bt at *
      simp only [partA] at *
      cases more
      · cases hH : halfN w k <;> cases hM : moreN w false k <;> (
          rw [hH] at h1 h2 hb1
          rw [hM] at h1 h2 hb2
          repeat' (first | (simp (maxSteps := 1000000) only [evB, if_true, if_false, ne_eq, Nat.reduceEqDiff, Nat.reduceAdd, reduceCtorEq, Int.reduceLE, Int.reduceLT, Int.reduceEq, Int.reduceNeg, Int.reduceToNat, Int.reducePow, Int.reduceMod, Int.reduceDiv, Int.reduceSub, Int.reduceAdd, Int.reduceMul, Nat.reduceMul, Nat.reduceSub, Nat.reducePow, exB, resC_ptr, res_cell, nilb, nilf, faddr_p, c_round_part_units, h1, h2, hk, hkm, hA1, hA2, hA3, hh, hb1, hb2, hmsk, w1, w2]) | (simp (maxSteps := 1000000) (disch := first | with_reducible assumption | omega) only [dxB]) | (simp only [kI_d, kG_dt, kG_df]; split) | (simp only [kI_v, kG_vt, kG_vf]; split))
          all_goals (refine tup_int ?_; clear hA1 hA2; generalize w / 2 ^ k = Q at hq2 ⊢; omega))
      · rw [hb4] at *
        cases hH : halfN w k <;> (
          rw [hH] at h1 h2 hb1
          repeat' (first | (simp (maxSteps := 1000000) only [evB, if_true, if_false, ne_eq, Nat.reduceEqDiff, Nat.reduceAdd, reduceCtorEq, Int.reduceLE, Int.reduceLT, Int.reduceEq, Int.reduceNeg, Int.reduceToNat, Int.reducePow, Int.reduceMod, Int.reduceDiv, Int.reduceSub, Int.reduceAdd, Int.reduceMul, Nat.reduceMul, Nat.reduceSub, Nat.reducePow, exB, resC_ptr, res_cell, nilb, nilf, faddr_p, c_round_part_units, h1, h2, hk, hkm, hA1, hA2, hA3, hh, hb1, hmsk, w1, w2]) | (simp (maxSteps := 1000000) (disch := first | with_reducible assumption | omega) only [dxB]) | (simp only [kI_d, kG_dt, kG_df]; split) | (simp only [kI_v, kG_vt, kG_vf]; split))
          all_goals (refine tup_int ?_; clear hA1 hA2; generalize w / 2 ^ k = Q at hq2 ⊢; omega))
    · have h1 := round_up (G := G) hT (m := m) (neg := neg) (odd := decide (w / 2 ^ k % 2 = 1)) (half := halfN w k) (more := moreN w more k)
      have h2 := round_btoi (G := G) hT (b := upB m neg (decide (w / 2 ^ k % 2 = 1)) (halfN w k) (moreN w more k))
      have hb3 : decide (((w / 2 ^ k : Nat) : Int) % 2 = 1) = decide (w / 2 ^ k % 2 = 1) := by congr 1; apply propext; omega
      have hbt : (upB m neg (decide (w / 2 ^ k % 2 = 1)) (halfN w k) (moreN w more k)).toNat ≤ 1 := by cases upB m neg (decide (w / 2 ^ k % 2 = 1)) (halfN w k) (moreN w more k) <;> decide
      simp only [rdN]
      generalize (upB m neg (decide (w / 2 ^ k % 2 = 1)) (halfN w k) (moreN w more k)).toNat = bt at *
      simp only [partA] at *
      have hlt : k < 64 := by omega
      cases more
      · cases hH : halfN w k <;> cases hM : moreN w false k <;> (
          rw [hH] at h1 h2 hb1
          rw [hM] at h1 h2 hb2
          repeat' (first | (simp (maxSteps := 1000000) only [evB, if_true, if_false, ne_eq, Nat.reduceEqDiff, Nat.reduceAdd, reduceCtorEq, Int.reduceLE, Int.reduceLT, Int.reduceEq, Int.reduceNeg, Int.reduceToNat, Int.reducePow, Int.reduceMod, Int.reduceDiv, Int.reduceSub, Int.reduceAdd, Int.reduceMul, Nat.reduceMul, Nat.reduceSub, Nat.reducePow, exB, resC_ptr, res_cell, nilb, nilf, faddr_p, c_round_part_units, h1, h2, hk, hkm, hA1, hA2, hA3, hkp, hh, hd, hb1, hb2, hb3, hmsk, w1, w2]) | (simp (maxSteps := 1000000) (disch := first | with_reducible assumption | omega) only [dxB]) | (simp only [kI_d, kG_dt, kG_df]; split) | (simp only [kI_v, kG_vt, kG_vf]; split))
          all_goals (refine tup_int ?_; clear hA1 hA2; generalize w / 2 ^ k = Q at hq2 ⊢; omega))
      · rw [hb4] at *
        cases hH : halfN w k <;> (
          rw [hH] at h1 h2 hb1
          repeat' (first | (simp (maxSteps := 1000000) only [evB, if_true, if_false, ne_eq, Nat.reduceEqDiff, Nat.reduceAdd, reduceCtorEq, Int.reduceLE, Int.reduceLT, Int.reduceEq, Int.reduceNeg, Int.reduceToNat, Int.reducePow, Int.reduceMod, Int.reduceDiv, Int.reduceSub, Int.reduceAdd, Int.reduceMul, Nat.reduceMul, Nat.reduceSub, Nat.reducePow, exB, resC_ptr, res_cell, nilb, nilf, faddr_p, c_round_part_units, h1, h2, hk, hkm, hA1, hA2, hA3, hkp, hh, hd, hb1, hb3, hmsk, w1, w2]) | (simp (maxSteps := 1000000) (disch := first | with_reducible assumption | omega) only [dxB]) | (simp only [kI_d, kG_dt, kG_df]; split) | (simp only [kI_v, kG_vt, kG_vf]; split))
          all_goals (refine tup_int ?_; clear hA1 hA2; generalize w / 2 ^ k = Q at hq2 ⊢; omega))
end Go.Cv

/-
  Rounding: what stands for a number that is too great, the word of a size, the word of a number.
-/
namespace Go.Cv
variable {G : Nat → Option (List AV)} {T : Tbl} {g : Nat}

theorem round_Over (hD : HasD g T) (hT : HasE g T) (F : Fm) {m : Int} (h : 1 ≤ m ∧ m ≤ 5) {neg : Bool} : run G T 8 [.int .u8 F.u, .int .u8 m, .bool neg] = some (.tup [.int .u64 (ovr F m neg : Int), .int .i64 0]) := by
  rw [run_k G T hT.round_Over]
  have h1 := round_open0 (G := G) hT F h
  have h2 := word_Greatest (G := G) hD F (n := neg)
  have h3 := word_Inf (G := G) hD F (n := neg)
  simp only [fmA] at *
  cases neg
  · repeat' (first | (simp (maxSteps := 1000000) only [evB, if_true, if_false, ne_eq, Nat.reduceEqDiff, Nat.reduceAdd, reduceCtorEq, Int.reduceLE, Int.reduceLT, Int.reduceEq, Int.reduceNeg, Int.reduceToNat, Int.reducePow, Int.reduceMod, Int.reduceDiv, Int.reduceSub, Int.reduceAdd, Int.reduceMul, Nat.reduceMul, Nat.reduceSub, Nat.reducePow, exB, resC_ptr, res_cell, nilb, nilf, faddr_p, c_round_Over, h1, h2, h3]) | (simp (maxSteps := 1000000) (disch := first | with_reducible assumption | omega) only [dxB]) | (simp only [kI_d, kG_dt, kG_df]; split) | (simp only [kI_v, kG_vt, kG_vf]; split))
    all_goals simp_all [ovr]
  · repeat' (first | (simp (maxSteps := 1000000) only [evB, if_true, if_false, ne_eq, Nat.reduceEqDiff, Nat.reduceAdd, reduceCtorEq, Int.reduceLE, Int.reduceLT, Int.reduceEq, Int.reduceNeg, Int.reduceToNat, Int.reducePow, Int.reduceMod, Int.reduceDiv, Int.reduceSub, Int.reduceAdd, Int.reduceMul, Nat.reduceMul, Nat.reduceSub, Nat.reducePow, exB, resC_ptr, res_cell, nilb, nilf, faddr_p, c_round_Over, h1, h2, h3]) | (simp (maxSteps := 1000000) (disch := first | with_reducible assumption | omega) only [dxB]) | (simp only [kI_d, kG_dt, kG_df]; split) | (simp only [kI_v, kG_vt, kG_vf]; split))
    all_goals simp_all [ovr]
/-! ### numbers in their one form -/
theorem mkD_zero (n : Bool) (e : Int) : mkD n 0 e = ⟨false, 0, 0⟩ := rfl
theorem mkD_pos {n : Bool} {m : Nat} (h : m ≠ 0) (e : Int) : mkD n m e = ⟨n, m / 2 ^ tz m, e + tz m⟩ := if_neg h
theorem mkD_m0 {n : Bool} {m : Nat} (h : m ≠ 0) (e : Int) : (mkD n m e).m ≠ 0 := by
  rw [mkD_pos h]; have := (tz_spec h).2; intro h0; simp only at h0; rw [h0] at this; exact absurd this (by decide)
theorem mkD_blen {n : Bool} {m : Nat} (h : m ≠ 0) (e : Int) : (mkD n m e).e + blen (mkD n m e).m = e + blen m := by
  rw [mkD_pos h]; simp only [blen_div]
  have := tz_blen h; omega
theorem mayL_small {a : Nat} (h : blen a ≤ 131072) : mayL (dl a) = true := by
  rw [mayL_iff]; refine ⟨?_, Nm_dl a⟩; have := dl_len_blen a; omega
theorem dg0 (a : Nat) : dg (dl a) 0 % 2 = a % 2 := by
  rw [dg_eq (Dg_dl a), val_dl]; simp
theorem mayD_mk {n : Bool} {m : Nat} {e : Int} (hb : blen m ≤ 131072) (he : m = 0 ∨ (-16777216 ≤ e + tz m ∧ e + tz m ≤ 16777216)) : mayD (mkD n m e).n (dl (mkD n m e).m) (mkD n m e).e = true := by
  by_cases h : m = 0
  · subst h; rw [mkD_zero, dl_zero]; rfl
  · rw [mkD_pos h]
    simp only at *
    have h1 : mayL (dl (m / 2 ^ tz m)) = true := mayL_small (by rw [blen_div]; omega)
    have h2 := (tz_spec h).2
    have h3 : ¬ (dl (m / 2 ^ tz m)).length = 0 := by rw [dl_len0]; intro h0; rw [h0] at h2; exact absurd h2 (by decide)
    simp only [mayD, h1, h3, if_false, dg0, h2, Bool.true_and, decide_true]
    rw [decide_eq_true (by omega : -16777216 ≤ e + tz m), decide_eq_true (by omega : e + tz m ≤ 16777216)]; rfl
theorem mkD_fits {F : Fm} {neg : Bool} {n : Nat} {e : Int} (h0 : n ≠ 0) (h1 : n ≤ 2 ^ (F.fr + 1)) (h2 : F.low ≤ e) (h3 : e + blen n ≤ F.wide) : F.fits (mkD neg n e) := by
  have hb := mkD_blen (n := neg) h0 e
  have hm := mkD_m0 (n := neg) h0 e
  refine ⟨hm, ?_, ?_, by omega⟩
  · rw [mkD_pos h0]; simp only
    rcases Nat.lt_or_ge n (2 ^ (F.fr + 1)) with h | h
    · rw [blen_div]; have := blen_le.2 h; omega
    · have h5 : n = 1 * 2 ^ (F.fr + 1) := by omega
      rw [h5, tz_unique (by decide), Nat.mul_div_cancel _ (Nat.two_pow_pos _), show blen 1 = 1 from rfl]; omega
  · rw [mkD_pos h0]; simp only; omega
theorem mkD_enc {F : Fm} {neg : Bool} {n : Nat} {e : Int} (h0 : n ≠ 0) (h1 : n ≤ 2 ^ (F.fr + 1)) (h2 : F.low ≤ e) (h4 : e = F.low ∨ 2 ^ F.fr ≤ n) :
    F.enc ((mkD neg n e).m * 2 ^ ((mkD neg n e).e - F.unit (mkD neg n e)).toNat) (F.unit (mkD neg n e)) = F.enc n e := by
  have hb := mkD_blen (n := neg) h0 e
  have hu : F.unit (mkD neg n e) = max (e + blen n - F.fr - 1) F.low := by unfold Fm.unit; rw [hb]
  rw [hu]
  rcases Nat.lt_or_ge n (2 ^ (F.fr + 1)) with h | h
  · have h5 := blen_le.2 h
    have h6 : max (e + blen n - F.fr - 1) F.low = e := by
      rcases h4 with h4 | h4
      · omega
      · have := lt_blen.2 h4; omega
    rw [h6, mkD_pos h0]
    simp only
    rw [show (e + (tz n : Int) - e).toNat = tz n by omega, ← (tz_spec h0).1]
  · have h5 : n = 1 * 2 ^ (F.fr + 1) := by omega
    have h6 : tz n = F.fr + 1 := by rw [h5]; exact tz_unique (by decide)
    have h7 : blen n = F.fr + 2 := by rw [h5, blen_mul (by decide), show blen 1 = 1 from rfl]; omega
    rw [mkD_pos h0, h6, h7]
    simp only
    have h8 : n / 2 ^ (F.fr + 1) = 1 := by rw [h5, Nat.mul_div_cancel _ (Nat.two_pow_pos _)]
    rw [h8, show max (e + ((F.fr + 2 : Nat) : Int) - F.fr - 1) F.low = e + 1 by omega, show (e + ((F.fr + 1 : Nat) : Int) - (e + 1)).toNat = F.fr by omega]
    unfold Fm.enc
    rw [show (e + 1 - F.low).toNat = (e - F.low).toNat + 1 by omega, Nat.add_mul, h5, Nat.pow_succ]; omega

/-- How many units there are. -/
theorem rdN_bd {md : Int} {neg more : Bool} {w k : Nat} (hw : blen w = 64) {p : Nat} (hk : 64 ≤ k + p) : (rdN md neg w more k).1 ≤ 2 ^ p := by
  have h64 : w < 2 ^ 64 := blen_le.1 (Nat.le_of_eq hw)
  have h1 : w / 2 ^ k < 2 ^ p := by
    apply Nat.div_lt_of_lt_mul
    rw [← Nat.pow_add]
    exact Nat.lt_of_lt_of_le h64 (Nat.pow_le_pow_right (by decide) hk)
  have h2 : ∀ b : Bool, b.toNat ≤ 1 := by intro b; cases b <;> decide
  have := h2 (upB md neg (decide (w / 2 ^ k % 2 = 1)) (halfN w k) (moreN w more k))
  simp only [rdN]; omega
theorem rdN_lo {md : Int} {neg more : Bool} {w k : Nat} (hw : blen w = 64) (hk : k ≤ 63) : 2 ^ (63 - k) ≤ (rdN md neg w more k).1 := by
  have h1 : 2 ^ 63 ≤ w := lt_blen.1 (by omega)
  have h2 : 2 ^ (63 - k) ≤ w / 2 ^ k := by
    rw [Nat.le_div_iff_mul_le (Nat.two_pow_pos _), ← Nat.pow_add, show 63 - k + k = 63 by omega]; exact h1
  simp only [rdN]; omega
end Go.Cv

/-
  Rounding: the word of a size.
-/
namespace Go.Cv
variable {G : Nat → Option (List AV)} {T : Tbl} {g : Nat}

theorem fm_facts (F : Fm) : (F.fr = 23 ∧ F.low = -149 ∧ F.wide = 128) ∨ (F.fr = 52 ∧ F.low = -1074 ∧ F.wide = 1024) := by
  cases F
  · exact Or.inl ⟨rfl, rfl, rfl⟩
  · exact Or.inr ⟨rfl, rfl, rfl⟩
/-- The word, and the flags, of a size that is told by its first 64 bits. -/
def partW (F : Fm) (md : Int) (neg : Bool) (w : Nat) (more : Bool) (top : Int) : Nat × Nat :=
  wordOf F md neg (rdN md neg w more (F.eOf top - top + 64).toNat).1 (rdN md neg w more (F.eOf top - top + 64).toNat).2 (F.eOf top) top (rdN md neg w more (63 - F.fr)).1

set_option maxHeartbeats 4000000 in
theorem round_word (hA : HasA g T) (hC : HasC g T) (hG : Glob G g) (hD : HasD g T) (hT : HasE g T) (F : Fm) {m : Int} (hm : 1 ≤ m ∧ m ≤ 5) {neg more : Bool} {w : Nat} {top : Int} (hw : blen w = 64) (ht : -549755813888 < top ∧ top < 549755813888) :
    run G T 24 [partA w top more, .int .u8 F.u, fmA F, .int .u8 m, .bool neg] = some (.tup [.int .u64 ((partW F m neg w more top).1 : Int), .int .u8 ((partW F m neg w more top).2 : Int)]) := by
  rw [run_k G T hT.round_part_word]
  have hF := fm_facts F
  have hE : max (top - ((F.fr : Int) + 1)) F.low = F.eOf top := by unfold Fm.eOf; omega
  have u1 := round_units (G := G) hT (m := m) (neg := neg) (more := more) (w := w) (k := (F.eOf top - top + 64).toNat) (e := F.eOf top) (top := top) hw (by omega) (by omega) (by omega) (by omega)
  have u2 := round_units (G := G) hT (m := m) (neg := neg) (more := more) (w := w) (k := 63 - F.fr) (e := top - ((F.fr : Int) + 1)) (top := top) hw (by omega) (by omega) (by omega) (by omega)
  have b1 := rdN_bd (md := m) (neg := neg) (more := more) hw (k := (F.eOf top - top + 64).toNat) (p := F.fr + 1) (by omega)
  have b2 := rdN_bd (md := m) (neg := neg) (more := more) hw (k := 63 - F.fr) (p := F.fr + 1) (by omega)
  have l1 : F.eOf top = F.low ∨ 2 ^ F.fr ≤ (rdN m neg w more (F.eOf top - top + 64).toNat).1 := by
    by_cases h : F.eOf top = F.low
    · exact Or.inl h
    · right
      have := rdN_lo (md := m) (neg := neg) (more := more) hw (k := (F.eOf top - top + 64).toNat) (by omega)
      rwa [show 63 - (F.eOf top - top + 64).toNat = F.fr by omega] at this
  have hp : 2 ^ (F.fr + 1) ≤ 9007199254740992 := by cases F <;> decide
  have o1 := round_Over (G := G) hD hT F hm (neg := neg)
  unfold partW
  generalize (F.eOf top - top + 64).toNat = k at *
  obtain ⟨n, ex, hR⟩ : ∃ n ex, rdN m neg w more k = (n, ex) := ⟨_, _, rfl⟩
  obtain ⟨fine, ex2, hR2⟩ : ∃ n ex, rdN m neg w more (63 - F.fr) = (n, ex) := ⟨_, _, rfl⟩
  rw [hR] at u1 b1 l1 ⊢
  rw [hR2] at u2 b2 ⊢
  simp only at *
  have c1 := bits_Len64 (G := G) (T := T) hA (x := n) (by omega)
  have c2 := bits_Len64 (G := G) (T := T) hA (x := fine) (by omega)
  have q1 : blen n ≤ 54 := blen_le.2 (by omega)
  have q2 : blen fine ≤ 54 := blen_le.2 (by omega)
  obtain ⟨z1, f1⟩ := nat_Of (G := G) (T := T) hA (n := n) (by omega)
  by_cases hov : F.wide < blen n + F.eOf top
  · simp only [wordOf, if_pos hov]
    simp only [partA, fmA] at *
    repeat' (first | (simp (maxSteps := 1000000) only [evB, if_true, if_false, ne_eq, Nat.reduceEqDiff, Nat.reduceAdd, reduceCtorEq, Int.reduceLE, Int.reduceLT, Int.reduceEq, Int.reduceNeg, Int.reduceToNat, Int.reducePow, Int.reduceMod, Int.reduceDiv, Int.reduceSub, Int.reduceAdd, Int.reduceMul, Nat.reduceMul, Nat.reduceSub, Nat.reducePow, exB, resC_ptr, res_cell, nilb, nilf, faddr_p, c_round_part_word, hE, u1, c1, o1]) | (simp (maxSteps := 1000000) (disch := first | with_reducible assumption | omega) only [dxB]) | (simp only [kI_d, kG_dt, kG_df]; split) | (simp only [kI_v, kG_vt, kG_vf]; split))
  · by_cases hn : n = 0
    · subst hn
      have hlow : F.eOf top = F.low := by
        rcases l1 with h | h
        · exact h
        · have := Nat.two_pow_pos F.fr; omega
      obtain ⟨z2, f2⟩ := dyad_Make (G := G) (T := T) hA hG hC (n := neg) (z := z1) (a := 0) (e := F.eOf top) (mayL_small (by rw [blen_zero]; omega)) (Or.inl rfl) (by omega)
      rw [mkD_zero] at f2
      have f3 := word_Of_zero (G := G) (T := T) hA hC hD F (z := z2)
      have f4 := word_Zero (G := G) (T := T) hD F (n := neg)
      have e0 : F.enc 0 (F.eOf top) = 0 := by rw [hlow]; simp [Fm.enc]
      simp only [wordOf, if_neg hov, e0, Nat.zero_add]
      simp only [partA, fmA, DyA, A3, cast0] at *
      cases ex
      · repeat' (first | (simp (maxSteps := 1000000) only [evB, if_true, if_false, ne_eq, Nat.reduceEqDiff, Nat.reduceAdd, reduceCtorEq, Int.reduceLE, Int.reduceLT, Int.reduceEq, Int.reduceNeg, Int.reduceToNat, Int.reducePow, Int.reduceMod, Int.reduceDiv, Int.reduceSub, Int.reduceAdd, Int.reduceMul, Nat.reduceMul, Nat.reduceSub, Nat.reducePow, exB, resC_ptr, res_cell, nilb, nilf, faddr_p, c_round_part_word, hE, u1, c1, c2, u2, f1, f2, f3, f4]) | (simp (maxSteps := 1000000) (disch := first | with_reducible assumption | omega) only [dxB]) | (simp only [kI_d, kG_dt, kG_df]; split) | (simp only [kI_v, kG_vt, kG_vf]; split))
        all_goals simp_all
        all_goals (split <;> omega)
      · repeat' (first | (simp (maxSteps := 1000000) only [evB, if_true, if_false, ne_eq, Nat.reduceEqDiff, Nat.reduceAdd, reduceCtorEq, Int.reduceLE, Int.reduceLT, Int.reduceEq, Int.reduceNeg, Int.reduceToNat, Int.reducePow, Int.reduceMod, Int.reduceDiv, Int.reduceSub, Int.reduceAdd, Int.reduceMul, Nat.reduceMul, Nat.reduceSub, Nat.reducePow, exB, resC_ptr, res_cell, nilb, nilf, faddr_p, c_round_part_word, hE, u1, c1, c2, u2, f1, f2, f3, f4]) | (simp (maxSteps := 1000000) (disch := first | with_reducible assumption | omega) only [dxB]) | (simp only [kI_d, kG_dt, kG_df]; split) | (simp only [kI_v, kG_vt, kG_vf]; split))
        all_goals simp_all
    · have htz := tz_blen hn
      obtain ⟨z2, f2⟩ := dyad_Make (G := G) (T := T) hA hG hC (n := neg) (z := z1) (a := n) (e := F.eOf top) (mayL_small (by omega)) (Or.inr (by omega)) (by omega)
      have hft := mkD_fits (F := F) (neg := neg) hn b1 (by omega : F.low ≤ F.eOf top) (by omega)
      have f3 := word_Of (G := G) (T := T) hA hC hD F (z := z2) (mayD_mk (n := neg) (m := n) (e := F.eOf top) (by omega) (Or.inr (by omega))) hft
      rw [mkD_enc hn b1 (by omega) l1] at f3
      have hsn : (mkD neg n (F.eOf top)).n = neg := by rw [mkD_pos hn]
      rw [hsn] at f3
      simp only [wordOf, if_neg hov]
      have hn' : ¬ (n : Int) = 0 := by omega
      simp only [partA, fmA, DyA, A3] at *
      cases ex
      · repeat' (first | (simp (maxSteps := 1000000) only [evB, if_true, if_false, ne_eq, Nat.reduceEqDiff, Nat.reduceAdd, reduceCtorEq, Int.reduceLE, Int.reduceLT, Int.reduceEq, Int.reduceNeg, Int.reduceToNat, Int.reducePow, Int.reduceMod, Int.reduceDiv, Int.reduceSub, Int.reduceAdd, Int.reduceMul, Nat.reduceMul, Nat.reduceSub, Nat.reducePow, exB, resC_ptr, res_cell, nilb, nilf, faddr_p, c_round_part_word, hE, u1, c1, c2, u2, f1, f2, f3, hn']) | (simp (maxSteps := 1000000) (disch := first | with_reducible assumption | omega) only [dxB]) | (simp only [kI_d, kG_dt, kG_df]; split) | (simp only [kI_v, kG_vt, kG_vf]; split))
        all_goals simp_all
        all_goals (split <;> omega)
      · repeat' (first | (simp (maxSteps := 1000000) only [evB, if_true, if_false, ne_eq, Nat.reduceEqDiff, Nat.reduceAdd, reduceCtorEq, Int.reduceLE, Int.reduceLT, Int.reduceEq, Int.reduceNeg, Int.reduceToNat, Int.reducePow, Int.reduceMod, Int.reduceDiv, Int.reduceSub, Int.reduceAdd, Int.reduceMul, Nat.reduceMul, Nat.reduceSub, Nat.reducePow, exB, resC_ptr, res_cell, nilb, nilf, faddr_p, c_round_part_word, hE, u1, c1, c2, u2, f1, f2, f3, hn']) | (simp (maxSteps := 1000000) (disch := first | with_reducible assumption | omega) only [dxB]) | (simp only [kI_d, kG_dt, kG_df]; split) | (simp only [kI_v, kG_vt, kG_vf]; split))
        all_goals simp_all
end Go.Cv

/-
  Rounding: the word of a number.
-/
namespace Go.Cv
variable {G : Nat → Option (List AV)} {T : Tbl} {g : Nat}

theorem partW_eq (F : Fm) (md : Int) {d : Dy} (h : d.m ≠ 0) : partW F md d.n (headN d.m) (behindN d.m) (d.e + blen d.m) = rndW F md d := by
  have hF := fm_facts F
  have e1 := rdN_part md d.n h d.e (F.eOf (d.e + blen d.m)) (by unfold Fm.eOf; omega)
  have e2 := rdN_part md d.n h d.e (d.e + blen d.m - F.fr - 1) (by omega)
  rw [show (d.e + (blen d.m : Int) - F.fr - 1 - (d.e + blen d.m) + 64).toNat = 63 - F.fr by omega] at e2
  simp only [partW, rndW, if_neg h, headN, behindN, e1, e2]

theorem sign_may {n : Bool} {m : Nat} {e : Int} (h : mayD n (dl m) e = true) : (if mayD n (dl m) e = false ∨ (dl m).length = 0 then (0 : Int) else if n then -1 else 1) = if m = 0 then 0 else if n then -1 else 1 := by
  simp [h, dl_eq_nil]

theorem mayD_facts {n : Bool} {l : List Nat} {e : Int} (h : mayD n l e = true) : mayL l = true ∧ (l.length = 0 → n = false ∧ e = 0) ∧ (l.length ≠ 0 → dg l 0 % 2 = 1) ∧ -16777216 ≤ e ∧ e ≤ 16777216 := by
  simp only [mayD, Bool.and_eq_true] at h
  obtain ⟨h1, h2⟩ := h
  refine ⟨h1, ?_⟩
  by_cases h0 : l.length = 0
  · rw [if_pos h0] at h2
    simp only [Bool.and_eq_true, Bool.not_eq_true', decide_eq_true_eq] at h2
    exact ⟨fun _ => h2, fun h => absurd h0 h, by omega, by omega⟩
  · rw [if_neg h0] at h2
    simp only [Bool.and_eq_true, decide_eq_true_eq] at h2
    exact ⟨fun h => absurd h h0, fun _ => h2.1, h2.2.1, h2.2.2⟩

theorem round_Round (hA : HasA g T) (hC : HasC g T) (hG : Glob G g) (hD : HasD g T) (hT : HasE g T) (F : Fm) {m : Int} (hm : 1 ≤ m ∧ m ≤ 5) {z : Bool} {d : Dy} (hd : mayD d.n (dl d.m) d.e = true) :
    run G T 7 [.int .u8 F.u, .int .u8 m, DyA z d] = some (.tup [.int .u64 ((rndW F m d).1 : Int), .int .u8 ((rndW F m d).2 : Int), .int .i64 0]) := by
  rw [run_k G T hT.round_Round]
  obtain ⟨f1, f2, f3, f4, f5⟩ := mayD_facts hd
  have o1 := round_open1 (G := G) hA hC hT F hm (n := d.n) (z := z) (Dg_dl d.m) (e := d.e)
  rw [hd, if_pos rfl] at o1
  have s1 := dyad_Sign (G := G) hA hC (n := d.n) (z := z) (Dg_dl d.m) (e := d.e)
  rw [sign_may hd] at s1
  by_cases h0 : d.m = 0
  · rw [if_pos h0] at s1
    simp only [rndW, if_pos h0]
    simp only [DyA, A3, fmA] at *
    repeat' (first | (simp (maxSteps := 1000000) only [evB, if_true, if_false, ne_eq, Nat.reduceEqDiff, Nat.reduceAdd, reduceCtorEq, Int.reduceLE, Int.reduceLT, Int.reduceEq, Int.reduceNeg, Int.reduceToNat, Int.reducePow, Int.reduceMod, Int.reduceDiv, Int.reduceSub, Int.reduceAdd, Int.reduceMul, Nat.reduceMul, Nat.reduceSub, Nat.reducePow, exB, resC_ptr, res_cell, nilb, nilf, faddr_p, c_round_Round, o1, s1]) | (simp (maxSteps := 1000000) (disch := first | with_reducible assumption | omega) only [dxB]) | (simp only [kI_d, kG_dt, kG_df]; split) | (simp only [kI_v, kG_vt, kG_vf]; split))
    all_goals rfl
  · have hb := may_blen f1
    have p1 := round_partOf (G := G) hA hG hT (z := z) f1 h0 (by omega)
    have w1 := round_word (G := G) hA hC hG hD hT F hm (neg := d.n) (more := behindN d.m) (w := headN d.m) (top := d.e + blen d.m) (headN_blen h0) (by omega)
    rw [partW_eq F m h0] at w1
    rw [if_neg h0] at s1
    cases hn : d.n <;> (
      simp only [DyA, A3, fmA, partA, hn, Bool.false_eq_true, if_true, if_false] at *
      repeat' (first | (simp (maxSteps := 1000000) only [evB, if_true, if_false, ne_eq, Nat.reduceEqDiff, Nat.reduceAdd, reduceCtorEq, Int.reduceLE, Int.reduceLT, Int.reduceEq, Int.reduceNeg, Int.reduceToNat, Int.reducePow, Int.reduceMod, Int.reduceDiv, Int.reduceSub, Int.reduceAdd, Int.reduceMul, Nat.reduceMul, Nat.reduceSub, Nat.reducePow, exB, resC_ptr, res_cell, nilb, nilf, faddr_p, c_round_Round, o1, s1, p1, w1]) | (simp (maxSteps := 1000000) (disch := first | with_reducible assumption | omega) only [dxB]) | (simp only [kI_d, kG_dt, kG_df]; split) | (simp only [kI_v, kG_vt, kG_vf]; split)))

end Go.Cv

/-
  Dyadic numbers as whole numbers of a common unit.
-/
namespace Go.Cv

/-- How many units of 2^L a number is. -/
def iv (d : Dy) (L : Int) : Int := (if d.n then -1 else 1) * ((d.m * 2 ^ (d.e - L).toNat : Nat) : Int)
def LoE (d : Dy) (L : Int) : Prop := d.m = 0 ∨ L ≤ d.e
def sgI (x : Int) : Int := if x < 0 then -1 else if 0 < x then 1 else 0

theorem iv_zero {d : Dy} (h : d.m = 0) (L : Int) : iv d L = 0 := by simp [iv, h]
theorem two_split {a b c : Int} (h1 : a ≤ b) (h2 : b ≤ c) : 2 ^ (c - a).toNat = 2 ^ (c - b).toNat * 2 ^ (b - a).toNat := by
  rw [← Nat.pow_add]; congr 1; omega
theorem mkD_val {n : Bool} {m : Nat} (h : m ≠ 0) {e L : Int} (hL : L ≤ e) : (mkD n m e).m * 2 ^ ((mkD n m e).e - L).toNat = m * 2 ^ (e - L).toNat := by
  rw [mkD_pos h]
  simp only
  rw [two_split (b := e) hL (by omega), show (e + (tz m : Int) - e).toNat = tz m by omega, ← Nat.mul_assoc, ← (tz_spec h).1]
theorem mkD_n {n : Bool} {m : Nat} (h : m ≠ 0) (e : Int) : (mkD n m e).n = n := by rw [mkD_pos h]
theorem iv_mk {n : Bool} {m : Nat} {e L : Int} (hL : L ≤ e) : iv (mkD n m e) L = (if n then -1 else 1) * ((m * 2 ^ (e - L).toNat : Nat) : Int) := by
  by_cases h : m = 0
  · subst h; rw [mkD_zero]; simp [iv]
  · unfold iv; rw [mkD_val h hL, mkD_n h]
theorem LoE_mk {n : Bool} {m : Nat} {e L : Int} (hL : L ≤ e) : LoE (mkD n m e) L := by
  by_cases h : m = 0
  · subst h; exact Or.inl rfl
  · right; rw [mkD_pos h]; simp only; omega
theorem LoE.mono {d : Dy} {L L' : Int} (h : LoE d L) (hl : L' ≤ L) : LoE d L' := h.imp id (by omega)
theorem iv_scale {d : Dy} {L L' : Int} (h : LoE d L) (hl : L' ≤ L) : iv d L' = iv d L * ((2 ^ (L - L').toNat : Nat) : Int) := by
  rcases h with h | h
  · rw [iv_zero h, iv_zero h]; simp
  · unfold iv
    rw [two_split hl h, ← Nat.mul_assoc, Int.natCast_mul, Int.mul_assoc]
theorem iv_neg (d : Dy) (L : Int) : iv (negD d) L = -iv d L := by
  unfold negD; split
  · next h => rw [iv_zero h]; rfl
  · unfold iv; cases d.n <;> simp
theorem LoE_neg {d : Dy} {L : Int} (h : LoE d L) : LoE (negD d) L := by
  unfold negD; split
  · exact h
  · exact h
theorem iv_abs (d : Dy) (L : Int) : iv (absD d) L = ((d.m * 2 ^ (d.e - L).toNat : Nat) : Int) := by simp [iv, absD]
theorem sgn_mul (n : Bool) (a b : Int) : (if n then -1 else 1) * a + (if n then -1 else 1) * b = (if n then -1 else 1) * (a + b) := by cases n <;> simp <;> omega

theorem iv_add {a b : Dy} {L : Int} (ha : LoE a L) (hb : LoE b L) : iv (addD a b) L = iv a L + iv b L ∧ LoE (addD a b) L := by
  unfold addD
  by_cases h0 : a.m = 0
  · rw [if_pos h0, iv_zero h0, Int.zero_add]; exact ⟨rfl, hb⟩
  · rw [if_neg h0]
    by_cases h1 : b.m = 0
    · rw [if_pos h1, iv_zero h1, Int.add_zero]; exact ⟨rfl, ha⟩
    · rw [if_neg h1]
      have la : L ≤ a.e := ha.resolve_left h0
      have lb : L ≤ b.e := hb.resolve_left h1
      have hL : L ≤ min a.e b.e := by omega
      have va : iv a L = (if a.n then -1 else 1) * (((a.m * 2 ^ (a.e - min a.e b.e).toNat) * 2 ^ (min a.e b.e - L).toNat : Nat) : Int) := by
        unfold iv; rw [two_split hL (show min a.e b.e ≤ a.e by omega), Nat.mul_assoc]
      have vb : iv b L = (if b.n then -1 else 1) * (((b.m * 2 ^ (b.e - min a.e b.e).toNat) * 2 ^ (min a.e b.e - L).toNat : Nat) : Int) := by
        unfold iv; rw [two_split hL (show min a.e b.e ≤ b.e by omega), Nat.mul_assoc]
      rw [va, vb]
      generalize a.m * 2 ^ (a.e - min a.e b.e).toNat = A
      generalize b.m * 2 ^ (b.e - min a.e b.e).toNat = B
      generalize hM : min a.e b.e = M at *
      by_cases hn : a.n = b.n
      · rw [if_pos hn]
        refine ⟨?_, LoE_mk hL⟩
        rw [iv_mk hL, ← hn, sgn_mul, Nat.add_mul, Int.natCast_add]
      · rw [if_neg hn]
        have hbn : b.n = !a.n := by cases h : a.n <;> cases h' : b.n <;> simp_all
        by_cases hc : B ≤ A
        · rw [if_pos hc]
          refine ⟨?_, LoE_mk hL⟩
          rw [iv_mk hL, hbn]
          have := Nat.mul_le_mul_right (2 ^ (M - L).toNat) hc
          rw [Nat.sub_mul, Int.natCast_sub this]
          cases a.n <;> simp <;> omega
        · rw [if_neg hc]
          refine ⟨?_, LoE_mk hL⟩
          rw [iv_mk hL, hbn]
          have := Nat.mul_le_mul_right (2 ^ (M - L).toNat) (by omega : A ≤ B)
          rw [Nat.sub_mul, Int.natCast_sub this]
          cases a.n <;> simp <;> omega
theorem iv_sub {a b : Dy} {L : Int} (ha : LoE a L) (hb : LoE b L) : iv (subD a b) L = iv a L - iv b L ∧ LoE (subD a b) L := by
  have h := iv_add ha (LoE_neg hb)
  rw [iv_neg] at h
  exact ⟨by unfold subD; rw [h.1]; omega, h.2⟩
theorem sgn_iv (d : Dy) (L : Int) : sgnD d = sgI (iv d L) := by
  unfold sgnD sgI iv
  have hp := Nat.two_pow_pos (d.e - L).toNat
  by_cases h : d.m = 0
  · simp [h]
  · rw [if_neg h]
    have : 0 < d.m * 2 ^ (d.e - L).toNat := Nat.mul_pos (by omega) hp
    generalize d.m * 2 ^ (d.e - L).toNat = X at *
    cases d.n <;> simp <;> omega

theorem top_lt {a b : Dy} {L : Int} (h0 : a.m ≠ 0) (h1 : b.m ≠ 0) (la : L ≤ a.e) (lb : L ≤ b.e) (h : a.e + blen a.m < b.e + blen b.m) : a.m * 2 ^ (a.e - L).toNat < b.m * 2 ^ (b.e - L).toNat := by
  have e1 := blen_mul h0 (a.e - L).toNat
  have e2 := blen_mul h1 (b.e - L).toNat
  have h2 : blen (a.m * 2 ^ (a.e - L).toNat) ≤ blen (b.m * 2 ^ (b.e - L).toNat) - 1 := by omega
  have h3 := blen_le.1 h2
  have h4 := pow_blen_le (n := b.m * 2 ^ (b.e - L).toNat) (by
    have := Nat.mul_pos (Nat.pos_of_ne_zero h1) (Nat.two_pow_pos (b.e - L).toNat); omega)
  omega
theorem cmp_iv {a b : Dy} {L : Int} (ha : LoE a L) (hb : LoE b L) : cmpD a b = sgI (iv a L - iv b L) := by
  unfold cmpD
  have sa := sgn_iv a L
  have sb := sgn_iv b L
  by_cases h1 : sgnD a = sgnD b
  · rw [if_neg (by simpa using h1)]
    by_cases h2 : sgnD a = 0
    · rw [if_pos h2]
      have z1 : a.m = 0 := by unfold sgnD at h2; split at h2; assumption; split at h2 <;> cases h2
      have z2 : b.m = 0 := by rw [h1] at h2; unfold sgnD at h2; split at h2; assumption; split at h2 <;> cases h2
      rw [iv_zero z1, iv_zero z2]; rfl
    · rw [if_neg h2]
      have n1 : a.m ≠ 0 := by intro h; apply h2; simp [sgnD, h]
      have n2 : b.m ≠ 0 := by intro h; apply h2; rw [h1]; simp [sgnD, h]
      have la := ha.resolve_left n1
      have lb := hb.resolve_left n2
      have hs : a.n = b.n := by
        unfold sgnD at h1; rw [if_neg n1, if_neg n2] at h1
        cases h : a.n <;> cases h' : b.n <;> simp_all
      have t1 : topD a = a.e + blen a.m := by unfold topD; rw [if_neg n1]
      have t2 : topD b = b.e + blen b.m := by unfold topD; rw [if_neg n2]
      have sg : sgnD a = if a.n then -1 else 1 := by unfold sgnD; rw [if_neg n1]
      by_cases h3 : topD a = topD b
      · rw [if_neg (by simpa using h3)]
        rw [sgn_iv _ L, (iv_sub ha hb).1]
      · rw [if_pos h3]
        rw [t1, t2] at *
        rcases Int.lt_or_gt_of_ne h3 with h4 | h4
        · have := top_lt n1 n2 la lb h4
          unfold iv sgI
          rw [← hs, sg, decide_eq_true h4]
          generalize a.m * 2 ^ (a.e - L).toNat = X at *
          generalize b.m * 2 ^ (b.e - L).toNat = Y at *
          cases a.n <;> simp <;> omega
        · have := top_lt n2 n1 lb la h4
          have h5 : ¬ (a.e + (blen a.m : Int) < b.e + blen b.m) := by omega
          unfold iv sgI
          rw [← hs, sg, decide_eq_false h5]
          generalize a.m * 2 ^ (a.e - L).toNat = X at *
          generalize b.m * 2 ^ (b.e - L).toNat = Y at *
          cases a.n <;> simp <;> omega
  · rw [if_pos (by simpa using h1)]
    rw [sa, sb] at *
    unfold sgI at *
    generalize iv a L = x at *
    generalize iv b L = y at *
    by_cases x1 : x < 0 <;> by_cases x2 : 0 < x <;> by_cases y1 : y < 0 <;> by_cases y2 : 0 < y <;> simp_all <;> omega
end Go.Cv

/-
  The document's rounding: what is taken of a number.
-/
namespace Go.Cv
variable {G : Nat → Option (List AV)} {T : Tbl} {g : Nat}

theorem ref04_Is (hT : HasE g T) {m : Int} : run G T 28 [.int .u8 m] = some (.bool (decide (1 ≤ m ∧ m ≤ 5))) := by
  rw [run_k G T hT.ref04_Is]
  repeat' (first | (simp (maxSteps := 1000000) only [evB, if_true, if_false, ne_eq, Nat.reduceEqDiff, Nat.reduceAdd, reduceCtorEq, Int.reduceLE, Int.reduceLT, Int.reduceEq, Int.reduceNeg, Int.reduceToNat, Int.reducePow, Int.reduceMod, Int.reduceDiv, Int.reduceSub, Int.reduceAdd, Int.reduceMul, Nat.reduceMul, Nat.reduceSub, Nat.reducePow, exB, resC_ptr, res_cell, nilb, nilf, faddr_p, c_ref04_Is]) | (simp (maxSteps := 1000000) (disch := first | with_reducible assumption | omega) only [dxB]) | (simp only [kI_d, kG_dt, kG_df]; split) | (simp only [kI_v, kG_vt, kG_vf]; split))
  all_goals simp_all
theorem dl_inj {a b : Nat} : dl a = dl b ↔ a = b := ⟨fun h => by rw [← val_dl a, h, val_dl], fun h => by rw [h]⟩
def sameD (a b : Dy) : Prop := a.n = b.n ∧ a.e = b.e ∧ a.m = b.m
instance (a b : Dy) : Decidable (sameD a b) := inferInstanceAs (Decidable (_ ∧ _ ∧ _))
theorem same_dy (hB : HasB g T) (hC : HasC g T) {z y : Bool} {a b : Dy} (hs : (dl a.m).length < 1099511627776) : run G T 14 [DyA z a, DyA y b] = some (.bool (decide (sameD a b))) := by
  have h := ref02_Same (G := G) (T := T) hB hC (n := a.n) (n' := b.n) (z := z) (z' := y) (l := dl a.m) (l' := dl b.m) (e := a.e) (e' := b.e) hs
  simp only [dl_inj] at h
  exact h

theorem Bd.mono {d : Dy} {K L : Nat} (h : Bd d K) (hl : K ≤ L) : Bd d L := ⟨by have := h.bl; omega, by have := h.lo; omega, by have := h.hi; omega⟩
theorem Bd_mk {n : Bool} {m : Nat} {e : Int} {K : Nat} (h1 : blen m ≤ K) (h2 : -(K : Int) ≤ e) (h3 : e + blen m ≤ K) : Bd (mkD n m e) K := by
  by_cases h : m = 0
  · subst h; rw [mkD_zero]; exact ⟨by simp only [blen_zero]; omega, by simp only; omega, by simp only; omega⟩
  · rw [mkD_pos h]
    have := tz_blen h
    exact ⟨by simp only [blen_div]; omega, by simp only; omega, by simp only; omega⟩
theorem Bd_add {a b : Dy} {K : Nat} (ha : Bd a K) (hb : Bd b K) : Bd (addD a b) (4 * K + 1) := by
  obtain ⟨a1, a2, a3⟩ := ha
  obtain ⟨b1, b2, b3⟩ := hb
  unfold addD
  have x1 := blen_mul_le a.m (a.e - min a.e b.e).toNat
  have x2 := blen_mul_le b.m (b.e - min a.e b.e).toNat
  generalize a.m * 2 ^ (a.e - min a.e b.e).toNat = A at *
  generalize b.m * 2 ^ (b.e - min a.e b.e).toNat = B at *
  have s1 := blen_add_le A B
  have s2 := blen_mono (Nat.sub_le A B)
  have s3 := blen_mono (Nat.sub_le B A)
  split
  · exact ⟨by omega, by omega, by omega⟩
  · split
    · exact ⟨by omega, by omega, by omega⟩
    · split
      · exact Bd_mk (by omega) (by omega) (by omega)
      · split
        · exact Bd_mk (by omega) (by omega) (by omega)
        · exact Bd_mk (by omega) (by omega) (by omega)
theorem Bd_sub {a b : Dy} {K : Nat} (ha : Bd a K) (hb : Bd b K) : Bd (subD a b) (4 * K + 1) := Bd_add ha hb.neg
end Go.Cv

/-
  The document's rounding: what is taken of a number, step by step.
-/
namespace Go.Cv
variable {G : Nat → Option (List AV)} {T : Tbl} {g : Nat}

def lowD (x : Dy) (u : Int) : Dy := shD (floorD (shD x (-u))) u
def evenD (x : Dy) (u : Int) : Prop := sameD (floorD (shD (shD (lowD x u) (-u)) (-1))) (shD (shD (lowD x u) (-u)) (-1))
instance (x : Dy) (u : Int) : Decidable (evenD x u) := inferInstanceAs (Decidable (sameD _ _))
end Go.Cv

/-
  What the document takes of a number is what rounding tells in units.
-/
namespace Go.Cv

/-- In the one form. -/
def Nz (d : Dy) : Prop := (d.m = 0 → d = ⟨false, 0, 0⟩) ∧ (d.m ≠ 0 → d.m % 2 = 1)
theorem Nz_mk (n : Bool) (m : Nat) (e : Int) : Nz (mkD n m e) := by
  by_cases h : m = 0
  · subst h; rw [mkD_zero]; exact ⟨fun _ => rfl, fun h => absurd rfl h⟩
  · have h0 := mkD_m0 (n := n) h e
    refine ⟨fun h1 => absurd h1 h0, fun _ => ?_⟩
    rw [mkD_pos h]; exact (tz_spec h).2
theorem Nz_neg {d : Dy} (h : Nz d) : Nz (negD d) := by
  unfold negD; split
  · exact h
  · next h0 => exact ⟨fun h1 => absurd h1 h0, h.2⟩
theorem Nz_add {a b : Dy} (ha : Nz a) (hb : Nz b) : Nz (addD a b) := by
  unfold addD; split
  · exact hb
  · split
    · exact ha
    · split
      · exact Nz_mk ..
      · split <;> exact Nz_mk ..
theorem sgI_neg {x : Int} : sgI x < 0 ↔ x < 0 := by unfold sgI; split <;> (try split) <;> omega
theorem sgI_pos {x : Int} : 0 < sgI x ↔ 0 < x := by unfold sgI; split <;> (try split) <;> omega
theorem half_spec (m : Nat) {k : Nat} (hk : 0 < k) : m % 2 ^ k = (if halfN m k then 2 ^ (k - 1) else 0) + m % 2 ^ (k - 1) ∧ m % 2 ^ (k - 1) < 2 ^ (k - 1) ∧ 2 ^ k = 2 * 2 ^ (k - 1) := by
  obtain ⟨i, rfl⟩ : ∃ i, k = i + 1 := ⟨k - 1, by omega⟩
  refine ⟨?_, Nat.mod_lt _ (Nat.two_pow_pos _), by rw [Nat.add_sub_cancel, Nat.pow_succ]; omega⟩
  rw [Nat.pow_succ, Nat.mod_mul, Nat.add_sub_cancel]
  simp only [halfN, Nat.add_sub_cancel]
  have : m / 2 ^ i % 2 = 0 ∨ m / 2 ^ i % 2 = 1 := by omega
  rcases this with h | h <;> simp [h] <;> omega

theorem rnd_bd (F : Fm) {md : Int} {d : Dy} (h : d.m ≠ 0) : (rnd md d.n d.m d.e (F.eOf (d.e + blen d.m))).1 ≤ 2 ^ (F.fr + 1) ∧
    (F.eOf (d.e + blen d.m) = F.low ∨ 2 ^ F.fr ≤ (rnd md d.n d.m d.e (F.eOf (d.e + blen d.m))).1) ∧
    (rnd md d.n d.m d.e (d.e + blen d.m - F.fr - 1)).1 ≤ 2 ^ (F.fr + 1) ∧ 2 ^ F.fr ≤ (rnd md d.n d.m d.e (d.e + blen d.m - F.fr - 1)).1 := by
  have hF := fm_facts F
  have hw := headN_blen h
  have e1 := rdN_part md d.n h d.e (F.eOf (d.e + blen d.m)) (by unfold Fm.eOf; omega)
  have e2 := rdN_part md d.n h d.e (d.e + blen d.m - F.fr - 1) (by omega)
  have hE : F.eOf (d.e + blen d.m) = max (d.e + blen d.m - F.fr - 1) F.low := rfl
  change rdN md d.n (headN d.m) (behindN d.m) _ = _ at e1 e2
  rw [← e1, ← e2]
  rw [show (d.e + (blen d.m : Int) - F.fr - 1 - (d.e + blen d.m) + 64).toNat = 63 - F.fr by omega]
  refine ⟨rdN_bd hw (by omega), ?_, rdN_bd hw (by omega), ?_⟩
  · by_cases hl : F.eOf (d.e + blen d.m) = F.low
    · exact Or.inl hl
    · right
      rw [show (F.eOf (d.e + (blen d.m : Int)) - (d.e + blen d.m) + 64).toNat = 63 - F.fr by omega]
      have := rdN_lo (md := md) (neg := d.n) (more := behindN d.m) hw (k := 63 - F.fr) (by omega)
      rwa [show 63 - (63 - F.fr) = F.fr by omega] at this
  · have := rdN_lo (md := md) (neg := d.n) (more := behindN d.m) hw (k := 63 - F.fr) (by omega)
    rwa [show 63 - (63 - F.fr) = F.fr by omega] at this
end Go.Cv

/-
  The document's rounding: the word of a number.
-/
namespace Go.Cv
variable {G : Nat → Option (List AV)} {T : Tbl} {g : Nat}

end Go.Cv

/-
  The statements' small functions.
-/
namespace Go.Cv
variable {G : Nat → Option (List AV)} {T : Tbl} {g : Nat}

end Go.Cv

/-
  The statement on exact numbers.
-/
namespace Go.Cv
variable {G : Nat → Option (List AV)} {T : Tbl} {g : Nat}

theorem mayD_nz {n : Bool} {m : Nat} {e : Int} (h : mayD n (dl m) e = true) : Nz ⟨n, m, e⟩ := by
  obtain ⟨f1, f2, f3, f4, f5⟩ := mayD_facts h
  refine ⟨fun h0 => ?_, fun h0 => ?_⟩
  · simp only at h0; subst h0
    obtain ⟨a, b⟩ := f2 (by rw [dl_zero]; rfl)
    rw [a, b]
  · have := f3 (by rw [ne_eq, dl_len0]; exact h0)
    rwa [dg0] at this

end Go.Cv

/-
  The document's words: fields, classes, values, steps.
-/
namespace Go.Cv
variable {G : Nat → Option (List AV)} {T : Tbl} {g : Nat}

def Fm.ng (F : Fm) (w : Nat) : Bool := decide (F.sg ≤ w)
def Fm.ex (F : Fm) (w : Nat) : Nat := w % F.sg / 2 ^ F.fr
def Fm.fc (F : Fm) (w : Nat) : Nat := w % F.sg % 2 ^ F.fr
def Fm.cls (F : Fm) (w : Nat) : Int := if F.ex w = 0 then (if F.fc w = 0 then 1 else 2) else if F.ex w < F.most then 3 else if F.fc w = 0 then 4 else 5
def Fm.val (F : Fm) (w : Nat) : Dy := if F.ex w = 0 then mkD (F.ng w) (F.fc w) F.low else mkD (F.ng w) (2 ^ F.fr + F.fc w) (F.ex w - 1 + F.low)
/-- Is it a word of the format? -/
def Fm.ok (F : Fm) (w : Nat) : Prop := w < 2 * F.sg
def Fm.fin (F : Fm) (w : Nat) : Prop := F.ex w < F.most
instance (F : Fm) (w : Nat) : Decidable (F.fin w) := inferInstanceAs (Decidable (_ < _))
instance (F : Fm) (w : Nat) : Decidable (F.ok w) := inferInstanceAs (Decidable (_ < _))

theorem ref03_IsF (hD : HasD g T) (F : Fm) : run G T 27 [.int .u8 F.u] = some (.bool true) := by
  rw [ref03_Is hD]; cases F <;> rfl
theorem ref03_Good (hD : HasD g T) (hT : HasF g T) (F : Fm) {w : Nat} (hw : w < 18446744073709551616) : run G T 149 [.int .u8 F.u, .int .u64 (w : Int)] = some (.int .i64 (if w < 2 * F.sg then 0 else 6)) := by
  rw [run_k G T hT.ref03_Good]
  have h1 := ref03_IsF (G := G) (T := T) hD F
  by_cases hk : w < 2 * F.sg
  · rw [if_pos hk]
    cases F <;> (
      simp only [Fm.u, Fm.sg] at *
      repeat' (first | (simp (maxSteps := 1000000) only [evB, if_true, if_false, ne_eq, Nat.reduceEqDiff, Nat.reduceAdd, reduceCtorEq, Int.reduceLE, Int.reduceLT, Int.reduceEq, Int.reduceNeg, Int.reduceToNat, Int.reducePow, Int.reduceMod, Int.reduceDiv, Int.reduceSub, Int.reduceAdd, Int.reduceMul, Nat.reduceMul, Nat.reduceSub, Nat.reducePow, exB, resC_ptr, res_cell, nilb, nilf, faddr_p, c_ref03_Good, h1]) | (simp (maxSteps := 1000000) (disch := first | with_reducible assumption | omega) only [dxB]) | (simp only [kI_d, kG_dt, kG_df]; split) | (simp only [kI_v, kG_vt, kG_vf]; split)))
  · rw [if_neg hk]
    cases F <;> (
      simp only [Fm.u, Fm.sg] at *
      repeat' (first | (simp (maxSteps := 1000000) only [evB, if_true, if_false, ne_eq, Nat.reduceEqDiff, Nat.reduceAdd, reduceCtorEq, Int.reduceLE, Int.reduceLT, Int.reduceEq, Int.reduceNeg, Int.reduceToNat, Int.reducePow, Int.reduceMod, Int.reduceDiv, Int.reduceSub, Int.reduceAdd, Int.reduceMul, Nat.reduceMul, Nat.reduceSub, Nat.reducePow, exB, resC_ptr, res_cell, nilb, nilf, faddr_p, c_ref03_Good, h1]) | (simp (maxSteps := 1000000) (disch := first | with_reducible assumption | omega) only [dxB]) | (simp only [kI_d, kG_dt, kG_df]; split) | (simp only [kI_v, kG_vt, kG_vf]; split)))
    all_goals omega

theorem fld_eq {n n' : Bool} {x x' w w' : Int} (h1 : n = n') (h2 : x = x') (h3 : w = w') : some (AV.agg [.bool n, .int .i64 x, .int .u64 w]) = some (.agg [.bool n', .int .i64 x', .int .u64 w']) := by rw [h1, h2, h3]
theorem ref03_Split (hD : HasD g T) (hT : HasF g T) (F : Fm) {w : Nat} (hw : w < 18446744073709551616) : run G T 156 [.int .u8 F.u, .int .u64 (w : Int)] = some (fldA (F.ng w) (F.ex w) (F.fc w)) := by
  rw [run_k G T hT.ref03_Split]
  have h1 := ref03_Sign (G := G) (T := T) hD F
  have h2 := ref03_Frac (G := G) (T := T) hD F
  cases F <;> (
    simp only [Fm.u, Fm.ng, Fm.ex, Fm.fc, Fm.sg, Fm.fr, fldA, Int.cast_ofNat_Int, Nat.reducePow] at *
    repeat' (first | (simp (maxSteps := 1000000) only [evB, if_true, if_false, ne_eq, Nat.reduceEqDiff, Nat.reduceAdd, reduceCtorEq, Int.reduceLE, Int.reduceLT, Int.reduceEq, Int.reduceNeg, Int.reduceToNat, Int.reducePow, Int.reduceMod, Int.reduceDiv, Int.reduceSub, Int.reduceAdd, Int.reduceMul, Nat.reduceMul, Nat.reduceSub, Nat.reducePow, exB, resC_ptr, res_cell, nilb, nilf, faddr_p, c_ref03_Split, h1, h2]) | (simp (maxSteps := 1000000) (disch := first | with_reducible assumption | omega) only [dxB]) | (simp only [kI_d, kG_dt, kG_df]; split) | (simp only [kI_v, kG_vt, kG_vf]; split)))
  · exact fld_eq (by congr 1; apply propext; omega) rfl rfl
  · exact fld_eq (by congr 1; apply propext; omega) rfl rfl
theorem ref03_Class (hD : HasD g T) (hT : HasF g T) (F : Fm) {w : Nat} (hw : w < 18446744073709551616) : run G T 155 [.int .u8 F.u, .int .u64 (w : Int)] = some (.int .u8 (F.cls w)) := by
  rw [run_k G T hT.ref03_Class]
  have h1 := ref03_Split (G := G) (T := T) hD hT F hw
  have h2 := ref03_Most (G := G) (T := T) hD F
  unfold Fm.cls
  simp only [fldA] at *
  generalize F.ex w = x at *
  generalize F.fc w = y at *
  repeat' (first | (simp (maxSteps := 1000000) only [evB, if_true, if_false, ne_eq, Nat.reduceEqDiff, Nat.reduceAdd, reduceCtorEq, Int.reduceLE, Int.reduceLT, Int.reduceEq, Int.reduceNeg, Int.reduceToNat, Int.reducePow, Int.reduceMod, Int.reduceDiv, Int.reduceSub, Int.reduceAdd, Int.reduceMul, Nat.reduceMul, Nat.reduceSub, Nat.reducePow, exB, resC_ptr, res_cell, nilb, nilf, faddr_p, c_ref03_Class, h1, h2]) | (simp (maxSteps := 1000000) (disch := first | with_reducible assumption | omega) only [dxB]) | (simp only [kI_d, kG_dt, kG_df]; split) | (simp only [kI_v, kG_vt, kG_vf]; split))
  all_goals (refine some_int ?_; repeat (first | rw [if_pos (by omega)] | rw [if_neg (by omega)]))
theorem fin_cls (F : Fm) (w : Nat) : F.fin w ↔ F.cls w ≠ 4 ∧ F.cls w ≠ 5 := by
  have hm : 0 < F.most := by cases F <;> decide
  unfold Fm.fin Fm.cls
  generalize F.ex w = x
  generalize F.fc w = y
  repeat' split
  all_goals omega
theorem ref03_Finite (hD : HasD g T) (hT : HasF g T) (F : Fm) {w : Nat} (hw : w < 18446744073709551616) : run G T 150 [.int .u8 F.u, .int .u64 (w : Int)] = some (.bool (decide (F.fin w))) := by
  rw [run_k G T hT.ref03_Finite]
  have h1 := ref03_Class (G := G) (T := T) hD hT F hw
  have h2 := fin_cls F w
  by_cases h3 : F.fin w
  · have h4 := h2.1 h3
    rw [decide_eq_true h3]
    clear h2 h3
    generalize F.cls w = c at *
    repeat' (first | (simp (maxSteps := 1000000) only [evB, if_true, if_false, ne_eq, Nat.reduceEqDiff, Nat.reduceAdd, reduceCtorEq, Int.reduceLE, Int.reduceLT, Int.reduceEq, Int.reduceNeg, Int.reduceToNat, Int.reducePow, Int.reduceMod, Int.reduceDiv, Int.reduceSub, Int.reduceAdd, Int.reduceMul, Nat.reduceMul, Nat.reduceSub, Nat.reducePow, exB, resC_ptr, res_cell, nilb, nilf, faddr_p, c_ref03_Finite, h1]) | (simp (maxSteps := 1000000) (disch := first | with_reducible assumption | omega) only [dxB]) | (simp only [kI_d, kG_dt, kG_df]; split) | (simp only [kI_v, kG_vt, kG_vf]; split))
  · have h4 : F.cls w = 4 ∨ F.cls w = 5 := by
      by_cases a : F.cls w = 4
      · exact Or.inl a
      · by_cases b : F.cls w = 5
        · exact Or.inr b
        · exact absurd (h2.2 ⟨a, b⟩) h3
    rw [decide_eq_false h3]
    clear h2 h3
    generalize F.cls w = c at *
    repeat' (first | (simp (maxSteps := 1000000) only [evB, if_true, if_false, ne_eq, Nat.reduceEqDiff, Nat.reduceAdd, reduceCtorEq, Int.reduceLE, Int.reduceLT, Int.reduceEq, Int.reduceNeg, Int.reduceToNat, Int.reducePow, Int.reduceMod, Int.reduceDiv, Int.reduceSub, Int.reduceAdd, Int.reduceMul, Nat.reduceMul, Nat.reduceSub, Nat.reducePow, exB, resC_ptr, res_cell, nilb, nilf, faddr_p, c_ref03_Finite, h1]) | (simp (maxSteps := 1000000) (disch := first | with_reducible assumption | omega) only [dxB]) | (simp only [kI_d, kG_dt, kG_df]; split) | (simp only [kI_v, kG_vt, kG_vf]; split))
    all_goals (rcases h4 with rfl | rfl <;> simp_all)

theorem ref01_Of (hT : HasB g T) {n : Nat} (hn : n < 18446744073709551616) : ∃ z', run G T 46 [.int .u64 (n : Int)] = some (D z' (dl n)) := by
  apply exP
  rw [run_k G T hT.ref01_Of]
  have w1 : (n : Int) % 4294967296 = ((n % 4294967296 : Nat) : Int) := by omega
  have w2 : (n : Int) / 4294967296 % 4294967296 = ((n / 4294967296 : Nat) : Int) := by omega
  have hd : Dg [n % 4294967296, n / 4294967296] := Dg_cons.2 ⟨by omega, Dg_cons.2 ⟨by omega, Dg.nil⟩⟩
  have hv : val [n % 4294967296, n / 4294967296] = n := by simp only [val]; omega
  obtain ⟨z', hz⟩ := ref01_Trim (G := G) (T := T) hT (z := false) hd (by simp)
  rw [hv] at hz
  have hf : fillA (repA 2 [AV.int .u32 0]) [(0, 1, .int .u32 ((n % 4294967296 : Nat) : Int)), (1, 1, .int .u32 ((n / 4294967296 : Nat) : Int))] = some (cells [n % 4294967296, n / 4294967296]) := rfl
  have hok : (cells [n % 4294967296, n / 4294967296]).all okCell = true := cells_ok _
  have hsn : snapG (Heap.mem ⟨Heap.nil.b ++ [⟨cells [n % 4294967296, n / 4294967296], false⟩], Heap.nil.f⟩) 3 Heap.nil.b.length 0 2 1 = some (D false [n % 4294967296, n / 4294967296]) :=
    snap_own (Holds_new FreH.nil [n % 4294967296, n / 4294967296]) (Nat.le_refl 2)
  repeat (first | (simp (maxSteps := 1000000) only [evB, if_true, if_false, ne_eq, Nat.reduceEqDiff, Nat.reduceAdd, reduceCtorEq, Int.reduceLE, Int.reduceLT, Int.reduceEq, Int.reduceNeg, Int.reduceToNat, Int.reducePow, Int.reduceMod, Int.reduceDiv, Int.reduceSub, Int.reduceAdd, Int.reduceMul, Nat.reduceMul, Nat.reduceSub, Nat.reducePow, c_ref01_Of, w1, w2, hf, hok, hsn, hz]) | (simp (disch := omega) only [dsB]))
  exact Post.some ⟨z', rfl⟩

theorem ref03_Value (hA : HasA g T) (hB : HasB g T) (hC : HasC g T) (hD : HasD g T) (hT : HasF g T) (F : Fm) {w : Nat} (hw : w < 18446744073709551616) (hf : F.fin w) :
    ∃ z, run G T 151 [.int .u8 F.u, .int .u64 (w : Int)] = some (DyA z (F.val w)) := by
  apply exP
  rw [run_k G T hT.ref03_Value]
  have h1 := ref03_Split (G := G) (T := T) hD hT F hw
  have h2 := ref03_Low (G := G) (T := T) hD F
  have h3 := ref03_Frac (G := G) (T := T) hD F
  have hy : F.fc w < 2 ^ F.fr := Nat.mod_lt _ (Nat.two_pow_pos _)
  have hp : 2 ^ F.fr ≤ 4503599627370496 := by cases F <;> decide
  have hF := fm_facts F
  have hm : F.most ≤ 2047 := by cases F <;> decide
  unfold Fm.fin at hf
  unfold Fm.val
  generalize F.ex w = x at *
  generalize F.fc w = y at *
  generalize F.ng w = n at *
  have hb1 : blen y ≤ 53 := blen_le.2 (by omega)
  have hb2 : blen (2 ^ F.fr + y) ≤ 53 := blen_le.2 (by omega)
  have hl1 := dl_len_blen y
  have hl2 := dl_len_blen (2 ^ F.fr + y)
  have hmin : min F.fr 64 = F.fr := by omega
  have hp0 := Nat.two_pow_pos F.fr
  have hs1 : (1 * (2 : Int) ^ F.fr % 18446744073709551616 + (y : Int)) % 18446744073709551616 = ((2 ^ F.fr + y : Nat) : Int) := by rw [pow_cast]; omega
  by_cases h0 : x = 0
  · obtain ⟨z1, o1⟩ := ref01_Of (G := G) (T := T) hB (n := y) (by omega)
    obtain ⟨z2, o2⟩ := ref02_Form (G := G) (T := T) hB hC (n := n) (z := z1) (a := y) (e := F.low) (by omega) (by omega)
    subst h0
    rw [if_pos rfl]
    simp only [fldA, DyA, A3, cast0] at *
    repeat' (first | (simp (maxSteps := 1000000) only [evB, if_true, if_false, ne_eq, Nat.reduceEqDiff, Nat.reduceAdd, reduceCtorEq, Int.reduceLE, Int.reduceLT, Int.reduceEq, Int.reduceNeg, Int.reduceToNat, Int.reducePow, Int.reduceMod, Int.reduceDiv, Int.reduceSub, Int.reduceAdd, Int.reduceMul, Nat.reduceMul, Nat.reduceSub, Nat.reducePow, exB, resC_ptr, res_cell, nilb, nilf, faddr_p, c_ref03_Value, h1, h2, h3, o1, o2]) | (simp (maxSteps := 1000000) (disch := first | with_reducible assumption | omega) only [dxB]) | (simp only [kI_d, kG_dt, kG_df]; split) | (simp only [kI_v, kG_vt, kG_vf]; split))
    all_goals exact Post.some ⟨z2, rfl⟩
  · obtain ⟨z1, o1⟩ := ref01_Of (G := G) (T := T) hB (n := 2 ^ F.fr + y) (by omega)
    obtain ⟨z2, o2⟩ := ref02_Form (G := G) (T := T) hB hC (n := n) (z := z1) (a := 2 ^ F.fr + y) (e := x - 1 + F.low) (by omega) (by omega)
    rw [if_neg h0]
    simp only [fldA, DyA, A3] at *
    repeat' (first | (simp (maxSteps := 1000000) only [evB, if_true, if_false, ne_eq, Nat.reduceEqDiff, Nat.reduceAdd, reduceCtorEq, Int.reduceLE, Int.reduceLT, Int.reduceEq, Int.reduceNeg, Int.reduceToNat, Int.reducePow, Int.reduceMod, Int.reduceDiv, Int.reduceSub, Int.reduceAdd, Int.reduceMul, Nat.reduceMul, Nat.reduceSub, Nat.reducePow, exB, resC_ptr, res_cell, nilb, nilf, faddr_p, c_ref03_Value, h1, h2, h3, hmin, hs1, o1, o2]) | (simp (maxSteps := 1000000) (disch := first | with_reducible assumption | omega) only [dxB]) | (simp only [kI_d, kG_dt, kG_df]; split) | (simp only [kI_v, kG_vt, kG_vf]; split))
    all_goals exact Post.some ⟨z2, rfl⟩
end Go.Cv

/-
  The document's words: steps; the statements' comparisons of words and numbers.
-/
namespace Go.Cv
variable {G : Nat → Option (List AV)} {T : Tbl} {g : Nat}

/-- One step up, of a word that is no NaN. -/
def Fm.up (F : Fm) (w : Nat) : Nat × Bool := if F.cls w = 4 ∧ F.ng w = false then (0, false) else if F.cls w = 1 then (1, true) else if F.ng w then (w - 1, true) else (w + 1, true)
theorem Bd_val (F : Fm) {w : Nat} (hf : F.fin w) : Bd (F.val w) 4096 := by
  have hm : F.most ≤ 2047 := by cases F <;> decide
  have hy : F.fc w < 2 ^ F.fr := Nat.mod_lt _ (Nat.two_pow_pos _)
  have hp : 2 ^ F.fr ≤ 4503599627370496 := by cases F <;> decide
  have hF := fm_facts F
  unfold Fm.fin at hf
  unfold Fm.val
  generalize F.ex w = x at *
  generalize F.fc w = y at *
  have hb1 : blen y ≤ 53 := blen_le.2 (by omega)
  have hb2 : blen (2 ^ F.fr + y) ≤ 53 := blen_le.2 (by omega)
  split
  · exact Bd_mk (by omega) (by omega) (by omega)
  · exact Bd_mk (by omega) (by omega) (by omega)

section
variable (hA : HasA g T) (hB : HasB g T) (hC : HasC g T) (hD : HasD g T) (hT : HasF g T) (F : Fm)

end
/-- Is the one word's value not below the other one's? -/
def aboveW (F : Fm) (a b : Nat) : Bool := if a = F.inf false ∨ b = F.inf true then true else if a = F.inf true ∨ b = F.inf false then decide (a = b) else decide (0 ≤ cmpD (F.val a) (F.val b))
end Go.Cv

/-
  Rounding: what the units are worth; order; words as sizes.
-/
namespace Go.Cv

theorem upB_ex (md : Int) (neg odd : Bool) : upB md neg odd false false = false := by simp [upB]

theorem rnd_L (md : Int) (neg : Bool) (M : Nat) {E u L : Int} (h1 : L ≤ E) (h2 : L < u) : rnd md neg M E u = rdN md neg (M * 2 ^ (E - L).toNat) false (u - L).toNat := by
  rw [rdN_up _ _ _ _ _ (by omega)]
  unfold rnd
  by_cases h : u ≤ E
  · rw [if_pos h, if_pos (by omega), show (E - L).toNat - (u - L).toNat = (E - u).toNat by omega]
  · rw [if_neg h, if_neg (by omega), show (u - L).toNat - (E - L).toNat = (u - E).toNat by omega]

/-- What rounding tells: the whole units W, and whether one more is told (b). -/
structure Rd (md : Int) (neg : Bool) (A U W : Nat) (ex b : Bool) : Prop where
  lo : W * U ≤ A
  hi : A < (W + 1) * U
  exi : ex = true ↔ A = W * U
  xb : ex = true → b = false
  b3 : md = 3 → b = false
  b4 : md = 4 → b = (!neg && !ex)
  b5 : md = 5 → b = (neg && !ex)
  near : md = 1 ∨ md = 2 → (b = true → (2 * W + 1) * U ≤ 2 * A) ∧ (b = false → 2 * A ≤ (2 * W + 1) * U)

theorem rdN_Rd (md : Int) (neg : Bool) (A : Nat) {k : Nat} (hk : 0 < k) : ∃ b, rdN md neg A false k = (A / 2 ^ k + b.toNat, decide (A % 2 ^ k = 0)) ∧ Rd md neg A (2 ^ k) (A / 2 ^ k) (decide (A % 2 ^ k = 0)) b := by
  obtain ⟨q1, q2, q3⟩ := half_spec A hk
  have hd := Nat.div_add_mod A (2 ^ k)
  have hml := Nat.mod_lt A (Nat.two_pow_pos k)
  refine ⟨upB md neg (decide (A / 2 ^ k % 2 = 1)) (halfN A k) (moreN A false k), ?_, ?_⟩
  · simp only [rdN]
    congr 1
    simp only [moreN, Bool.false_or]
    cases hh : halfN A k
    · rw [hh] at q1; simp only [Bool.false_eq_true, if_false, Nat.zero_add] at q1
      rw [q1]; simp
    · rw [hh] at q1; simp only [if_true] at q1
      have : A % 2 ^ k ≠ 0 := by omega
      simp [this]
  · have hmo : moreN A false k = decide (A % 2 ^ (k - 1) ≠ 0) := by simp [moreN]
    rw [hmo]
    generalize halfN A k = hf at *
    generalize A % 2 ^ (k - 1) = S at *
    generalize A % 2 ^ k = R at *
    generalize A / 2 ^ k = W at *
    rw [q3] at *
    generalize 2 ^ (k - 1) = P at *
    have e1 : W * (2 * P) = 2 * P * W := Nat.mul_comm ..
    have e2 : (W + 1) * (2 * P) = 2 * P * W + 2 * P := by rw [Nat.add_mul, Nat.one_mul, e1]
    have e3 : (2 * W + 1) * (2 * P) = 2 * (2 * P * W) + 2 * P := by rw [Nat.add_mul, Nat.one_mul, Nat.mul_assoc, e1]
    refine ⟨by rw [e1]; omega, by rw [e2]; omega, ?_, ?_, ?_, ?_, ?_, ?_⟩
    · rw [decide_eq_true_eq, e1]; omega
    · intro h; simp only [decide_eq_true_eq] at h
      have : hf = false ∧ S = 0 := by cases hf <;> simp at q1 <;> (try constructor) <;> (try rfl) <;> omega
      rw [this.1, this.2]; exact upB_ex ..
    · rintro rfl; simp [upB]
    · rintro rfl
      cases hf <;> cases neg <;> by_cases hS : S = 0 <;> simp [upB, hS] at q1 ⊢ <;> omega
    · rintro rfl
      cases hf <;> cases neg <;> by_cases hS : S = 0 <;> simp [upB, hS] at q1 ⊢ <;> omega
    · rw [e3]
      generalize 2 * P * W = Q at *
      rintro (rfl | rfl)
      · cases hf <;> by_cases hS : S = 0 <;> simp [upB, hS] at q1 ⊢ <;> (try constructor) <;> (try intro _) <;> omega
      · cases hf <;> by_cases hS : S = 0 <;> simp [upB, hS] at q1 ⊢ <;> omega

theorem rnd_Rd (md : Int) (neg : Bool) (M : Nat) {E u L : Int} (h1 : L ≤ E) (h2 : L < u) :
    ∃ b, rnd md neg M E u = (M * 2 ^ (E - L).toNat / 2 ^ (u - L).toNat + b.toNat, decide (M * 2 ^ (E - L).toNat % 2 ^ (u - L).toNat = 0)) ∧
      Rd md neg (M * 2 ^ (E - L).toNat) (2 ^ (u - L).toNat) (M * 2 ^ (E - L).toNat / 2 ^ (u - L).toNat) (decide (M * 2 ^ (E - L).toNat % 2 ^ (u - L).toNat = 0)) b := by
  rw [rnd_L md neg M h1 h2]
  exact rdN_Rd md neg _ (by omega)

theorem rdN_mono (md : Int) (neg : Bool) {A B : Nat} (h : A ≤ B) {k : Nat} (hk : 0 < k) : (rdN md neg A false k).1 ≤ (rdN md neg B false k).1 := by
  have hdiv : A / 2 ^ k ≤ B / 2 ^ k := Nat.div_le_div_right h
  have hb : ∀ b : Bool, b.toNat ≤ 1 := fun b => by cases b <;> decide
  simp only [rdN]
  by_cases he : A / 2 ^ k = B / 2 ^ k
  · rw [he]
    obtain ⟨q1, q2, q3⟩ := half_spec A hk
    obtain ⟨r1, r2, _⟩ := half_spec B hk
    have hd := Nat.div_add_mod A (2 ^ k)
    have hd' := Nat.div_add_mod B (2 ^ k)
    rw [he] at hd
    have hR : A % 2 ^ k ≤ B % 2 ^ k := by omega
    have m1 : moreN A false k = decide (A % 2 ^ (k - 1) ≠ 0) := by simp [moreN]
    have m2 : moreN B false k = decide (B % 2 ^ (k - 1) ≠ 0) := by simp [moreN]
    rw [m1, m2]
    generalize halfN A k = f1 at *
    generalize halfN B k = f2 at *
    generalize A % 2 ^ (k - 1) = S1 at *
    generalize B % 2 ^ (k - 1) = S2 at *
    generalize A % 2 ^ k = R1 at *
    generalize B % 2 ^ k = R2 at *
    generalize decide (B / 2 ^ k % 2 = 1) = od
    generalize 2 ^ (k - 1) = P at *
    have hle : (upB md neg od f1 (decide (S1 ≠ 0))) = true → (upB md neg od f2 (decide (S2 ≠ 0))) = true := by
      unfold upB
      clear hb m1 m2 hd hd' he hdiv h q3
      cases f1 <;> cases f2 <;> simp only [if_true, if_false, Bool.false_eq_true, Nat.zero_add] at q1 r1 <;> by_cases a : S1 = 0 <;> by_cases b : S2 = 0 <;>
        first
        | (exfalso; omega)
        | (cases neg <;> cases od <;> simp [a, b] <;> (try omega))
    generalize upB md neg od f1 (decide (S1 ≠ 0)) = b1 at *
    generalize upB md neg od f2 (decide (S2 ≠ 0)) = b2 at *
    cases b1 <;> cases b2 <;> simp at *
  · have := hb (upB md neg (decide (A / 2 ^ k % 2 = 1)) (halfN A k) (moreN A false k))
    omega
end Go.Cv

/-
  Words as sizes; what they are worth; what rounding tells, as words.
-/
namespace Go.Cv

/-- The infinite size. -/
def Fm.i0 (F : Fm) : Nat := F.most * 2 ^ F.fr
theorem inf_eq (F : Fm) (n : Bool) : F.inf n = F.i0 + F.sgn n := rfl
theorem fm_i0 (F : Fm) : F.i0 + 2 ^ F.fr = F.sg ∧ 0 < F.i0 ∧ 0 < F.sg ∧ F.sg ≤ 9223372036854775808 ∧ F.i0 < F.sg := by cases F <;> decide
/-- A size, in units of the least exponent. -/
def magN (F : Fm) (s : Nat) : Nat := if s / 2 ^ F.fr = 0 then s % 2 ^ F.fr else (2 ^ F.fr + s % 2 ^ F.fr) * 2 ^ (s / 2 ^ F.fr - 1)

theorem magN_step (F : Fm) (s : Nat) : magN F s < magN F (s + 1) := by
  unfold magN
  have hp := Nat.two_pow_pos F.fr
  generalize 2 ^ F.fr = P at *
  have hd := Nat.div_add_mod s P
  have hm := Nat.mod_lt s hp
  have hd' := Nat.div_add_mod (s + 1) P
  have hm' := Nat.mod_lt (s + 1) hp
  by_cases h : s % P + 1 < P
  · have e1 : (s + 1) / P = s / P := by
      rw [Nat.div_eq_of_lt_le] <;> (rw [Nat.mul_comm]; try rw [Nat.mul_add]) <;> omega
    have e2 : (s + 1) % P = s % P + 1 := by rw [e1] at hd'; omega
    rw [e1, e2]
    by_cases h0 : s / P = 0
    · rw [if_pos h0, if_pos h0]; omega
    · rw [if_neg h0, if_neg h0]
      exact Nat.mul_lt_mul_of_pos_right (by omega) (Nat.two_pow_pos _)
  · have e1 : (s + 1) / P = s / P + 1 := by
      rw [Nat.div_eq_of_lt_le] <;> (rw [Nat.mul_comm]; rw [Nat.mul_add]; try rw [Nat.mul_add]) <;> omega
    have e2 : (s + 1) % P = 0 := by rw [e1, Nat.mul_add] at hd'; generalize P * (s / P) = Q at *; omega
    have e3 : ¬ (s / P + 1 = 0) := by generalize s / P = Q; omega
    rw [e1, e2]
    by_cases h0 : s / P = 0
    · rw [if_pos h0, h0]; simp; omega
    · rw [if_neg h0, if_neg e3]
      obtain ⟨k, hk⟩ := Nat.exists_eq_succ_of_ne_zero h0
      rw [hk]
      simp only [Nat.add_sub_cancel, Nat.add_zero]
      rw [Nat.pow_succ, ← Nat.mul_assoc, Nat.mul_comm (P * 2 ^ k) 2, ← Nat.mul_assoc]
      exact Nat.mul_lt_mul_of_pos_right (by omega) (Nat.two_pow_pos _)
theorem magN_lt (F : Fm) {a b : Nat} (h : a < b) : magN F a < magN F b := by
  obtain ⟨k, rfl⟩ : ∃ k, b = a + 1 + k := ⟨b - a - 1, by omega⟩
  clear h
  induction k with
  | zero => exact magN_step F a
  | succ k ih => exact Nat.lt_trans ih (magN_step F _)
theorem magN_le (F : Fm) {a b : Nat} (h : a ≤ b) : magN F a ≤ magN F b := by
  rcases Nat.lt_or_ge a b with h1 | h1
  · exact Nat.le_of_lt (magN_lt F h1)
  · rw [Nat.le_antisymm h h1]; exact Nat.le_refl _
theorem magN_zero (F : Fm) : magN F 0 = 0 := by simp [magN]

theorem magN_enc (F : Fm) {n : Nat} {u : Int} (h1 : n ≤ 2 ^ (F.fr + 1)) (h2 : F.low ≤ u) (h3 : u = F.low ∨ 2 ^ F.fr ≤ n) : magN F (F.enc n u) = n * 2 ^ (u - F.low).toNat := by
  unfold magN Fm.enc
  have hp := Nat.two_pow_pos F.fr
  rw [Nat.pow_succ] at h1
  generalize 2 ^ F.fr = P at *
  generalize hk : (u - F.low).toNat = k at *
  have h3' : k = 0 ∨ P ≤ n := by omega
  clear h3 h2 hk
  have q : ∀ j r, r < P → (j * P + r) / P = j ∧ (j * P + r) % P = r := fun j r hr => by
    constructor
    · rw [Nat.mul_comm, Nat.mul_add_div hp, Nat.div_eq_of_lt hr]; rfl
    · rw [Nat.mul_comm, Nat.mul_add_mod, Nat.mod_eq_of_lt hr]
  rcases Nat.lt_or_ge n P with h | h
  · obtain rfl : k = 0 := by omega
    obtain ⟨e1, e2⟩ := q 0 n h
    rw [e1, e2]; simp
  · rcases Nat.lt_or_ge n (2 * P) with h4 | h4
    · obtain ⟨e1, e2⟩ := q (k + 1) (n - P) (by omega)
      have e3 : (k + 1) * P + (n - P) = k * P + n := by rw [Nat.add_mul]; omega
      rw [e3] at e1 e2
      rw [e1, e2, if_neg (by omega), Nat.add_sub_cancel, show P + (n - P) = n by omega]
    · obtain rfl : n = 2 * P := by omega
      obtain ⟨e1, e2⟩ := q (k + 2) 0 hp
      have e3 : (k + 2) * P + 0 = k * P + 2 * P := by rw [Nat.add_mul]; rfl
      rw [e3] at e1 e2
      rw [e1, e2, if_neg (by omega), show k + 2 - 1 = k + 1 by omega, Nat.pow_succ, Nat.add_zero, Nat.mul_comm (2 ^ k) 2, ← Nat.mul_assoc, Nat.mul_comm P 2]

theorem sgn_mod {F : Fm} {s : Nat} (n : Bool) (h : s < F.sg) : (s + F.sgn n) % F.sg = s ∧ F.ng (s + F.sgn n) = n := by
  unfold Fm.sgn Fm.ng
  cases n
  · simp only [Bool.false_eq_true, if_false, Nat.add_zero]
    exact ⟨Nat.mod_eq_of_lt h, decide_eq_false (by omega)⟩
  · simp only [if_true]
    exact ⟨by rw [Nat.add_mod_right]; exact Nat.mod_eq_of_lt h, decide_eq_true (by omega)⟩
theorem fin_size {F : Fm} {s : Nat} (n : Bool) (h : s < F.i0) : F.fin (s + F.sgn n) := by
  have hi := fm_i0 F
  unfold Fm.fin Fm.ex
  rw [(sgn_mod n (by omega : s < F.sg)).1]
  exact Nat.div_lt_of_lt_mul (by rw [Nat.mul_comm]; exact h)
theorem cls_inf (F : Fm) (n : Bool) : F.cls (F.inf n) = 4 := by cases F <;> cases n <;> decide
/-- What a finite word is worth. -/
theorem iv_val {F : Fm} {s : Nat} (n : Bool) (h : s < F.i0) : iv (F.val (s + F.sgn n)) F.low = (if n then -1 else 1) * (magN F s : Int) ∧ LoE (F.val (s + F.sgn n)) F.low ∧ Nz (F.val (s + F.sgn n)) := by
  have hi := fm_i0 F
  obtain ⟨e1, e2⟩ := sgn_mod n (by omega : s < F.sg)
  unfold Fm.val Fm.ex Fm.fc magN
  rw [e1, e2]
  split
  · next h0 =>
    refine ⟨?_, LoE_mk (Int.le_refl _), Nz_mk ..⟩
    rw [iv_mk (Int.le_refl _), Int.sub_self]; simp
  · next h0 =>
    have hx : F.low ≤ (s / 2 ^ F.fr : Nat) - 1 + F.low := by generalize s / 2 ^ F.fr = Q at *; omega
    refine ⟨?_, LoE_mk hx, Nz_mk ..⟩
    rw [iv_mk hx, show ((s / 2 ^ F.fr : Nat) - 1 + F.low - F.low : Int).toNat = s / 2 ^ F.fr - 1 by generalize s / 2 ^ F.fr = Q at *; omega]

theorem enc_succ (F : Fm) (n : Nat) (u : Int) : F.enc (n + 1) u = F.enc n u + 1 := rfl
theorem enc_big (F : Fm) {n : Nat} {u : Int} (h1 : n ≤ 2 ^ (F.fr + 1)) (h2 : F.low ≤ u) (h3 : u = F.low ∨ 2 ^ F.fr ≤ n) : (F.wide < blen n + u) ↔ F.i0 ≤ F.enc n u := by
  constructor
  · intro h
    have hF := fm_facts F
    have h3' : 2 ^ F.fr ≤ n := by
      rcases h3 with h3 | h3
      · exfalso
        have : blen n ≤ F.fr + 2 := blen_le.2 (Nat.lt_of_le_of_lt h1 (Nat.pow_lt_pow_right (by decide) (by omega)))
        omega
      · exact h3
    have hb := lt_blen.2 h3'
    have hm : (F.most : Int) = F.wide - F.low - F.fr + 1 := by cases F <;> decide
    unfold Fm.i0 Fm.enc
    rcases Nat.lt_or_ge n (2 ^ (F.fr + 1)) with h4 | h4
    · have := blen_le.2 h4
      obtain ⟨k, hk⟩ : ∃ k, (u - F.low).toNat = k := ⟨_, rfl⟩
      have h5 : F.most ≤ k + 1 := by omega
      have h6 := Nat.mul_le_mul_right (2 ^ F.fr) h5
      rw [Nat.add_mul, Nat.one_mul] at h6
      rw [hk]; omega
    · have h7 : n = 2 ^ F.fr * 2 := by rw [Nat.pow_succ] at h1 h4; omega
      have h8 : blen n = F.fr + 2 := by
        have := blen_mul (n := 1) (by decide) (F.fr + 1)
        rw [Nat.one_mul, Nat.pow_succ, ← h7, show blen 1 = 1 from rfl] at this; omega
      obtain ⟨k, hk⟩ : ∃ k, (u - F.low).toNat = k := ⟨_, rfl⟩
      have h5 : F.most ≤ k + 2 := by omega
      have h6 := Nat.mul_le_mul_right (2 ^ F.fr) h5
      rw [Nat.add_mul] at h6
      rw [hk]; omega
  · intro h
    by_cases hw : F.wide < blen n + u
    · exact hw
    · exfalso
      by_cases h0 : n = 0
      · subst h0
        have hu : u = F.low := by
          rcases h3 with h3 | h3
          · exact h3
          · have := Nat.two_pow_pos F.fr; omega
        rw [hu] at h
        have := (fm_i0 F).2.1
        simp [Fm.enc] at h; omega
      · have := enc_lt (mkD_fits (F := F) (neg := false) h0 h1 h2 (by omega))
        rw [mkD_enc h0 h1 h2 h3] at this
        unfold Fm.i0 at h; omega
end Go.Cv

/-
  What rounding tells, as words: the shape of all answers.
-/
namespace Go.Cv

/-- What stands for a size that is too great. -/
def ovs (F : Fm) (md : Int) (neg : Bool) : Nat := if md = 3 ∨ (md = 4 ∧ neg = true) ∨ (md = 5 ∧ neg = false) then F.i0 - 1 else F.i0
theorem ovr_eq (F : Fm) (md : Int) (neg : Bool) : ovr F md neg = ovs F md neg + F.sgn neg := by
  have := fm_i0 F
  unfold ovr ovs
  rw [inf_eq]
  split <;> omega

/-- All that rounding tells of a number that is not nought: e0 is the word's size below it. -/
structure Shp (F : Fm) (d : Dy) (L : Int) (A U W e0 : Nat) (u : Int) (ex : Bool) : Prop where
  hL : L < F.low ∧ L < d.e ∧ L < u
  hA : A = d.m * 2 ^ (d.e - L).toNat
  hU : U = 2 ^ (u - L).toNat
  lou : F.low ≤ u
  he0 : e0 = F.enc W u
  wb : W ≤ 2 ^ (F.fr + 1) ∧ (ex = false → W + 1 ≤ 2 ^ (F.fr + 1))
  wc : u = F.low ∨ 2 ^ F.fr ≤ W
  all : ∀ md : Int, 1 ≤ md → md ≤ 5 → ∃ b fl, rndW F md d = ((if F.i0 ≤ e0 + b.toNat then ovs F md d.n else e0 + b.toNat) + F.sgn d.n, if F.i0 ≤ e0 + b.toNat then 20 else if ex then 0 else fl) ∧
    (fl = 16 ∨ fl = 24) ∧ Rd md d.n A U W ex b

theorem shp_of (F : Fm) {d : Dy} (h0 : d.m ≠ 0) {L : Int} (l1 : L < F.low) (l2 : L < d.e) : ∃ A U W e0 u ex, Shp F d L A U W e0 u ex ∧ u = F.eOf (d.e + blen d.m) := by
  have hu : F.low ≤ F.eOf (d.e + blen d.m) := by unfold Fm.eOf; omega
  refine ⟨_, _, d.m * 2 ^ (d.e - L).toNat / 2 ^ (F.eOf (d.e + blen d.m) - L).toNat, _, F.eOf (d.e + blen d.m), decide (d.m * 2 ^ (d.e - L).toNat % 2 ^ (F.eOf (d.e + blen d.m) - L).toNat = 0), ⟨⟨l1, l2, by omega⟩, rfl, rfl, hu, rfl, ?_, ?_, ?_⟩, rfl⟩
  · obtain ⟨b, e1, R⟩ := rnd_Rd 3 d.n d.m (E := d.e) (u := F.eOf (d.e + blen d.m)) (L := L) (by omega) (by omega)
    have q := (rnd_bd F (md := 3) h0).1
    rw [e1, R.b3 rfl] at q
    refine ⟨by simpa using q, fun hx => ?_⟩
    cases hn : d.n
    · obtain ⟨b, e1, R⟩ := rnd_Rd 4 d.n d.m (E := d.e) (u := F.eOf (d.e + blen d.m)) (L := L) (by omega) (by omega)
      have q := (rnd_bd F (md := 4) h0).1
      rw [e1, R.b4 rfl, hx, hn] at q
      simpa using q
    · obtain ⟨b, e1, R⟩ := rnd_Rd 5 d.n d.m (E := d.e) (u := F.eOf (d.e + blen d.m)) (L := L) (by omega) (by omega)
      have q := (rnd_bd F (md := 5) h0).1
      rw [e1, R.b5 rfl, hx, hn] at q
      simpa using q
  · obtain ⟨b, e1, R⟩ := rnd_Rd 3 d.n d.m (E := d.e) (u := F.eOf (d.e + blen d.m)) (L := L) (by omega) (by omega)
    have q := (rnd_bd F (md := 3) h0).2.1
    rw [e1, R.b3 rfl] at q
    simpa using q
  · intro md m1 m2
    obtain ⟨b, e1, R⟩ := rnd_Rd md d.n d.m (E := d.e) (u := F.eOf (d.e + blen d.m)) (L := L) (by omega) (by omega)
    obtain ⟨q1, q2, _, _⟩ := rnd_bd F (md := md) h0
    have hb := enc_big F q1 hu q2
    have hs : rndW F md d = wordOf F md d.n (rnd md d.n d.m d.e (F.eOf (d.e + blen d.m))).1 (rnd md d.n d.m d.e (F.eOf (d.e + blen d.m))).2 (F.eOf (d.e + blen d.m)) (d.e + blen d.m) (rnd md d.n d.m d.e (d.e + blen d.m - F.fr - 1)).1 := by
      simp only [rndW, if_neg h0]
    have he : F.enc (rnd md d.n d.m d.e (F.eOf (d.e + blen d.m))).1 (F.eOf (d.e + blen d.m)) = F.enc (d.m * 2 ^ (d.e - L).toNat / 2 ^ (F.eOf (d.e + blen d.m) - L).toNat) (F.eOf (d.e + blen d.m)) + b.toNat := by
      rw [e1]; unfold Fm.enc; simp only; omega
    rw [he] at hb
    refine ⟨b, if blen (rnd md d.n d.m d.e (d.e + blen d.m - F.fr - 1)).1 + (d.e + blen d.m - F.fr - 1) < F.low + F.fr + 1 then 24 else 16, ?_, by split <;> simp, R⟩
    rw [hs]
    unfold wordOf
    rw [he]
    by_cases hv : F.wide < blen (rnd md d.n d.m d.e (F.eOf (d.e + blen d.m))).1 + F.eOf (d.e + blen d.m)
    · rw [if_pos hv, if_pos (hb.1 hv), if_pos (hb.1 hv), ovr_eq]
    · have hv' := fun h => hv (hb.2 h)
      rw [if_neg hv, if_neg hv', if_neg hv']
      congr 1
      rw [e1]

/-! ### the words that stand for sizes -/
theorem iv_val_L {F : Fm} {s : Nat} (n : Bool) (h : s < F.i0) {L : Int} (hL : L ≤ F.low) : iv (F.val (s + F.sgn n)) L = (if n then -1 else 1) * ((magN F s * 2 ^ (F.low - L).toNat : Nat) : Int) ∧ LoE (F.val (s + F.sgn n)) L := by
  obtain ⟨h1, h2, _⟩ := iv_val n h
  refine ⟨?_, h2.mono hL⟩
  rw [iv_scale h2 hL, h1, Int.mul_assoc, ← Int.natCast_mul]
theorem iv_num {d : Dy} {L : Int} : iv d L = (if d.n then -1 else 1) * ((d.m * 2 ^ (d.e - L).toNat : Nat) : Int) := rfl

section
variable {F : Fm} {d : Dy} {L : Int} {A U W e0 : Nat} {u : Int} {ex : Bool}
theorem Shp.worth (S : Shp F d L A U W e0 u ex) : magN F e0 * 2 ^ (F.low - L).toNat = W * U := by
  rw [S.he0, magN_enc F S.wb.1 S.lou S.wc, S.hU, Nat.mul_assoc, ← Nat.pow_add]
  have := S.hL; have := S.lou
  rw [show (u - F.low).toNat + (F.low - L).toNat = (u - L).toNat by omega]
theorem Shp.worth1 (S : Shp F d L A U W e0 u ex) (hx : ex = false) : magN F (e0 + 1) * 2 ^ (F.low - L).toNat = (W + 1) * U := by
  rw [S.he0, ← enc_succ, magN_enc F (S.wb.2 hx) S.lou (S.wc.imp id fun h => by omega), S.hU, Nat.mul_assoc, ← Nat.pow_add]
  have := S.hL; have := S.lou
  rw [show (u - F.low).toNat + (F.low - L).toNat = (u - L).toNat by omega]
/-- A word of a size below the infinite one, and a number: which is greater. -/
theorem cmp_size {s : Nat} (n : Bool) (h : s < F.i0) (hL : L ≤ F.low) (hd : LoE d L) : cmpD (F.val (s + F.sgn n)) d = sgI ((if n then -1 else 1) * ((magN F s * 2 ^ (F.low - L).toNat : Nat) : Int) - iv d L) := by
  obtain ⟨h1, h2⟩ := iv_val_L n h hL
  rw [cmp_iv h2 hd, h1]
end
end Go.Cv

/-
  Any number lies between the words to which it is rounded down and up.
-/
namespace Go.Cv

theorem cls_size {F : Fm} {s : Nat} (n : Bool) (h : s ≤ F.i0) : (F.cls (s + F.sgn n) = 1 ↔ s = 0) ∧ (F.cls (s + F.sgn n) = 4 ↔ s = F.i0) ∧ F.cls (s + F.sgn n) ≠ 5 := by
  have hi := fm_i0 F
  obtain ⟨e1, e2⟩ := sgn_mod n (by omega : s < F.sg)
  unfold Fm.cls Fm.ex Fm.fc
  rw [e1]
  unfold Fm.i0 at *
  have hp := Nat.two_pow_pos F.fr
  have hm : 1 < F.most := by cases F <;> decide
  generalize F.most = K at *
  generalize 2 ^ F.fr = P at *
  have hd := Nat.div_add_mod s P
  have hml := Nat.mod_lt s hp
  have h3 : s / P ≤ K := by
    apply Nat.div_le_of_le_mul; rw [Nat.mul_comm]; exact h
  have h4 : s / P = K → s % P = 0 := by
    intro hk; rw [hk, Nat.mul_comm] at hd; omega
  have h5 : s / P = 0 → s = s % P := by intro hk; rw [hk, Nat.mul_zero] at hd; omega
  have h6 : s / P = K ↔ s = K * P := by
    constructor
    · intro hk; have := h4 hk; rw [hk, this, Nat.mul_comm] at hd; omega
    · intro hk; rw [hk, Nat.mul_div_cancel _ hp]
  have h7 : K * P ≠ 0 := by have := Nat.mul_pos (by omega : 0 < K) hp; omega
  have h8 : s = 0 → s / P = 0 := by rintro rfl; exact Nat.zero_div _
  generalize s / P = x at *
  generalize s % P = y at *
  generalize K * P = KP at *
  clear hd
  refine ⟨?_, ?_, ?_⟩ <;> (repeat' split) <;> omega

/-- What the law on 'between' asks of the words. -/
structure Betw (F : Fm) (md : Int) (d : Dy) : Prop where
  ws : ∀ m : Int, 1 ≤ m → m ≤ 5 → ∃ s : Nat, s ≤ F.i0 ∧ (rndW F m d).1 = s + F.sgn d.n
  under : (F.cls (rndW F 5 d).1 = 4 ∧ (rndW F 5 d).1 = F.inf true) ∨ (F.fin (rndW F 5 d).1 ∧ cmpD (F.val (rndW F 5 d).1) d ≤ 0)
  over : (F.cls (rndW F 4 d).1 = 4 ∧ (rndW F 4 d).1 = F.inf false) ∨ (F.fin (rndW F 4 d).1 ∧ 0 ≤ cmpD (F.val (rndW F 4 d).1) d)
  same : (rndW F 5 d).1 = (rndW F 4 d).1 → (rndW F 5 d).2 = 0 ∧ (rndW F 4 d).2 = 0 ∧ (rndW F md d).2 = 0 ∧ (rndW F md d).1 = (rndW F 5 d).1 ∧ (rndW F 3 d).1 = (rndW F 5 d).1
  step : (rndW F 5 d).1 ≠ (rndW F 4 d).1 → (if (rndW F 5 d).1 % F.sg = 0 then (1, true) else F.up (rndW F 5 d).1) = ((rndW F 4 d).1, true) ∧ ¬ ((rndW F 4 d).1 = F.sg ∧ (rndW F 4 d).1 = 0)
  flag : ∀ m : Int, 1 ≤ m → m ≤ 5 → (rndW F 5 d).1 ≠ (rndW F 4 d).1 → (rndW F m d).2 = 16 ∨ (rndW F m d).2 = 20 ∨ (rndW F m d).2 = 24
  one : (rndW F 5 d).1 ≠ (rndW F 4 d).1 → ((rndW F md d).1 = (rndW F 5 d).1 ∨ (rndW F md d).1 = (rndW F 4 d).1) ∧ ((rndW F 3 d).1 = (rndW F 5 d).1 ↔ d.n = false) ∧ ((rndW F 3 d).1 = (rndW F 4 d).1 ↔ d.n = true)

theorem up_pos {F : Fm} {x : Nat} (h : x < F.i0) : (if x % F.sg = 0 then (1, true) else F.up x) = (x + 1, true) := by
  have hi := fm_i0 F
  obtain ⟨c1, c2, c3⟩ := cls_size (F := F) false (Nat.le_of_lt h)
  obtain ⟨e1, e2⟩ := sgn_mod (F := F) false (by omega : x < F.sg)
  simp only [Fm.sgn, Bool.false_eq_true, if_false, Nat.add_zero] at c1 c2 c3 e1 e2
  rw [e1]
  by_cases h0 : x = 0
  · rw [if_pos h0, h0]
  · rw [if_neg h0]
    unfold Fm.up
    rw [if_neg (fun q => by have := c2.1 q.1; omega), if_neg (fun q => h0 (c1.1 q)), e2]
    rfl
theorem up_neg {F : Fm} {x : Nat} (h : x < F.i0) : (if (x + 1 + F.sg) % F.sg = 0 then (1, true) else F.up (x + 1 + F.sg)) = (x + F.sg, true) := by
  have hi := fm_i0 F
  obtain ⟨c1, c2, c3⟩ := cls_size (F := F) (s := x + 1) true (by omega)
  obtain ⟨e1, e2⟩ := sgn_mod (F := F) (s := x + 1) true (by omega)
  simp only [Fm.sgn, if_true] at c1 c2 c3 e1 e2
  rw [e1, if_neg (by omega)]
  unfold Fm.up
  rw [if_neg (fun q => by rw [e2] at q; exact absurd q.2 (by decide)), if_neg (fun q => by have := c1.1 q; omega), e2, if_pos rfl]
  congr 1; omega

section
variable {F : Fm} {md : Int} {d : Dy} {L : Int} {A : Nat}
theorem betw_pos (hL : L ≤ F.low) (hle : LoE d L) (hd : iv d L = A) (hn : d.n = false) {x : Nat} (hx : x < F.i0)
    (hws : ∀ m : Int, 1 ≤ m → m ≤ 5 → ∃ s : Nat, s ≤ F.i0 ∧ (rndW F m d).1 = s + F.sgn d.n)
    (E5 : (rndW F 5 d).1 = x) (E4 : (rndW F 4 d).1 = x + 1) (E3 : (rndW F 3 d).1 = x) (E : (rndW F md d).1 = x ∨ (rndW F md d).1 = x + 1)
    (hf : ∀ m : Int, 1 ≤ m → m ≤ 5 → (rndW F m d).2 = 16 ∨ (rndW F m d).2 = 20 ∨ (rndW F m d).2 = 24)
    (h1 : magN F x * 2 ^ (F.low - L).toNat ≤ A) (h2 : x + 1 < F.i0 → A ≤ magN F (x + 1) * 2 ^ (F.low - L).toNat) : Betw F md d := by
  have hi := fm_i0 F
  have s0 : F.sgn false = 0 := rfl
  refine ⟨hws, ?_, ?_, fun h => ?_, fun _ => ?_, fun m a b _ => hf m a b, fun _ => ?_⟩
  · right
    have c := cmp_size (F := F) (s := x) false hx hL hle
    have fz := fin_size (F := F) (s := x) false hx
    rw [s0, Nat.add_zero] at c fz
    rw [E5]
    refine ⟨fz, ?_⟩
    rw [c, hd]
    have : ¬ 0 < sgI ((if false = true then -1 else 1) * ((magN F x * 2 ^ (F.low - L).toNat : Nat) : Int) - (A : Int)) := by
      rw [sgI_pos]; simp only [Bool.false_eq_true, if_false]; omega
    omega
  · rw [E4]
    by_cases h3 : x + 1 < F.i0
    · right
      have c := cmp_size (F := F) (s := x + 1) false h3 hL hle
      have fz := fin_size (F := F) (s := x + 1) false h3
      rw [s0, Nat.add_zero] at c fz
      refine ⟨fz, ?_⟩
      rw [c, hd]
      have := h2 h3
      have : ¬ sgI ((if false = true then -1 else 1) * ((magN F (x + 1) * 2 ^ (F.low - L).toNat : Nat) : Int) - (A : Int)) < 0 := by
        rw [sgI_neg]; simp only [Bool.false_eq_true, if_false]; omega
      omega
    · left
      have e : x + 1 = F.inf false := by rw [inf_eq, s0]; omega
      rw [e]; exact ⟨cls_inf F false, rfl⟩
  · rw [E5, E4] at h; omega
  · rw [E5, E4]; exact ⟨up_pos hx, by omega⟩
  · rw [E5, E4, E3, hn]
    refine ⟨E, ⟨fun _ => rfl, fun _ => rfl⟩, ⟨fun h => by omega, fun h => by cases h⟩⟩

theorem betw_neg (hL : L ≤ F.low) (hle : LoE d L) (hd : iv d L = -(A : Int)) (hn : d.n = true) {x : Nat} (hx : x < F.i0)
    (hws : ∀ m : Int, 1 ≤ m → m ≤ 5 → ∃ s : Nat, s ≤ F.i0 ∧ (rndW F m d).1 = s + F.sgn d.n)
    (E5 : (rndW F 5 d).1 = x + 1 + F.sg) (E4 : (rndW F 4 d).1 = x + F.sg) (E3 : (rndW F 3 d).1 = x + F.sg) (E : (rndW F md d).1 = x + F.sg ∨ (rndW F md d).1 = x + 1 + F.sg)
    (hf : ∀ m : Int, 1 ≤ m → m ≤ 5 → (rndW F m d).2 = 16 ∨ (rndW F m d).2 = 20 ∨ (rndW F m d).2 = 24)
    (h1 : magN F x * 2 ^ (F.low - L).toNat ≤ A) (h2 : x + 1 < F.i0 → A ≤ magN F (x + 1) * 2 ^ (F.low - L).toNat) : Betw F md d := by
  have hi := fm_i0 F
  have s0 : F.sgn true = F.sg := rfl
  refine ⟨hws, ?_, ?_, fun h => ?_, fun _ => ?_, fun m a b _ => hf m a b, fun _ => ?_⟩
  · rw [E5]
    by_cases h3 : x + 1 < F.i0
    · right
      have c := cmp_size (F := F) (s := x + 1) true h3 hL hle
      have fz := fin_size (F := F) (s := x + 1) true h3
      rw [s0] at c fz
      refine ⟨fz, ?_⟩
      rw [c, hd]
      have := h2 h3
      have : ¬ 0 < sgI ((if true = true then -1 else 1) * ((magN F (x + 1) * 2 ^ (F.low - L).toNat : Nat) : Int) - -(A : Int)) := by
        rw [sgI_pos]; simp only [if_true]; omega
      omega
    · left
      have e : x + 1 + F.sg = F.inf true := by rw [inf_eq, s0]; omega
      rw [e]; exact ⟨cls_inf F true, rfl⟩
  · right
    have c := cmp_size (F := F) (s := x) true hx hL hle
    have fz := fin_size (F := F) (s := x) true hx
    rw [s0] at c fz
    rw [E4]
    refine ⟨fz, ?_⟩
    rw [c, hd]
    have : ¬ sgI ((if true = true then -1 else 1) * ((magN F x * 2 ^ (F.low - L).toNat : Nat) : Int) - -(A : Int)) < 0 := by
      rw [sgI_neg]; simp only [if_true]; omega
    omega
  · rw [E5, E4] at h; omega
  · rw [E5, E4]; exact ⟨up_neg hx, by omega⟩
  · rw [E5, E4, E3, hn]
    refine ⟨E.symm, ⟨fun h => by omega, fun h => by cases h⟩, ⟨fun _ => rfl, fun _ => rfl⟩⟩

theorem betw_eq (hL : L ≤ F.low) (hle : LoE d L) (hd : iv d L = (if d.n then -1 else 1) * (A : Int)) {x : Nat} (hx : x < F.i0)
    (hws : ∀ m : Int, 1 ≤ m → m ≤ 5 → ∃ s : Nat, s ≤ F.i0 ∧ (rndW F m d).1 = s + F.sgn d.n)
    (E5 : rndW F 5 d = (x + F.sgn d.n, 0)) (E4 : rndW F 4 d = (x + F.sgn d.n, 0)) (E3 : rndW F 3 d = (x + F.sgn d.n, 0)) (E : rndW F md d = (x + F.sgn d.n, 0))
    (h1 : magN F x * 2 ^ (F.low - L).toNat = A) : Betw F md d := by
  have c := cmp_size (F := F) (s := x) d.n hx hL hle
  have fz := fin_size (F := F) (s := x) d.n hx
  rw [h1, hd, Int.sub_self] at c
  refine ⟨hws, ?_, ?_, fun h => ?_, fun h => ?_, fun m a b h => ?_, fun h => ?_⟩
  · rw [E5]; right; exact ⟨fz, by rw [c]; decide⟩
  · rw [E4]; right; exact ⟨fz, by rw [c]; decide⟩
  · rw [E5, E4, E3, E]; exact ⟨rfl, rfl, rfl, rfl, rfl⟩
  · rw [E5, E4] at h; exact absurd rfl h
  · rw [E5, E4] at h; exact absurd rfl h
  · rw [E5, E4] at h; exact absurd rfl h
end

theorem between (F : Fm) {md : Int} (m1 : 1 ≤ md) (m2 : md ≤ 5) {d : Dy} (h0 : d.m ≠ 0) : Betw F md d := by
  have hi := fm_i0 F
  obtain ⟨L, l1, l2⟩ : ∃ L : Int, L < F.low ∧ L < d.e := ⟨min F.low d.e - 1, by omega, by omega⟩
  obtain ⟨A, U, W, e0, u, ex, S, _⟩ := shp_of F h0 l1 l2
  obtain ⟨b5, f5, r5, g5, R5⟩ := S.all 5 (by decide) (by decide)
  obtain ⟨b4, f4, r4, g4, R4⟩ := S.all 4 (by decide) (by decide)
  obtain ⟨b3, f3, r3, g3, R3⟩ := S.all 3 (by decide) (by decide)
  obtain ⟨b, f, r, g, R⟩ := S.all md m1 m2
  have x5 := R5.b5 rfl
  have x4 := R4.b4 rfl
  have x3 := R3.b3 rfl
  have hw := S.worth
  have hw1 := S.worth1
  have hlo := R.lo
  have hhi := R.hi
  have hex := R.exi
  have hd : iv d L = (if d.n then -1 else 1) * (A : Int) := by rw [iv_num, S.hA]
  have hle : LoE d L := Or.inr (by omega)
  have hbig : F.i0 ≤ e0 → magN F (F.i0 - 1) * 2 ^ (F.low - L).toNat ≤ A := fun h => Nat.le_trans (Nat.mul_le_mul_right _ (magN_le F (by omega : F.i0 - 1 ≤ e0))) (by rw [hw]; exact hlo)
  have hovs : ∀ m n, ovs F m n = F.i0 - 1 ∨ ovs F m n = F.i0 := fun m n => by unfold ovs; split <;> omega
  have hws : ∀ m : Int, 1 ≤ m → m ≤ 5 → ∃ s : Nat, s ≤ F.i0 ∧ (rndW F m d).1 = s + F.sgn d.n := fun m a1 a2 => by
    obtain ⟨b, f, r, _, _⟩ := S.all m a1 a2
    refine ⟨_, ?_, by rw [r]⟩
    split
    · have := hovs m d.n; omega
    · omega
  have hf : (F.i0 ≤ e0 ∨ ex = false) → ∀ m : Int, 1 ≤ m → m ≤ 5 → (rndW F m d).2 = 16 ∨ (rndW F m d).2 = 20 ∨ (rndW F m d).2 = 24 := fun h m a1 a2 => by
    obtain ⟨b, f, r, g, _⟩ := S.all m a1 a2
    rw [r]; simp only
    by_cases q : F.i0 ≤ e0 + b.toNat
    · rw [if_pos q]; exact Or.inr (Or.inl rfl)
    · rw [if_neg q]
      have : ex = false := h.resolve_left (by omega)
      rw [this]; simp only [Bool.false_eq_true, if_false]; omega
  by_cases hb : F.i0 ≤ e0
  · have t : ∀ b : Bool, F.i0 ≤ e0 + b.toNat := fun b => by omega
    rw [if_pos (t b5)] at r5
    rw [if_pos (t b4)] at r4
    rw [if_pos (t b3)] at r3
    rw [if_pos (t b)] at r
    cases hn : d.n
    · rw [hn] at r5 r4 r3 r hd
      have o5 : ovs F 5 false = F.i0 - 1 := by simp [ovs]
      have o4 : ovs F 4 false = F.i0 := by simp [ovs]
      have o3 : ovs F 3 false = F.i0 - 1 := by simp [ovs]
      refine betw_pos (x := F.i0 - 1) (by omega) hle (by rw [hd]; simp) hn (by omega) hws (by rw [r5, o5]; rfl) (by rw [r4, o4]; simp only [Fm.sgn, Bool.false_eq_true, if_false]; omega) (by rw [r3, o3]; rfl) ?_ (hf (Or.inl hb)) (hbig hb) (fun h => by omega)
      rw [r]; simp only [Fm.sgn, Bool.false_eq_true, if_false]
      have := hovs md false; omega
    · rw [hn] at r5 r4 r3 r hd
      have o5 : ovs F 5 true = F.i0 := by simp [ovs]
      have o4 : ovs F 4 true = F.i0 - 1 := by simp [ovs]
      have o3 : ovs F 3 true = F.i0 - 1 := by simp [ovs]
      refine betw_neg (x := F.i0 - 1) (by omega) hle (by rw [hd]; simp) hn (by omega) hws (by rw [r5, o5]; simp only [Fm.sgn, if_true]; omega) (by rw [r4, o4]; rfl) (by rw [r3, o3]; rfl) ?_ (hf (Or.inl hb)) (hbig hb) (fun h => by omega)
      rw [r]; simp only [Fm.sgn, if_true]
      have := hovs md true; omega
  · cases hx : ex
    · subst hx
      have hw1 := hw1 rfl
      have hup : A ≤ magN F (e0 + 1) * 2 ^ (F.low - L).toNat := by rw [hw1]; omega
      have hdn : magN F e0 * 2 ^ (F.low - L).toNat ≤ A := by rw [hw]; exact hlo
      cases hn : d.n
      · rw [hn] at r5 r4 r3 r hd x5 x4
        subst x5 x4 x3
        have o4 : ovs F 4 false = F.i0 := by simp [ovs]
        refine betw_pos (x := e0) (by omega) hle (by rw [hd]; simp) hn (by omega) hws (by rw [r5]; simp [hb, Fm.sgn]) ?_ (by rw [r3]; simp [hb, Fm.sgn]) ?_ (hf (Or.inr rfl)) hdn (fun _ => hup)
        · rw [r4]; simp only [o4, Bool.not_false, Bool.and_self, Bool.toNat_true, Fm.sgn, Bool.false_eq_true, if_false]; split <;> omega
        · rw [r]
          cases b
          · left; simp [hb, Fm.sgn]
          · right
            have m3 : md ≠ 3 := fun h => by have := R.b3 h; cases this
            have m5 : md ≠ 5 := fun h => by have := R.b5 h; rw [hn] at this; cases this
            have o : ovs F md false = F.i0 := by simp [ovs, m3, m5]
            simp only [o, Bool.toNat_true, Fm.sgn, Bool.false_eq_true, if_false]; split <;> omega
      · rw [hn] at r5 r4 r3 r hd x5 x4
        subst x5 x4 x3
        have o5 : ovs F 5 true = F.i0 := by simp [ovs]
        refine betw_neg (x := e0) (by omega) hle (by rw [hd]; simp) hn (by omega) hws ?_ (by rw [r4]; simp [hb, Fm.sgn]) (by rw [r3]; simp [hb, Fm.sgn]) ?_ (hf (Or.inr rfl)) hdn (fun _ => hup)
        · rw [r5]; simp only [o5, Bool.not_false, Bool.and_self, Bool.toNat_true, Fm.sgn, if_true]; split <;> omega
        · rw [r]
          cases b
          · left; simp [hb, Fm.sgn]
          · right
            have m3 : md ≠ 3 := fun h => by have := R.b3 h; cases this
            have m4 : md ≠ 4 := fun h => by have := R.b4 h; rw [hn] at this; cases this
            have o : ovs F md true = F.i0 := by simp [ovs, m3, m4]
            simp only [o, Bool.toNat_true, Fm.sgn, if_true]; split <;> omega
    · subst hx
      have y5 := R5.xb rfl
      have y4 := R4.xb rfl
      have y := R.xb rfl
      subst y5 y4 y x3
      refine betw_eq (x := e0) (by omega) hle hd (by omega) hws (by rw [r5]; simp [hb]) (by rw [r4]; simp [hb]) (by rw [r3]; simp [hb]) (by rw [r]; simp [hb]) ?_
      rw [hw]; exact (hex.1 rfl).symm
end Go.Cv

/-
  The statement on the words below and above a number.
-/
namespace Go.Cv
variable {G : Nat → Option (List AV)} {T : Tbl} {g : Nat}

end Go.Cv

/-
  Rounding a number with the other sign; rounding a word's own value.
-/
namespace Go.Cv

/-- The size of what rounding tells. -/
def rndS (F : Fm) (m : Int) (d : Dy) : Nat := if d.m = 0 then 0 else
  if F.wide < blen (rnd m d.n d.m d.e (F.eOf (d.e + blen d.m))).1 + F.eOf (d.e + blen d.m) then ovs F m d.n else F.enc (rnd m d.n d.m d.e (F.eOf (d.e + blen d.m))).1 (F.eOf (d.e + blen d.m))
theorem rndW_S (F : Fm) (m : Int) {d : Dy} (h0 : d.m ≠ 0) : (rndW F m d).1 = rndS F m d + F.sgn d.n := by
  unfold rndW rndS wordOf
  rw [if_neg h0, if_neg h0]
  simp only
  split
  · rw [ovr_eq]
  · rfl
theorem rndS_le (F : Fm) {m : Int} (m1 : 1 ≤ m) (m2 : m ≤ 5) {d : Dy} (h0 : d.m ≠ 0) : rndS F m d ≤ F.i0 := by
  obtain ⟨s, h1, h2⟩ := (between F (md := 1) (by decide) (by decide) h0).ws m m1 m2
  rw [rndW_S F m h0] at h2; omega
theorem neg_nm {d : Dy} (h0 : d.m ≠ 0) : negD d = ⟨!d.n, d.m, d.e⟩ := by unfold negD; rw [if_neg h0]
/-- A word's own value is rounded to the word. -/
theorem round_val (F : Fm) (m : Int) {s : Nat} (n : Bool) (h : s < F.i0) (h0 : s ≠ 0) : rndW F m (F.val (s + F.sgn n)) = (s + F.sgn n, 0) ∧ (F.val (s + F.sgn n)).m ≠ 0 := by
  have hi := fm_i0 F
  have hF := fm_facts F
  obtain ⟨e1, e2⟩ := sgn_mod n (by omega : s < F.sg)
  have hp := Nat.two_pow_pos F.fr
  have hd := Nat.div_add_mod s (2 ^ F.fr)
  have hm := Nat.mod_lt s hp
  obtain ⟨k, u, hk0, hk1, hu, hku, hv, hs⟩ : ∃ (k : Nat) (u : Int), k ≠ 0 ∧ k < 2 ^ (F.fr + 1) ∧ F.low ≤ u ∧ (u = F.low ∨ 2 ^ F.fr ≤ k) ∧ F.val (s + F.sgn n) = mkD n k u ∧ F.enc k u = s := by
    unfold Fm.val Fm.ex Fm.fc
    rw [e1, e2]
    by_cases hx : s / 2 ^ F.fr = 0
    · rw [if_pos hx]
      rw [hx, Nat.mul_zero, Nat.zero_add] at hd
      refine ⟨s % 2 ^ F.fr, F.low, by omega, by rw [Nat.pow_succ]; omega, Int.le_refl _, Or.inl rfl, rfl, ?_⟩
      unfold Fm.enc; rw [Int.sub_self]; simpa using hd
    · rw [if_neg hx]
      have hx1 : 1 ≤ s / 2 ^ F.fr := Nat.pos_of_ne_zero hx
      refine ⟨2 ^ F.fr + s % 2 ^ F.fr, (s / 2 ^ F.fr : Nat) - 1 + F.low, by omega, by rw [Nat.pow_succ]; omega, by generalize s / 2 ^ F.fr = Q at *; omega, Or.inr (by omega), rfl, ?_⟩
      unfold Fm.enc
      rw [show ((s / 2 ^ F.fr : Nat) - 1 + F.low - F.low : Int).toNat = s / 2 ^ F.fr - 1 by generalize s / 2 ^ F.fr = Q at *; omega, Nat.sub_mul, Nat.one_mul, Nat.mul_comm]
      have : 2 ^ F.fr * 1 ≤ 2 ^ F.fr * (s / 2 ^ F.fr) := Nat.mul_le_mul_left _ hx1
      rw [Nat.mul_one] at this; omega
  rw [hv]
  have hne := mkD_m0 (n := n) hk0 u
  refine ⟨?_, hne⟩
  have hb := mkD_blen (n := n) hk0 u
  have hbk := blen_le.2 hk1
  have hE : F.eOf ((mkD n k u).e + blen (mkD n k u).m) = u := by
    unfold Fm.eOf
    rw [hb]
    rcases hku with h1 | h1
    · omega
    · have := lt_blen.2 h1; omega
  have hr : rnd m (mkD n k u).n (mkD n k u).m (mkD n k u).e u = (k, true) := by
    have hle : u ≤ (mkD n k u).e := by rw [mkD_pos hk0]; simp only; omega
    unfold rnd
    rw [if_pos hle, mkD_val hk0 (Int.le_refl u), Int.sub_self]; simp
  unfold rndW
  rw [if_neg hne]
  simp only
  rw [hE, hr]
  unfold wordOf
  have hbig := enc_big F (n := k) (u := u) (by omega) hu hku
  rw [hs] at hbig
  rw [if_neg (fun q => by have := hbig.1 q; omega), hs, mkD_n hk0]
  simp
theorem val_zero (F : Fm) (n : Bool) : F.val (0 + F.sgn n) = ⟨false, 0, 0⟩ := by
  have hi := fm_i0 F
  obtain ⟨e1, e2⟩ := sgn_mod (F := F) (s := 0) n (by omega)
  unfold Fm.val Fm.ex Fm.fc
  rw [e1]; simp [mkD_zero]
end Go.Cv

/-
  The statement on numbers with the other sign, and on words' own values.
-/
namespace Go.Cv
variable {G : Nat → Option (List AV)} {T : Tbl} {g : Nat}

end Go.Cv

/-
  A greater number is never rounded to a lesser word; the word that is told is nearest.
-/
namespace Go.Cv

theorem enc_mono (F : Fm) (u : Int) {a b : Nat} (h : a ≤ b) : F.enc a u ≤ F.enc b u := by unfold Fm.enc; omega
/-- The size that is told, out of the units. -/
theorem rndS_enc (F : Fm) {m : Int} {d : Dy} (h0 : d.m ≠ 0) :
    rndS F m d = if F.i0 ≤ F.enc (rnd m d.n d.m d.e (F.eOf (d.e + blen d.m))).1 (F.eOf (d.e + blen d.m)) then ovs F m d.n else F.enc (rnd m d.n d.m d.e (F.eOf (d.e + blen d.m))).1 (F.eOf (d.e + blen d.m)) := by
  obtain ⟨q1, q2, _, _⟩ := rnd_bd F (md := m) h0
  have hu : F.low ≤ F.eOf (d.e + blen d.m) := by unfold Fm.eOf; omega
  have hb := enc_big F q1 hu q2
  unfold rndS
  rw [if_neg h0]
  by_cases h : F.wide < blen (rnd m d.n d.m d.e (F.eOf (d.e + blen d.m))).1 + F.eOf (d.e + blen d.m)
  · rw [if_pos h, if_pos (hb.1 h)]
  · rw [if_neg h, if_neg (fun q => h (hb.2 q))]

theorem rndS_mono (F : Fm) (m : Int) {a b : Dy} (ha : a.m ≠ 0) (hb : b.m ≠ 0) (hn : a.n = b.n) {L : Int} (la : L < a.e) (lb : L < b.e) (ll : L < F.low)
    (h : b.m * 2 ^ (b.e - L).toNat ≤ a.m * 2 ^ (a.e - L).toNat) : rndS F m b ≤ rndS F m a := by
  have hi := fm_i0 F
  have ta := blen_mul ha (a.e - L).toNat
  have tb := blen_mul hb (b.e - L).toNat
  have ht := blen_mono h
  have hu : F.eOf (b.e + blen b.m) ≤ F.eOf (a.e + blen a.m) := by unfold Fm.eOf; omega
  have ha0 : F.low ≤ F.eOf (a.e + blen a.m) := by unfold Fm.eOf; omega
  have hb0 : F.low ≤ F.eOf (b.e + blen b.m) := by unfold Fm.eOf; omega
  obtain ⟨p1, p2, _, _⟩ := rnd_bd F (md := m) ha
  obtain ⟨q1, q2, _, _⟩ := rnd_bd F (md := m) hb
  have he : F.enc (rnd m b.n b.m b.e (F.eOf (b.e + blen b.m))).1 (F.eOf (b.e + blen b.m)) ≤ F.enc (rnd m a.n a.m a.e (F.eOf (a.e + blen a.m))).1 (F.eOf (a.e + blen a.m)) := by
    by_cases hq : F.eOf (b.e + blen b.m) = F.eOf (a.e + blen a.m)
    · rw [hq]
      apply enc_mono
      rw [rnd_L m a.n a.m (L := L) (by omega) (by omega), rnd_L m b.n b.m (L := L) (by omega) (by omega), hn]
      exact rdN_mono m b.n h (by omega)
    · rcases p2 with p2 | p2
      · exfalso; omega
      · unfold Fm.enc
        rw [Nat.pow_succ] at q1
        obtain ⟨j, hj⟩ : ∃ j, (F.eOf (b.e + blen b.m) - F.low).toNat = j := ⟨_, rfl⟩
        obtain ⟨k, hk⟩ : ∃ k, (F.eOf (a.e + blen a.m) - F.low).toNat = k := ⟨_, rfl⟩
        rw [hj, hk]
        have h5 : (j + 1) * 2 ^ F.fr ≤ k * 2 ^ F.fr := Nat.mul_le_mul_right _ (by omega)
        rw [Nat.add_mul, Nat.one_mul] at h5
        omega
  rw [rndS_enc F ha, rndS_enc F hb, hn]
  rw [hn] at he
  have ho : ovs F m b.n = F.i0 - 1 ∨ ovs F m b.n = F.i0 := by unfold ovs; split <;> omega
  split <;> split <;> omega

/-- A word's place among all words. -/
def keyW (s : Nat) (n : Bool) : Int := if n then -(s : Int) else s
theorem above_key (F : Fm) {s t : Nat} {n k : Bool} (hs : s ≤ F.i0) (ht : t ≤ F.i0) (h : keyW t k ≤ keyW s n) : aboveW F (s + F.sgn n) (t + F.sgn k) = true := by
  have hi := fm_i0 F
  unfold aboveW
  have e1 : ∀ (s : Nat) (n k : Bool), s ≤ F.i0 → (s + F.sgn n = F.i0 + F.sgn k ↔ s = F.i0 ∧ n = k) := fun s n k hs => by
    unfold Fm.sgn
    cases n <;> cases k <;> simp <;> omega
  have d1 : (s + F.sgn n = F.inf false ∨ t + F.sgn k = F.inf true) ↔ ((s = F.i0 ∧ n = false) ∨ (t = F.i0 ∧ k = true)) := by rw [inf_eq, inf_eq, e1 s n false hs, e1 t k true ht]
  have d2 : (s + F.sgn n = F.inf true ∨ t + F.sgn k = F.inf false) ↔ ((s = F.i0 ∧ n = true) ∨ (t = F.i0 ∧ k = false)) := by rw [inf_eq, inf_eq, e1 s n true hs, e1 t k false ht]
  by_cases c1 : (s = F.i0 ∧ n = false) ∨ (t = F.i0 ∧ k = true)
  · rw [if_pos (d1.2 c1)]
  · rw [if_neg (fun q => c1 (d1.1 q))]
    by_cases c2 : (s = F.i0 ∧ n = true) ∨ (t = F.i0 ∧ k = false)
    · exfalso
      unfold keyW at h
      cases n <;> cases k <;> simp at h c1 c2 <;> omega
    · rw [if_neg (fun q => c2 (d2.1 q))]
      have s1 : s < F.i0 := by
        rcases Nat.lt_or_ge s F.i0 with q | q
        · exact q
        · exfalso; cases n
          · exact c1 (Or.inl ⟨by omega, rfl⟩)
          · exact c2 (Or.inl ⟨by omega, rfl⟩)
      have t1 : t < F.i0 := by
        rcases Nat.lt_or_ge t F.i0 with q | q
        · exact q
        · exfalso; cases k
          · exact c2 (Or.inr ⟨by omega, rfl⟩)
          · exact c1 (Or.inr ⟨by omega, rfl⟩)
      obtain ⟨v1, v2, _⟩ := iv_val n s1
      obtain ⟨w1, w2, _⟩ := iv_val k t1
      rw [cmp_iv v2 w2, v1, w1]
      apply decide_eq_true
      have hnot : ¬ ((if n = true then -1 else 1) * (magN F s : Int) - (if k = true then -1 else 1) * (magN F t : Int)) < 0 := by
        unfold keyW at h
        have z := magN_zero F
        cases n <;> cases k <;> simp only [Bool.false_eq_true, if_false, if_true] at h ⊢
        · have := magN_le F (by omega : t ≤ s); omega
        · omega
        · have h1 : s = 0 := by omega
          have h2 : t = 0 := by omega
          subst h1 h2; omega
        · have := magN_le F (by omega : s ≤ t); omega
      have := sgI_neg (x := (if n = true then -1 else 1) * (magN F s : Int) - (if k = true then -1 else 1) * (magN F t : Int))
      omega

/-- The word that is told, by its size. -/
theorem rndW_key (F : Fm) {m : Int} (m1 : 1 ≤ m) (m2 : m ≤ 5) (d : Dy) : ∃ s n, (rndW F m d).1 = s + F.sgn n ∧ s ≤ F.i0 ∧ s = rndS F m d ∧ (d.m = 0 → s = 0 ∧ n = false) ∧ (d.m ≠ 0 → n = d.n) := by
  by_cases h0 : d.m = 0
  · refine ⟨0, false, ?_, Nat.zero_le _, ?_, fun _ => ⟨rfl, rfl⟩, fun h => absurd h0 h⟩
    · unfold rndW; rw [if_pos h0]; rfl
    · unfold rndS; rw [if_pos h0]
  · exact ⟨rndS F m d, d.n, rndW_S F m h0, rndS_le F m1 m2 h0, rfl, fun h => absurd h h0, fun _ => rfl⟩
end Go.Cv

/-
  Rounding keeps the order; the word that is told to the nearest is nearest.
-/
namespace Go.Cv

theorem low_of (F : Fm) (a b : Dy) : ∃ L : Int, L < F.low ∧ L < a.e ∧ L < b.e := ⟨min F.low (min a.e b.e) - 1, by omega, by omega, by omega⟩
theorem LoE_lt {d : Dy} {L : Int} (h : L < d.e) : LoE d L := Or.inr (by omega)

theorem order (F : Fm) {m : Int} (m1 : 1 ≤ m) (m2 : m ≤ 5) {a b : Dy} (h : 0 ≤ cmpD a b) : aboveW F (rndW F m a).1 (rndW F m b).1 = true := by
  obtain ⟨L, l1, l2, l3⟩ := low_of F a b
  rw [cmp_iv (LoE_lt l2) (LoE_lt l3)] at h
  have hle : iv b L ≤ iv a L := by
    have := sgI_neg (x := iv a L - iv b L); omega
  obtain ⟨s, n, e1, hs, es, sz, sn⟩ := rndW_key F m1 m2 a
  obtain ⟨t, k, e2, ht, et, tz, tn⟩ := rndW_key F m1 m2 b
  rw [e1, e2]
  refine above_key F hs ht ?_
  have pa : a.m ≠ 0 → 0 < a.m * 2 ^ (a.e - L).toNat := fun h => Nat.mul_pos (Nat.pos_of_ne_zero h) (Nat.two_pow_pos _)
  have pb : b.m ≠ 0 → 0 < b.m * 2 ^ (b.e - L).toNat := fun h => Nat.mul_pos (Nat.pos_of_ne_zero h) (Nat.two_pow_pos _)
  rw [iv_num, iv_num] at hle
  unfold keyW
  by_cases ha : a.m = 0
  · obtain ⟨rfl, rfl⟩ := sz ha
    rw [ha, Nat.zero_mul] at hle
    by_cases hb : b.m = 0
    · obtain ⟨rfl, rfl⟩ := tz hb
      decide
    · have := pb hb
      have hk := tn hb
      cases hbn : b.n
      · rw [hbn] at hle; simp only [Bool.false_eq_true, if_false] at hle; split at hle <;> omega
      · rw [hk, hbn]; simp only [Bool.false_eq_true, if_false, if_true]; omega
  · have hna := sn ha
    have := pa ha
    by_cases hb : b.m = 0
    · obtain ⟨rfl, rfl⟩ := tz hb
      rw [hb, Nat.zero_mul] at hle
      cases han : a.n
      · rw [hna, han]; simp only [Bool.false_eq_true, if_false]; omega
      · rw [han] at hle; simp only [if_true] at hle; split at hle <;> omega
    · have hnb := tn hb
      have := pb hb
      cases han : a.n <;> cases hbn : b.n
      · rw [han, hbn] at hle
        have := rndS_mono F m ha hb (by rw [han, hbn]) l2 l3 l1 (by simp only [Bool.false_eq_true, if_false] at hle; omega)
        rw [hna, hnb, han, hbn]; simp only [Bool.false_eq_true, if_false]; omega
      · rw [hna, hnb, han, hbn]; simp only [Bool.false_eq_true, if_false, if_true]; omega
      · rw [han, hbn] at hle; simp only [Bool.false_eq_true, if_false, if_true] at hle; omega
      · rw [han, hbn] at hle
        have := rndS_mono F m hb ha (by rw [han, hbn]) l3 l2 l1 (by simp only [if_true] at hle; omega)
        rw [hna, hnb, han, hbn]; simp only [if_true]; omega
end Go.Cv

/-
  The word that is told to the nearest is nearest.
-/
namespace Go.Cv

end Go.Cv

/-
  The statement on the order of numbers and words.
-/
namespace Go.Cv
variable {G : Nat → Option (List AV)} {T : Tbl} {g : Nat}

end Go.Cv

/-
  Quotients: the document's, by one digit.
-/
namespace Go.Cv
variable {G : Nat → Option (List AV)} {T : Tbl} {g : Nat}

end Go.Cv

/-
  Quotients by one digit: both sides' functions.
-/
namespace Go.Cv
variable {G : Nat → Option (List AV)} {T : Tbl} {g : Nat}

end Go.Cv

/-
  Products: the program's.
-/
namespace Go.Cv
variable {G : Nat → Option (List AV)} {T : Tbl} {g : Nat}

theorem val_set {l : List Nat} {j : Nat} (d : Nat) (h : j < l.length) : val (l.set j d) + 4294967296 ^ j * dg l j = val l + 4294967296 ^ j * d := by
  induction l generalizing j with
  | nil => exact absurd h (Nat.not_lt_zero _)
  | cons a l ih =>
    cases j with
    | zero =>
      have e : dg (a :: l) 0 = a := by rw [dg_lt (by simp)]; rfl
      rw [List.set_cons_zero, val_cons, val_cons, e, Nat.pow_zero]; omega
    | succ j =>
      have h2 : j < l.length := by simpa using h
      have e : dg (a :: l) (j + 1) = dg l j := by rw [dg_lt h, dg_lt h2]; rfl
      have := ih h2
      rw [List.set_cons_succ, val_cons, val_cons, e, Nat.pow_succ]
      have e2 : ∀ x, 4294967296 ^ j * 4294967296 * x = 4294967296 * (4294967296 ^ j * x) := fun x => by rw [Nat.mul_comm (4294967296 ^ j), Nat.mul_assoc]
      rw [e2, e2]
      omega
theorem dg_set_ne {l : List Nat} {i j d : Nat} (h : i ≠ j) : dg (l.set i d) j = dg l j := by
  by_cases hj : j < l.length
  · rw [dg_lt (by rw [List.length_set]; exact hj), dg_lt hj, List.getElem_set_ne h]
  · rw [dg_ge (by rw [List.length_set]; omega), dg_ge (by omega)]

theorem mac_lt {x y o c : Nat} (hx : x < 4294967296) (hy : y < 4294967296) (ho : o < 4294967296) (hc : c < 4294967296) : x * y + o + c < 18446744073709551616 := by
  have : x * y ≤ 4294967295 * 4294967295 := Nat.mul_le_mul (by omega) (by omega)
  omega

theorem mul_row {A l0 l : List Nat} {i k x c V : Nat} (hk : i + k < l.length) (he : val l + 4294967296 ^ (i + k) * c = V + 4294967296 ^ i * (x * val (A.take k))) :
    val (l.set (i + k) ((x * dg A k + dg l (i + k) + c) % 4294967296)) + 4294967296 ^ (i + (k + 1)) * ((x * dg A k + dg l (i + k) + c) / 4294967296) = V + 4294967296 ^ i * (x * val (A.take (k + 1))) := by
  have h1 := val_set ((x * dg A k + dg l (i + k) + c) % 4294967296) hk
  have h2 := Nat.mod_add_div (x * dg A k + dg l (i + k) + c) 4294967296
  rw [val_take_succ', Nat.mul_add, Nat.mul_add, ← Nat.add_assoc V, ← he, ← Nat.add_assoc, Nat.pow_succ]
  generalize (x * dg A k + dg l (i + k) + c) % 4294967296 = m at *
  generalize (x * dg A k + dg l (i + k) + c) / 4294967296 = q at *
  have e1 : 4294967296 ^ i * (x * (4294967296 ^ k * dg A k)) = 4294967296 ^ (i + k) * (x * dg A k) := by
    rw [Nat.pow_add, Nat.mul_left_comm x, Nat.mul_assoc]
  rw [e1]
  generalize 4294967296 ^ (i + k) = p at *
  rw [Nat.mul_assoc]
  have h3 : p * m + p * (4294967296 * q) = p * (x * dg A k) + p * dg l (i + k) + p * c := by rw [← Nat.mul_add, h2, Nat.mul_add, Nat.mul_add]
  omega

theorem mul_inner {B : List Nat} {zb : Bool} {i x b n : Nat} {va : AV} {na : Int} (hB : Dg B) (hx : x < 4294967296) (hs : n < 549755813888) (hn : i + B.length < n) (V : Nat) : ∀ (m k : Nat) (h : Heap) (l : List Nat) (c : Nat),
    m + k = B.length → Holds h b l → Dg l → l.length = n → c < 4294967296 → (∀ j, i + B.length ≤ j → dg l j = 0) → val l + 4294967296 ^ (i + k) * c = V + 4294967296 ^ i * (x * val (B.take k)) →
    Post (evL G T c_nat_mul_l1 [(1, D zb B), (5, .own b 0 n 1), (6, .int .i64 (i : Int)), (7, .int .u32 (x : Int)), (8, .int .u64 (c : Int)), (18, va), (19, .int .i64 na), (20, .int .i64 (i : Int)), (25, D zb B), (26, .int .i64 ((B.length : Nat) : Int)), (27, .int .i64 (k : Int))] h) fun r =>
      ∃ e h' l' c', r = (.exit 2, (1, D zb B) :: (5, .own b 0 n 1) :: (6, .int .i64 (i : Int)) :: (7, .int .u32 (x : Int)) :: (8, .int .u64 ((c' : Nat) : Int)) :: (18, va) :: (19, .int .i64 na) :: (20, .int .i64 (i : Int)) :: (25, D zb B) :: (26, .int .i64 ((B.length : Nat) : Int)) :: (27, .int .i64 ((B.length : Nat) : Int)) :: e, h') ∧
        Holds h' b l' ∧ Dg l' ∧ l'.length = n ∧ c' < 4294967296 ∧ (∀ j, i + B.length ≤ j → dg l' j = 0) ∧ val l' + 4294967296 ^ (i + B.length) * c' = V + 4294967296 ^ i * (x * val B)
  | 0, k, h, l, c, hm, H, hd, hl, hc, hz, he => by
    rw [s_loopc G T (c := c_nat_mul_l1) rfl]
    have h1 : ¬ (k : Int) < B.length := by omega
    repeat (first | (simp (maxSteps := 1000000) only [evB, if_true, if_false, ne_eq, Nat.reduceEqDiff, Nat.reduceAdd, reduceCtorEq, Int.reduceLE, Int.reduceLT, Int.reduceEq, Int.reduceNeg, Int.reduceToNat, Int.reducePow, Int.reduceMod, Int.reduceDiv, Int.reduceSub, Int.reduceAdd, Int.reduceMul, Nat.reduceMul, Nat.reduceSub, Nat.reducePow, c_nat_mul_b1, h1]) | (simp (disch := omega) only [dsB]))
    obtain rfl : k = B.length := by omega
    rw [List.take_length] at he

    exact Post.some ⟨_, _, _, _, rfl, H, hd, hl, hc, hz, he⟩
  | m + 1, k, h, l, c, hm, H, hd, hl, hc, hz, he => by
    rw [s_loopc G T (c := c_nat_mul_l1) rfl]
    have h1 : (k : Int) < B.length := by omega
    have e7 : (k : Int) + 1 = ((k + 1 : Nat) : Int) := by omega
    have e8 : (i : Int) + (k : Int) = ((i + k : Nat) : Int) := by omega
    have hy := hB.dg k
    have ho := hd.dg (i + k)
    have hik : i + k < l.length := by omega
    have w1 : (x : Int) % 18446744073709551616 = x := by omega
    have w2 : (dg B k : Int) % 18446744073709551616 = dg B k := by omega
    have w3 : (dg l (i + k) : Int) % 18446744073709551616 = dg l (i + k) := by omega
    have hM := mac_lt hx hy ho hc
    have key := mul_row (l0 := l) (A := B) (x := x) hik he
    have w4 : (x : Int) * (dg B k : Int) = ((x * dg B k : Nat) : Int) := by rw [Int.natCast_mul]
    generalize x * dg B k = p at *
    have w5 : (p : Int) % 18446744073709551616 = p := by omega
    have w6 : ((p : Int) + (dg l (i + k) : Int)) % 18446744073709551616 = (p : Int) + dg l (i + k) := by omega
    have w7 : ((p : Int) + (dg l (i + k) : Int) + (c : Int)) % 18446744073709551616 = ((p + dg l (i + k) + c : Nat) : Int) := by omega
    have w8 : ((p + dg l (i + k) + c : Nat) : Int) % 4294967296 = (((p + dg l (i + k) + c) % 4294967296 : Nat) : Int) := by omega
    have w9 : ((p + dg l (i + k) + c : Nat) : Int) / 4294967296 = (((p + dg l (i + k) + c) / 4294967296 : Nat) : Int) := by omega
    repeat (first | (simp (maxSteps := 1000000) only [evB, if_true, if_false, ne_eq, Nat.reduceEqDiff, Nat.reduceAdd, reduceCtorEq, Int.reduceLE, Int.reduceLT, Int.reduceEq, Int.reduceNeg, Int.reduceToNat, Int.reducePow, Int.reduceMod, Int.reduceDiv, Int.reduceSub, Int.reduceAdd, Int.reduceMul, Nat.reduceMul, Nat.reduceSub, Nat.reducePow, c_nat_mul_b1, h1, e7, e8, w1, w2, w3, w4, w5, w6, w7, w8, w9 ]) | (simp (disch := omega) only [dsB,  store_n H, load_own G H]))
    exact mul_inner hB hx hs hn V m (k + 1) _ _ _ (by omega) (H.put _) (Dg_set hd (Nat.mod_lt _ (by decide))) (by rw [List.length_set]; exact hl) (by omega) (fun j hj => by rw [dg_set_ne (by omega)]; exact hz j hj) key

theorem mul_outer {A B : List Nat} {za zb : Bool} {b : Nat} (hA : Dg A) (hB : Dg B) (hs : A.length + B.length < 17179869184) : ∀ (m i : Nat) (h : Heap) (l : List Nat),
    m + i = A.length → Holds h b l → Dg l → l.length = A.length + B.length → (∀ j, i + B.length ≤ j → dg l j = 0) → val l = val (A.take i) * val B →
    Post (evL G T c_nat_mul_l2 [(1, D zb B), (5, .own b 0 (A.length + B.length) 1), (18, D za A), (19, .int .i64 ((A.length : Nat) : Int)), (20, .int .i64 (i : Int))] h) fun r =>
      ∃ e h' l', r = (.exit 0, (1, D zb B) :: (5, .own b 0 (A.length + B.length) 1) :: e, h') ∧ Holds h' b l' ∧ Dg l' ∧ l'.length = A.length + B.length ∧ val l' = val A * val B
  | 0, i, h, l, hm, H, hd, hl, hz, he => by
    rw [s_loopc G T (c := c_nat_mul_l2) rfl]
    have h1 : ¬ (i : Int) < A.length := by omega
    repeat (first | (simp (maxSteps := 1000000) only [evB, if_true, if_false, ne_eq, Nat.reduceEqDiff, Nat.reduceAdd, reduceCtorEq, Int.reduceLE, Int.reduceLT, Int.reduceEq, Int.reduceNeg, Int.reduceToNat, Int.reducePow, Int.reduceMod, Int.reduceDiv, Int.reduceSub, Int.reduceAdd, Int.reduceMul, Nat.reduceMul, Nat.reduceSub, Nat.reducePow, c_nat_mul_b2, h1]) | (simp (disch := omega) only [dsB]))
    obtain rfl : i = A.length := by omega
    rw [List.take_length] at he
    exact Post.some ⟨_, _, _, rfl, H, hd, hl, he⟩
  | m + 1, i, h, l, hm, H, hd, hl, hz, he => by
    rw [s_loopc G T (c := c_nat_mul_l2) rfl]
    have h1 : (i : Int) < A.length := by omega
    have e7 : (i : Int) + 1 = ((i + 1 : Nat) : Int) := by omega
    have e8 : (i : Int) + (B.length : Int) = ((i + B.length : Nat) : Int) := by omega
    have hx := hA.dg i
    obtain ⟨_, hr, e, h', l', c', rfl, H', hd', hl', hc', hz', hv'⟩ := mul_inner (G := G) (T := T) (zb := zb) (i := i) (x := dg A i) (n := A.length + B.length) (va := D za A) (na := (A.length : Nat)) hB hx (by omega) (by omega) (val l) B.length 0 h l 0 (by omega) H hd hl (by omega) hz (by simp [val])
    rw [cast0] at hr
    have w1 : (c' : Int) % 4294967296 = c' := by omega
    repeat (first | (simp (maxSteps := 1000000) only [evB, if_true, if_false, ne_eq, Nat.reduceEqDiff, Nat.reduceAdd, reduceCtorEq, Int.reduceLE, Int.reduceLT, Int.reduceEq, Int.reduceNeg, Int.reduceToNat, Int.reducePow, Int.reduceMod, Int.reduceDiv, Int.reduceSub, Int.reduceAdd, Int.reduceMul, Nat.reduceMul, Nat.reduceSub, Nat.reducePow, c_nat_mul_b2, h1, e7, e8, hr, w1 ]) | (simp (disch := omega) only [dsB,  store_n H']))
    refine mul_outer hA hB hs m (i + 1) _ _ (by omega) (H'.put _) (Dg_set hd' hc') (by rw [List.length_set]; exact hl') (fun j hj => by rw [dg_set_ne (by omega)]; exact hz' j (by omega)) ?_
    have h3 := val_set (l := l') (j := i + B.length) c' (by omega)
    rw [hz' _ (Nat.le_refl _), Nat.mul_zero, Nat.add_zero] at h3
    rw [h3, hv', he, val_take_succ', Nat.add_mul, Nat.mul_assoc]

theorem nat_mul (hT : HasA g T) {z y : Bool} {a b : Nat} (hs : (dl a).length + (dl b).length < 17179869184) : ∃ z', run G T 113 [D z (dl a), D y (dl b)] = some (D z' (dl (a * b))) := by
  obtain ⟨_, hr, e, h', l', rfl, H, hd, hl, hv⟩ := mul_outer (G := G) (T := T) (za := z) (zb := y) (b := Heap.nil.b.length) (Dg_dl a) (Dg_dl b) hs (dl a).length 0 (new .nil (List.replicate ((dl a).length + (dl b).length) 0)) _ (by omega) (Holds_new FreH.nil _) (Dg_rep _) (by rw [List.length_replicate]) (fun j _ => by
    by_cases hj : j < ((dl a).length + (dl b).length)
    · rw [dg_lt (by rw [List.length_replicate]; exact hj), List.getElem_replicate]
    · exact dg_ge (by rw [List.length_replicate]; omega)) (by rw [List.take_zero]; simp [val, val_rep])
  rw [cast0] at hr
  rw [val_dl, val_dl] at hv
  have hsn := snap_own H (n := (dl a).length + (dl b).length) (by omega)
  rw [← hl, List.take_length] at hsn
  obtain ⟨z', hz⟩ := nat_trim (G := G) (T := T) hT (z := false) hd (by omega)
  rw [hl] at hsn
  refine ⟨z', ?_⟩
  have e8 : ((dl a).length : Int) + ((dl b).length : Int) = (((dl a).length + (dl b).length : Nat) : Int) := by omega
  rw [run_k G T hT.nat_mul, ← hv]
  repeat (first | (simp (maxSteps := 1000000) only [evB, if_true, if_false, ne_eq, Nat.reduceEqDiff, Nat.reduceAdd, reduceCtorEq, Int.reduceLE, Int.reduceLT, Int.reduceEq, Int.reduceNeg, Int.reduceToNat, Int.reducePow, Int.reduceMod, Int.reduceDiv, Int.reduceSub, Int.reduceAdd, Int.reduceMul, Nat.reduceMul, Nat.reduceSub, Nat.reducePow, c_nat_mul, e8, hr, hsn, hz]) | (simp (disch := omega) only [dsB]))
end Go.Cv

/-
  A digit of a quotient, guessed (plain).
-/
namespace Go.Cv

end Go.Cv

/-
  Digits added and taken with a carry.
-/
namespace Go.Cv
variable {G : Nat → Option (List AV)} {T : Tbl} {g : Nat}

theorem un_xor32 (x : Int) : evUn .xor (.int .u32 x) = some (.int .u32 (xorI .u32 4294967295 x)) := by rw [xorI_eq]; rfl
theorem xor32 {a b : Nat} (ha : a < 4294967296) (hb : b < 4294967296) : xorI .u32 (a : Int) (b : Int) = ((a ^^^ b : Nat) : Int) := by
  have : a ^^^ b < 2 ^ 32 := Nat.xor_lt_two_pow (n := 32) ha hb
  rw [xorI_eq]
  show IntKind.u32.wrap ((BitVec.ofInt 32 a ^^^ BitVec.ofInt 32 b).toNat : Int) = _
  rw [show BitVec.ofInt 32 (a : Int) = BitVec.ofNat 32 a from rfl, show BitVec.ofInt 32 (b : Int) = BitVec.ofNat 32 b from rfl, BitVec.toNat_xor, BitVec.toNat_ofNat, BitVec.toNat_ofNat, Nat.mod_eq_of_lt (by omega), Nat.mod_eq_of_lt (by omega), wrap_u32]
  omega

theorem top_bit {n : Nat} (h : n < 4294967296) : n / 2147483648 = (n.testBit 31).toNat := by
  rw [Nat.testBit_eq_decide_div_mod_eq, show (2 : Nat) ^ 31 = 2147483648 from rfl]
  by_cases h2 : n / 2147483648 % 2 = 1
  · rw [decide_eq_true h2]; simp only [Bool.toNat_true]; omega
  · rw [decide_eq_false h2]; simp only [Bool.toNat_false]; omega
theorem borrow_bit {x y d w z : Nat} (hx : x < 4294967296) (hy : y < 4294967296) (hd : d < 4294967296) (hw : w ≤ 1) (hz : z ≤ 1) (h : d + y + w = x + 4294967296 * z) :
    (((4294967295 ^^^ x) &&& y) ||| ((4294967295 ^^^ (x ^^^ y)) &&& d)) / 2147483648 = z := by
  have l1 : ((4294967295 ^^^ x) &&& y) ||| ((4294967295 ^^^ (x ^^^ y)) &&& d) < 4294967296 :=
    Nat.or_lt_two_pow (n := 32) (Nat.and_lt_two_pow _ hy) (Nat.and_lt_two_pow _ hd)
  rw [top_bit l1]
  have t1 : Nat.testBit 4294967295 31 = true := by decide
  simp only [Nat.testBit_or, Nat.testBit_and, Nat.testBit_xor, t1]
  have e : ∀ n, n < 4294967296 → n.testBit 31 = decide (2147483648 ≤ n) := fun n hn => by
    rw [Nat.testBit_eq_decide_div_mod_eq, show (2 : Nat) ^ 31 = 2147483648 from rfl]
    by_cases h2 : 2147483648 ≤ n
    · rw [decide_eq_true h2]; simp only [decide_eq_true_eq]; omega
    · rw [decide_eq_false h2]; simp only [decide_eq_false_iff_not]; omega
  rw [e x hx, e y hy, e d hd]
  by_cases a : 2147483648 ≤ x <;> by_cases b : 2147483648 ≤ y <;> by_cases c : 2147483648 ≤ d <;> simp [a, b, c] <;> omega

theorem bits_Sub32 (hT : HasA g T) {x y w d z : Nat} (hx : x < 4294967296) (hy : y < 4294967296) (hw : w ≤ 1) (hd : d < 4294967296) (hz : z ≤ 1) (h : d + y + w = x + 4294967296 * z) :
    run G T 121 [.int .u32 (x : Int), .int .u32 (y : Int), .int .u32 (w : Int)] = some (.tup [.int .u32 (d : Int), .int .u32 (z : Int)]) := by
  rw [run_k G T hT.bits_Sub32]
  have w1 : ((x : Int) - y) % 4294967296 = ((x : Int) - y) % 4294967296 := rfl
  have w2 : (((x : Int) - y) % 4294967296 - w) % 4294967296 = (d : Int) := by omega
  have n1 : (4294967295 ^^^ x) < 4294967296 := Nat.xor_lt_two_pow (n := 32) (by decide) hx
  have n2 : (x ^^^ y) < 4294967296 := Nat.xor_lt_two_pow (n := 32) hx hy
  have n3 : (4294967295 ^^^ (x ^^^ y)) < 4294967296 := Nat.xor_lt_two_pow (n := 32) (by decide) n2
  have x1 := xor32 (a := 4294967295) (b := x) (by decide) hx
  have x2 := xor32 hx hy
  have x3 := xor32 (a := 4294967295) (b := x ^^^ y) (by decide) n2
  rw [show ((4294967295 : Nat) : Int) = 4294967295 from rfl] at x1 x3
  have a1 := and32 n1 hy
  have a2 := and32 n3 hd
  have l1 := Nat.and_lt_two_pow (n := 32) (4294967295 ^^^ x) hy
  have l2 := Nat.and_lt_two_pow (n := 32) (4294967295 ^^^ (x ^^^ y)) hd
  have o1 := or32 l1 l2
  have b1 := borrow_bit hx hy hd hw hz h
  have b2 : (((((4294967295 ^^^ x) &&& y) ||| ((4294967295 ^^^ (x ^^^ y)) &&& d)) : Nat) : Int) / 2147483648 = (z : Int) := by
    rw [← b1]; rfl
  repeat (first | (simp (maxSteps := 1000000) only [evB, if_true, if_false, ne_eq, Nat.reduceEqDiff, Nat.reduceAdd, reduceCtorEq, Int.reduceLE, Int.reduceLT, Int.reduceEq, Int.reduceNeg, Int.reduceToNat, Int.reducePow, Int.reduceMod, Int.reduceDiv, Int.reduceSub, Int.reduceAdd, Int.reduceMul, Nat.reduceMul, Nat.reduceSub, Nat.reducePow, c_bits_Sub32, un_xor32, w2, x1, x2, x3, a1, a2, o1, b2]) | (simp (disch := omega) only [dsB]))

theorem bits_Add32 (hT : HasA g T) {x y w d z : Nat} (hx : x < 4294967296) (hy : y < 4294967296) (hw : w ≤ 1) (hd : d < 4294967296) (hz : z ≤ 1) (h : d + 4294967296 * z = x + y + w) :
    run G T 112 [.int .u32 (x : Int), .int .u32 (y : Int), .int .u32 (w : Int)] = some (.tup [.int .u32 (d : Int), .int .u32 (z : Int)]) := by
  rw [run_k G T hT.bits_Add32]
  have w1 : (x : Int) % 18446744073709551616 = x := by omega
  have w2 : (y : Int) % 18446744073709551616 = y := by omega
  have w3 : (w : Int) % 18446744073709551616 = w := by omega
  have w4 : ((x : Int) + y) % 18446744073709551616 = (x : Int) + y := by omega
  have w5 : ((x : Int) + y + w) % 18446744073709551616 = (x : Int) + y + w := by omega
  have w6 : ((x : Int) + y + w) % 4294967296 = d := by omega
  have w7 : ((x : Int) + y + w) / 4294967296 = z := by omega
  have w8 : (z : Int) % 4294967296 = z := by omega
  repeat (first | (simp (maxSteps := 1000000) only [evB, if_true, if_false, ne_eq, Nat.reduceEqDiff, Nat.reduceAdd, reduceCtorEq, Int.reduceLE, Int.reduceLT, Int.reduceEq, Int.reduceNeg, Int.reduceToNat, Int.reducePow, Int.reduceMod, Int.reduceDiv, Int.reduceSub, Int.reduceAdd, Int.reduceMul, Nat.reduceMul, Nat.reduceSub, Nat.reducePow, c_bits_Add32, w1, w2, w3, w4, w5, w6, w7, w8]) | (simp (disch := omega) only [dsB]))

end Go.Cv

/-
  One digit of a long quotient, on the blocks.
-/
namespace Go.Cv
variable {G : Nat → Option (List AV)} {T : Tbl} {g : Nat}

end Go.Cv

/-
  One digit of a long quotient: a multiple taken away, the divisor added back.
-/
namespace Go.Cv
variable {G : Nat → Option (List AV)} {T : Tbl} {g : Nat}

end Go.Cv

/-
  One digit of a long quotient, whole.
-/
namespace Go.Cv
variable {G : Nat → Option (List AV)} {T : Tbl} {g : Nat}

end Go.Cv

/-
  One digit of a long quotient: the function.
-/
namespace Go.Cv
variable {G : Nat → Option (List AV)} {T : Tbl} {g : Nat}

end Go.Cv

/-
  Numbers shifted up into a block of the caller's.
-/
namespace Go.Cv
variable {G : Nat → Option (List AV)} {T : Tbl} {g : Nat}

end Go.Cv

/-
  A long quotient: the digits one after the other.
-/
namespace Go.Cv
variable {G : Nat → Option (List AV)} {T : Tbl} {g : Nat}

end Go.Cv

/-
  A long quotient.
-/
namespace Go.Cv
variable {G : Nat → Option (List AV)} {T : Tbl} {g : Nat}

end Go.Cv

/-
  The program's quotients.
-/
namespace Go.Cv
variable {G : Nat → Option (List AV)} {T : Tbl} {g : Nat}

theorem all_loop (e : Env) (h : Heap) : evL G T c_nat_all_l1 e h = kS G T (evL G T c_nat_all_b1 (keepE [5, 6, 7] e) h) c_nat_all_l1 := s_loopc G T rfl e h
theorem ia1_0 (x y : AV) (k : IntKind) : iaddrV 1 (.imm 2 [x, y]) (.int k 0) = some (.iptr [x, y] 0) := rfl
theorem ia1_1 (x y : AV) (k : IntKind) : iaddrV 1 (.imm 2 [x, y]) (.int k 1) = some (.iptr [x, y] 1) := rfl
theorem rd1_0 (h : Mem) (x y : AV) : rdAt G h 1 (.iptr [x, y] 0) = some [x] := rfl
theorem rd1_1 (h : Mem) (x y : AV) : rdAt G h 1 (.iptr [x, y] 1) = some [y] := rfl

theorem nat_all (hT : HasA g T) {z y : Bool} {a b : List Nat} : run G T 106 [.imm 2 [D z a, D y b]] = some (.bool (mayL a && mayL b)) := by
  rw [run_k G T hT.nat_all]
  have h1 := nat_May (G := G) hT z a
  have h2 := nat_May (G := G) hT y b
  cases ha : mayL a <;> cases hb : mayL b <;> (
    rw [ha] at h1
    rw [hb] at h2
    repeat' (first | (simp (maxSteps := 1000000) only [evB, if_true, if_false, ne_eq, Nat.reduceEqDiff, Nat.reduceAdd, reduceCtorEq, Int.reduceLE, Int.reduceLT, Int.reduceEq, Int.reduceNeg, Int.reduceToNat, Int.reducePow, Int.reduceMod, Int.reduceDiv, Int.reduceSub, Int.reduceAdd, Int.reduceMul, Nat.reduceMul, Nat.reduceSub, Nat.reducePow, exB, resC_ptr, res_cell, nilb, nilf, faddr_p, c_nat_all, h1, h2, all_loop, c_nat_all_b1, ia1_0, ia1_1, rd1_0, rd1_1]) | (simp (maxSteps := 1000000) (disch := first | with_reducible assumption | omega) only [dxB]) | (simp only [kI_d, kG_dt, kG_df]; split) | (simp only [kI_v, kG_vt, kG_vf]; split))
    all_goals rfl)

theorem app_nil {h : Heap} {z : Bool} {l : List Nat} (hl : l ≠ []) (hs : l.length < 549755813888) : appV h 1 4 .nil (D z l) = some (.own h.b.length 0 l.length 1, new h l) := by
  cases l with
  | nil => exact absurd rfl hl
  | cons a l =>
    have e : sliceCells h.mem 1 (D z (a :: l)) = some ((a :: l).length, cells (a :: l)) := by
      simp [D, sliceCells, cells]
    simp only [appV, e]
    rw [if_neg (by simp), if_pos (by simp only [boundBytes]; omega)]
    rfl
theorem app_nil0 {h : Heap} {z : Bool} : appV h 1 4 .nil (D z []) = some (.nil, h) := by
  cases z <;> rfl

theorem cmpN_neg {a b : Nat} : cmpN a b < 0 ↔ a < b := by
  unfold cmpN; split
  · constructor <;> intro <;> omega
  · split <;> constructor <;> intro <;> omega

end Go.Cv

/-
  The program's roots.
-/
namespace Go.Cv
variable {G : Nat → Option (List AV)} {T : Tbl} {g : Nat}

end Go.Cv

/-
  The program's root.
-/
namespace Go.Cv
variable {G : Nat → Option (List AV)} {T : Tbl} {g : Nat}

end Go.Cv

/-
  The program's root, whole.
-/
namespace Go.Cv
variable {G : Nat → Option (List AV)} {T : Tbl} {g : Nat}

end Go.Cv

/-
  The document's quotient: bit by bit.
-/
namespace Go.Cv
variable {G : Nat → Option (List AV)} {T : Tbl} {g : Nat}

end Go.Cv

/-
  The document's quotient: its loop.
-/
namespace Go.Cv
variable {G : Nat → Option (List AV)} {T : Tbl} {g : Nat}

end Go.Cv

/-
  The document's quotient, whole.
-/
namespace Go.Cv
variable {G : Nat → Option (List AV)} {T : Tbl} {g : Nat}

end Go.Cv

/-
  The document's root (plain part).
-/
namespace Go.Cv
variable {G : Nat → Option (List AV)} {T : Tbl} {g : Nat}

end Go.Cv

/-
  The document's root: the loop.
-/
namespace Go.Cv
variable {G : Nat → Option (List AV)} {T : Tbl} {g : Nat}

end Go.Cv

/-
  The document's root, whole.
-/
namespace Go.Cv
variable {G : Nat → Option (List AV)} {T : Tbl} {g : Nat}

end Go.Cv

/-
  Numbers cut: the document's; how many bits may be asked for.
-/
namespace Go.Cv
variable {G : Nat → Option (List AV)} {T : Tbl} {g : Nat}

end Go.Cv

/-
  A quotient that was reckoned with some bits more is cut.
-/
namespace Go.Cv
variable {G : Nat → Option (List AV)} {T : Tbl} {g : Nat}

end Go.Cv

/-
  The document's quotient of dyadic numbers.
-/
namespace Go.Cv
variable {G : Nat → Option (List AV)} {T : Tbl} {g : Nat}

end Go.Cv

/-
  Numbers cut, in their one form (plain).
-/
namespace Go.Cv

end Go.Cv

/-
  A number that is short enough is not cut.
-/
namespace Go.Cv
variable {G : Nat → Option (List AV)} {T : Tbl} {g : Nat}

end Go.Cv

/-
  The document's quotient of dyadic numbers.
-/
namespace Go.Cv
variable {G : Nat → Option (List AV)} {T : Tbl} {g : Nat}

end Go.Cv

/-
  The document's quotient of dyadic numbers.
-/
namespace Go.Cv
variable {G : Nat → Option (List AV)} {T : Tbl} {g : Nat}

end Go.Cv

/-
  The program's quotient of dyadic numbers.
-/
namespace Go.Cv
variable {G : Nat → Option (List AV)} {T : Tbl} {g : Nat}

theorem both_loop (e : Env) (h : Heap) : evL G T c_dyad_both_l1 e h = kS G T (evL G T c_dyad_both_b1 (keepE [5, 6, 7] e) h) c_dyad_both_l1 := s_loopc G T rfl e h

theorem dyad_both (hA : HasA g T) (hT : HasC g T) {n z n' z' : Bool} {l l' : List Nat} (hd : Dg l) (hd' : Dg l') {e e' : Int} :
    run G T 74 [.imm 2 [.bool n, D z l, .int .i64 e, .bool n', D z' l', .int .i64 e']] = some (.bool (mayD n l e && mayD n' l' e')) := by
  rw [run_k G T hT.dyad_both]
  have h2 := dyad_May (G := G) (T := T) hA hT (n := n) (z := z) hd (e := e)
  have h3 := dyad_May (G := G) (T := T) hA hT (n := n') (z := z') hd' (e := e')
  simp only [A3] at *
  cases hm : mayD n l e <;> cases hm' : mayD n' l' e' <;> (
    rw [hm] at h2
    rw [hm'] at h3
    repeat' (first | (simp (maxSteps := 1000000) only [evB, if_true, if_false, ne_eq, Nat.reduceEqDiff, Nat.reduceAdd, reduceCtorEq, Int.reduceLE, Int.reduceLT, Int.reduceEq, Int.reduceNeg, Int.reduceToNat, Int.reducePow, Int.reduceMod, Int.reduceDiv, Int.reduceSub, Int.reduceAdd, Int.reduceMul, Nat.reduceMul, Nat.reduceSub, Nat.reducePow, exB, resC_ptr, res_cell, nilb, nilf, faddr_p, c_dyad_both, h2, h3, both_loop, c_dyad_both_b1, iad20, iad21, rd_ip]) | (simp (maxSteps := 1000000) (disch := first | with_reducible assumption | omega) only [dxB]) | (simp only [kI_d, kG_dt, kG_df]; split) | (simp only [kI_v, kG_vt, kG_vf]; split))
    all_goals rfl)
end Go.Cv

/-
  The program's quotient of dyadic numbers.
-/
namespace Go.Cv
variable {G : Nat → Option (List AV)} {T : Tbl} {g : Nat}

end Go.Cv

/-
  The program's root of a dyadic number.
-/
namespace Go.Cv
variable {G : Nat → Option (List AV)} {T : Tbl} {g : Nat}

end Go.Cv

/-
  The document's root of a dyadic number.
-/
namespace Go.Cv
variable {G : Nat → Option (List AV)} {T : Tbl} {g : Nat}

end Go.Cv

/-
  Rounding a number that is told by its first bits and whether there is something behind them.
-/
namespace Go.Cv

end Go.Cv

/-
  Rounding of quotients and roots: the program's and the document's.
-/
namespace Go.Cv
variable {G : Nat → Option (List AV)} {T : Tbl} {g : Nat}

end Go.Cv

/-
  The document's rounding of quotients.
-/
namespace Go.Cv
variable {G : Nat → Option (List AV)} {T : Tbl} {g : Nat}

end Go.Cv

/-
  Rounding of roots: the program's and the document's.
-/
namespace Go.Cv
variable {G : Nat → Option (List AV)} {T : Tbl} {g : Nat}

end Go.Cv

/-
  The statement on quotients.
-/
namespace Go.Cv
variable {G : Nat → Option (List AV)} {T : Tbl} {g : Nat}

end Go.Cv

/-
  The statement on roots.
-/
namespace Go.Cv
variable {G : Nat → Option (List AV)} {T : Tbl} {g : Nat}

end Go.Cv

/-
  Products, column by column (in numbers).
-/
namespace Go.Cv

end Go.Cv

/-
  Products: the document's.
-/
namespace Go.Cv
variable {G : Nat → Option (List AV)} {T : Tbl} {g : Nat}

end Go.Cv

/-
  The statement on squares and products of words.
-/
namespace Go.Cv
variable {G : Nat → Option (List AV)} {T : Tbl} {g : Nat}

theorem mkD_oddp {n : Bool} {m : Nat} {e : Int} (h : m % 2 = 1) (j : Nat) : mkD n (m * 2 ^ j) (e - j) = ⟨n, m, e⟩ := by
  have hp := Nat.two_pow_pos j
  have h0 : m * 2 ^ j ≠ 0 := by
    intro hc
    rcases Nat.mul_eq_zero.1 hc with h1 | h1 <;> omega
  rw [mkD_pos h0, tz_unique h, Nat.mul_div_cancel _ hp, show e - (j : Int) + j = e by omega]
end Go.Cv

/-
  Sums, products, roots of words, in numbers.
-/
namespace Go.Cv

/-- The canonical NaN. -/
def Fm.nan (F : Fm) : Nat := F.most * 2 ^ F.fr + 2 ^ (F.fr - 1)

theorem w_split {F : Fm} {w : Nat} (h : w < 2 * F.sg) : w = w % F.sg + F.sgn (F.ng w) ∧ w % F.sg = 2 ^ F.fr * F.ex w + F.fc w ∧ F.fc w < 2 ^ F.fr ∧ F.ex w ≤ F.most := by
  have hp := Nat.two_pow_pos F.fr
  have hsg : F.sg = 2 ^ F.fr * (F.most + 1) := by cases F <;> decide
  have h0 : 0 < F.sg := by cases F <;> decide
  refine ⟨?_, (Nat.div_add_mod _ _).symm, Nat.mod_lt _ hp, ?_⟩
  · unfold Fm.ng Fm.sgn
    by_cases h1 : F.sg ≤ w
    · rw [decide_eq_true h1, if_pos rfl, Nat.mod_eq_sub_mod h1, Nat.mod_eq_of_lt (by omega)]; omega
    · rw [decide_eq_false h1, if_neg (by decide), Nat.mod_eq_of_lt (by omega)]; rfl
  · have h1 := Nat.mod_lt w h0
    have : w % F.sg / 2 ^ F.fr < F.most + 1 := Nat.div_lt_of_lt_mul (by rw [← hsg]; exact h1)
    unfold Fm.ex; omega
theorem cls_range (F : Fm) (w : Nat) : F.cls w = 1 ∨ F.cls w = 2 ∨ F.cls w = 3 ∨ F.cls w = 4 ∨ F.cls w = 5 := by
  unfold Fm.cls; repeat' split
  all_goals omega
theorem cls_one {F : Fm} {w : Nat} (h : w < 2 * F.sg) : F.cls w = 1 ↔ w % F.sg = 0 := by
  obtain ⟨h1, h2, h3, h4⟩ := w_split h
  have hp := Nat.two_pow_pos F.fr
  rw [h2]
  unfold Fm.cls
  generalize F.ex w = x at *
  generalize F.fc w = y at *
  constructor
  · intro hc
    have hx : x = 0 ∧ y = 0 := by
      by_cases a : x = 0
      · by_cases b : y = 0
        · exact ⟨a, b⟩
        · rw [if_pos a, if_neg b] at hc; omega
      · rw [if_neg a] at hc
        split at hc
        · omega
        · split at hc <;> omega
    rw [hx.1, hx.2]; rfl
  · intro hc
    have hy : y = 0 := by omega
    have hx : x = 0 := by
      rcases Nat.mul_eq_zero.1 (show 2 ^ F.fr * x = 0 by omega) with q | q
      · omega
      · exact q
    rw [if_pos hx, if_pos hy]
theorem cls_zero_w {F : Fm} {w : Nat} (h : w < 2 * F.sg) (hc : F.cls w = 1) : w = F.sgn (F.ng w) ∧ F.val w = ⟨false, 0, 0⟩ := by
  have h1 := (w_split h).1
  rw [(cls_one h).1 hc, Nat.zero_add] at h1
  refine ⟨h1, ?_⟩
  rw [h1]
  have := val_zero F (F.ng w)
  rw [Nat.zero_add] at this
  exact this
/-- An exact sum, rounded. -/
def sumW (F : Fm) (md : Int) (d : Dy) : Nat × Nat := if d.m = 0 then (F.sgn (decide (md = 5)), 0) else rndW F md d
/-- The sum of two parts (class, sign, value). -/
def addP (F : Fm) (md : Int) (c : Int) (n : Bool) (d : Dy) (c' : Int) (n' : Bool) (d' : Dy) : Nat × Nat :=
  if c = 5 ∨ c' = 5 then (F.nan, 0)
  else if c = 4 ∧ c' = 4 ∧ n ≠ n' then (F.nan, 1)
  else if c = 4 then (F.inf n, 0)
  else if c' = 4 then (F.inf n', 0)
  else if c = 1 ∧ c' = 1 ∧ n = n' then (F.sgn n, 0)
  else sumW F md (addD d d')
def mulD (a b : Dy) : Dy := mkD (a.n != b.n) (a.m * b.m) (a.e + b.e)
/-- A word's value; of one that is not finite, nought. -/
def Fm.vl (F : Fm) (w : Nat) : Dy := if F.fin w then F.val w else ⟨false, 0, 0⟩
def addW (F : Fm) (md : Int) (a b : Nat) : Nat × Nat := addP F md (F.cls a) (F.ng a) (F.vl a) (F.cls b) (F.ng b) (F.vl b)
def subW (F : Fm) (md : Int) (a b : Nat) : Nat × Nat := addP F md (F.cls a) (F.ng a) (F.vl a) (F.cls b) (!F.ng b) (negD (F.vl b))
/-- The class of a product. -/
def prC (c c' : Int) : Int := if c = 4 ∨ c' = 4 then 4 else if c = 1 ∨ c' = 1 then 1 else 3
def fmaW (F : Fm) (md : Int) (a b c : Nat) : Nat × Nat :=
  if F.cls a = 5 ∨ F.cls b = 5 ∨ F.cls c = 5 then (F.nan, 0)
  else if (F.cls a = 4 ∨ F.cls b = 4) ∧ (F.cls a = 1 ∨ F.cls b = 1) then (F.nan, 1)
  else addP F md (prC (F.cls a) (F.cls b)) (F.ng a != F.ng b) (if prC (F.cls a) (F.cls b) = 3 then mulD (F.vl a) (F.vl b) else ⟨false, 0, 0⟩) (F.cls c) (F.ng c) (F.vl c)

theorem addD_comm {a b : Dy} (ha : Nz a) (hb : Nz b) : addD a b = addD b a := by
  unfold addD
  by_cases h1 : a.m = 0
  · by_cases h2 : b.m = 0
    · rw [if_pos h1, if_pos h2, ha.1 h1, hb.1 h2]
    · rw [if_pos h1, if_neg h2, if_pos h1]
  · by_cases h2 : b.m = 0
    · rw [if_neg h1, if_pos h2, if_pos h2]
    · rw [if_neg h1, if_neg h2, if_neg h2, if_neg h1, Int.min_comm b.e a.e]
      generalize a.m * 2 ^ (a.e - min a.e b.e).toNat = x
      generalize b.m * 2 ^ (b.e - min a.e b.e).toNat = y
      by_cases h3 : a.n = b.n
      · rw [if_pos h3, if_pos h3.symm, h3, Nat.add_comm]
      · rw [if_neg h3, if_neg (show ¬ b.n = a.n from fun h => h3 h.symm)]
        by_cases h4 : y ≤ x
        · by_cases h5 : x ≤ y
          · rw [if_pos h4, if_pos h5, show x = y by omega, Nat.sub_self]; rfl
          · rw [if_pos h4, if_neg h5]
        · rw [if_neg h4, if_pos (by omega)]
theorem Nz_vl (F : Fm) (w : Nat) : Nz (F.vl w) := by
  unfold Fm.vl; split
  · unfold Fm.val; split <;> exact Nz_mk _ _ _
  · exact ⟨fun _ => rfl, fun h => absurd rfl h⟩
theorem Bd_vl (F : Fm) (w : Nat) : Bd (F.vl w) 4096 := by
  unfold Fm.vl; split
  · rename_i h; exact Bd_val F h
  · exact ⟨by simp only [blen_zero]; omega, by simp, by simp⟩
theorem fin_iff {F : Fm} {w : Nat} : F.fin w ↔ F.cls w = 1 ∨ F.cls w = 2 ∨ F.cls w = 3 := by
  have h1 := fin_cls F w
  have h2 := cls_range F w
  constructor
  · intro h; have := h1.1 h; omega
  · intro h; exact h1.2 (by omega)
end Go.Cv

/-
  The program's sums, differences, comparisons of numbers.
-/
namespace Go.Cv
variable {G : Nat → Option (List AV)} {T : Tbl} {g : Nat}

theorem val_set_take {l : List Nat} {i v : Nat} (h : i < l.length) : val ((l.set i v).take (i + 1)) = val (l.take i) + 4294967296 ^ i * v := by
  rw [val_take_succ', List.take_set_of_le (Nat.le_refl i)]
  congr 2
  rw [dg_lt (by rw [List.length_set]; exact h), List.getElem_set_self]

theorem nAdd_loop (hT : HasA g T) {A B : List Nat} {z y : Bool} {b : Nat} (hA : Dg A) (hB : Dg B) (hs : A.length < 17179869184) (ht : B.length ≤ A.length) : ∀ (m i : Nat) (h : Heap) (l : List Nat) (c : Nat),
    m + i = A.length → Holds h b l → Dg l → l.length = A.length + 1 → c ≤ 1 → val (l.take i) + 4294967296 ^ i * c = val (A.take i) + val (B.take i) →
    Post (evL G T c_nat_Add_l1 [(0, D z A), (1, D y B), (6, .own b 0 (A.length + 1) 1), (7, .int .u32 (c : Int)), (27, .int .i64 ((A.length : Nat) : Int)), (28, .int .i64 (i : Int))] h) fun r =>
      ∃ e h' l' c', r = (.exit 0, (0, D z A) :: (1, D y B) :: (6, .own b 0 (A.length + 1) 1) :: (7, .int .u32 ((c' : Nat) : Int)) :: e, h') ∧ Holds h' b l' ∧ Dg l' ∧ l'.length = A.length + 1 ∧ c' ≤ 1 ∧ val (l'.take A.length) + 4294967296 ^ A.length * c' = val A + val B
  | 0, i, h, l, c, hm, H, hd, hl, hc, he => by
    rw [s_loopc G T (c := c_nat_Add_l1) rfl]
    have h1 : ¬ (i : Int) < (A.length : Int) := by omega
    repeat (first | (simp (maxSteps := 1000000) only [evB, if_true, if_false, ne_eq, Nat.reduceEqDiff, Nat.reduceAdd, reduceCtorEq, Int.reduceLE, Int.reduceLT, Int.reduceEq, Int.reduceNeg, Int.reduceToNat, Int.reducePow, Int.reduceMod, Int.reduceDiv, Int.reduceSub, Int.reduceAdd, Int.reduceMul, Nat.reduceMul, Nat.reduceSub, Nat.reducePow, c_nat_Add_b1, h1]) | (simp (disch := omega) only [dsB]))
    obtain rfl : i = A.length := by omega
    rw [List.take_length, List.take_of_length_le ht] at he
    exact Post.some ⟨_, _, _, _, rfl, H, hd, hl, hc, he⟩
  | m + 1, i, h, l, c, hm, H, hd, hl, hc, he => by
    rw [s_loopc G T (c := c_nat_Add_l1) rfl]
    have h1 : (i : Int) < (A.length : Int) := by omega
    have e7 : (i : Int) + 1 = ((i + 1 : Nat) : Int) := by omega
    have hx := hA.dg i
    have hy := hB.dg i
    have hil : i < l.length := by omega
    have hb := bits_Add32 (G := G) (T := T) hT (x := dg A i) (y := dg B i) (w := c) (d := (dg A i + dg B i + c) % 4294967296) (z := (dg A i + dg B i + c) / 4294967296) hx hy hc (Nat.mod_lt _ (by decide)) (by omega) (by omega)
    have key : val ((l.set i ((dg A i + dg B i + c) % 4294967296)).take (i + 1)) + 4294967296 ^ (i + 1) * ((dg A i + dg B i + c) / 4294967296) = val (A.take (i + 1)) + val (B.take (i + 1)) := by
      rw [val_set_take hil, val_take_succ', val_take_succ', Nat.pow_succ, Nat.mul_assoc, Nat.add_assoc, ← Nat.mul_add, Nat.mod_add_div, Nat.mul_add, Nat.mul_add]
      omega
    have hz : (dg A i + dg B i + c) / 4294967296 ≤ 1 := by omega
    have hm1 : (dg A i + dg B i + c) % 4294967296 < 4294967296 := Nat.mod_lt _ (by decide)
    by_cases h2 : (i : Int) < (B.length : Int)
    · repeat (first | (simp (maxSteps := 1000000) only [evB, if_true, if_false, ne_eq, Nat.reduceEqDiff, Nat.reduceAdd, reduceCtorEq, Int.reduceLE, Int.reduceLT, Int.reduceEq, Int.reduceNeg, Int.reduceToNat, Int.reducePow, Int.reduceMod, Int.reduceDiv, Int.reduceSub, Int.reduceAdd, Int.reduceMul, Nat.reduceMul, Nat.reduceSub, Nat.reducePow, c_nat_Add_b1, h1, h2, hb, e7 ]) | (simp (disch := omega) only [dsB,  store_n H]))
      exact nAdd_loop hT hA hB hs ht m (i + 1) _ _ _ (by omega) (H.put _) (Dg_set hd hm1) (by rw [List.length_set]; exact hl) hz key
    · have hg : dg B i = 0 := dg_ge (by omega)
      rw [hg] at hb key hz hm1
      rw [cast0] at hb
      repeat (first | (simp (maxSteps := 1000000) only [evB, if_true, if_false, ne_eq, Nat.reduceEqDiff, Nat.reduceAdd, reduceCtorEq, Int.reduceLE, Int.reduceLT, Int.reduceEq, Int.reduceNeg, Int.reduceToNat, Int.reducePow, Int.reduceMod, Int.reduceDiv, Int.reduceSub, Int.reduceAdd, Int.reduceMul, Nat.reduceMul, Nat.reduceSub, Nat.reducePow, c_nat_Add_b1, h1, h2, hb, e7 ]) | (simp (disch := omega) only [dsB,  store_n H]))
      exact nAdd_loop hT hA hB hs ht m (i + 1) _ _ _ (by omega) (H.put _) (Dg_set hd hm1) (by rw [List.length_set]; exact hl) hz key

theorem nSub_loop (hT : HasA g T) {A B : List Nat} {z y : Bool} {b : Nat} (hA : Dg A) (hB : Dg B) (hs : A.length < 17179869184) (ht : B.length ≤ A.length) : ∀ (m i : Nat) (h : Heap) (l : List Nat) (c : Nat),
    m + i = A.length → Holds h b l → Dg l → l.length = A.length → c ≤ 1 → val (l.take i) + val (B.take i) = val (A.take i) + 4294967296 ^ i * c →
    Post (evL G T c_nat_sub_l1 [(0, D z A), (1, D y B), (5, .own b 0 A.length 1), (6, .int .u32 (c : Int)), (13, .int .i64 ((A.length : Nat) : Int)), (14, .int .i64 (i : Int))] h) fun r =>
      ∃ e h' l' c', r = (.exit 0, (0, D z A) :: (1, D y B) :: (5, .own b 0 A.length 1) :: (6, .int .u32 ((c' : Nat) : Int)) :: e, h') ∧ Holds h' b l' ∧ Dg l' ∧ l'.length = A.length ∧ c' ≤ 1 ∧ val l' + val B = val A + 4294967296 ^ A.length * c'
  | 0, i, h, l, c, hm, H, hd, hl, hc, he => by
    rw [s_loopc G T (c := c_nat_sub_l1) rfl]
    have h1 : ¬ (i : Int) < (A.length : Int) := by omega
    repeat (first | (simp (maxSteps := 1000000) only [evB, if_true, if_false, ne_eq, Nat.reduceEqDiff, Nat.reduceAdd, reduceCtorEq, Int.reduceLE, Int.reduceLT, Int.reduceEq, Int.reduceNeg, Int.reduceToNat, Int.reducePow, Int.reduceMod, Int.reduceDiv, Int.reduceSub, Int.reduceAdd, Int.reduceMul, Nat.reduceMul, Nat.reduceSub, Nat.reducePow, c_nat_sub_b1, h1]) | (simp (disch := omega) only [dsB]))
    obtain rfl : i = A.length := by omega
    rw [List.take_length, List.take_of_length_le ht, List.take_of_length_le (by omega)] at he
    exact Post.some ⟨_, _, _, _, rfl, H, hd, hl, hc, he⟩
  | m + 1, i, h, l, c, hm, H, hd, hl, hc, he => by
    rw [s_loopc G T (c := c_nat_sub_l1) rfl]
    have h1 : (i : Int) < (A.length : Int) := by omega
    have e7 : (i : Int) + 1 = ((i + 1 : Nat) : Int) := by omega
    have hx := hA.dg i
    have hy := hB.dg i
    have hil : i < l.length := by omega
    obtain ⟨d, q, hdq, hd1, hq⟩ : ∃ d q, d + dg B i + c = dg A i + 4294967296 * q ∧ d < 4294967296 ∧ q ≤ 1 := by
      by_cases hlt : dg A i < dg B i + c
      · exact ⟨dg A i + 4294967296 - (dg B i + c), 1, by omega, by omega, by omega⟩
      · exact ⟨dg A i - (dg B i + c), 0, by omega, by omega, by omega⟩
    have hb := bits_Sub32 (G := G) (T := T) hT (x := dg A i) (y := dg B i) (w := c) (d := d) (z := q) hx hy hc hd1 hq hdq
    have key : val ((l.set i d).take (i + 1)) + val (B.take (i + 1)) = val (A.take (i + 1)) + 4294967296 ^ (i + 1) * q := by
      rw [val_set_take hil, val_take_succ', val_take_succ', Nat.pow_succ, Nat.mul_assoc]
      have h2 : 4294967296 ^ i * d + 4294967296 ^ i * dg B i + 4294967296 ^ i * c = 4294967296 ^ i * dg A i + 4294967296 ^ i * (4294967296 * q) := by
        rw [← Nat.mul_add, ← Nat.mul_add, ← Nat.mul_add, hdq]
      omega
    by_cases h2 : (i : Int) < (B.length : Int)
    · repeat (first | (simp (maxSteps := 1000000) only [evB, if_true, if_false, ne_eq, Nat.reduceEqDiff, Nat.reduceAdd, reduceCtorEq, Int.reduceLE, Int.reduceLT, Int.reduceEq, Int.reduceNeg, Int.reduceToNat, Int.reducePow, Int.reduceMod, Int.reduceDiv, Int.reduceSub, Int.reduceAdd, Int.reduceMul, Nat.reduceMul, Nat.reduceSub, Nat.reducePow, c_nat_sub_b1, h1, h2, hb, e7 ]) | (simp (disch := omega) only [dsB,  store_n H]))
      exact nSub_loop hT hA hB hs ht m (i + 1) _ _ _ (by omega) (H.put _) (Dg_set hd hd1) (by rw [List.length_set]; exact hl) hq key
    · have hg : dg B i = 0 := dg_ge (by omega)
      rw [hg, cast0] at hb
      repeat (first | (simp (maxSteps := 1000000) only [evB, if_true, if_false, ne_eq, Nat.reduceEqDiff, Nat.reduceAdd, reduceCtorEq, Int.reduceLE, Int.reduceLT, Int.reduceEq, Int.reduceNeg, Int.reduceToNat, Int.reducePow, Int.reduceMod, Int.reduceDiv, Int.reduceSub, Int.reduceAdd, Int.reduceMul, Nat.reduceMul, Nat.reduceSub, Nat.reducePow, c_nat_sub_b1, h1, h2, hb, e7 ]) | (simp (disch := omega) only [dsB,  store_n H]))
      exact nSub_loop hT hA hB hs ht m (i + 1) _ _ _ (by omega) (H.put _) (Dg_set hd hd1) (by rw [List.length_set]; exact hl) hq key

theorem nat_bound (hT : HasA g T) {z : Bool} {l : List Nat} (h : l.length ≤ 4096) : run G T 117 [D z l] = some (.tup [D z l, .int .i64 0]) := by
  rw [run_k G T hT.nat_bound]
  have h1 : ¬ (4096 : Int) < (l.length : Int) := by omega
  repeat (first | (simp (maxSteps := 1000000) only [evB, if_true, if_false, ne_eq, Nat.reduceEqDiff, Nat.reduceAdd, reduceCtorEq, Int.reduceLE, Int.reduceLT, Int.reduceEq, Int.reduceNeg, Int.reduceToNat, Int.reducePow, Int.reduceMod, Int.reduceDiv, Int.reduceSub, Int.reduceAdd, Int.reduceMul, Nat.reduceMul, Nat.reduceSub, Nat.reducePow, c_nat_bound, h1]) | (simp (disch := omega) only [dsB]))

theorem nat_sub (hT : HasA g T) {z y : Bool} {a b : Nat} (ha : (dl a).length < 17179869184) (hab : b ≤ a) : ∃ z', run G T 116 [D z (dl a), D y (dl b)] = some (D z' (dl (a - b))) := by
  have hlen : (dl b).length ≤ (dl a).length := by
    rw [dl_len]; exact Nat.lt_of_le_of_lt hab (dl_len.1 (Nat.le_refl _))
  obtain ⟨_, hr, e, h', l', c', rfl, H, hd, hl, hc, hv⟩ := nSub_loop (G := G) (T := T) (z := z) (y := y) (b := Heap.nil.b.length) hT (Dg_dl a) (Dg_dl b) ha hlen (dl a).length 0 (new .nil (List.replicate (dl a).length 0)) _ 0 (by omega) (Holds_new FreH.nil _) (Dg_rep _) (by rw [List.length_replicate]) (by omega) (by simp [val])
  rw [cast0] at hr
  rw [val_dl, val_dl] at hv
  have hlt := val_lt hd
  have hc0 : c' = 0 := by
    rcases Nat.eq_zero_or_pos c' with q | q
    · exact q
    · have : c' = 1 := by omega
      rw [this, Nat.mul_one, ← hl] at hv; omega
  rw [hc0, Nat.mul_zero, Nat.add_zero] at hv
  have hv2 : val l' = a - b := by omega
  have hsn := snap_own H (n := (dl a).length) (by omega)
  rw [← hl, List.take_length] at hsn
  obtain ⟨z', hz⟩ := nat_trim (G := G) (T := T) hT (z := false) hd (by omega)
  rw [hl] at hsn
  refine ⟨z', ?_⟩
  rw [run_k G T hT.nat_sub, ← hv2]
  repeat (first | (simp (maxSteps := 1000000) only [evB, if_true, if_false, ne_eq, Nat.reduceEqDiff, Nat.reduceAdd, reduceCtorEq, Int.reduceLE, Int.reduceLT, Int.reduceEq, Int.reduceNeg, Int.reduceToNat, Int.reducePow, Int.reduceMod, Int.reduceDiv, Int.reduceSub, Int.reduceAdd, Int.reduceMul, Nat.reduceMul, Nat.reduceSub, Nat.reducePow, c_nat_sub, hr, hsn, hz]) | (simp (disch := omega) only [dsB]))

theorem nat_Sub (hT : HasA g T) {z y : Bool} {a b : Nat} (ha : mayL (dl a) = true) (hb : mayL (dl b) = true) (hab : b ≤ a) : ∃ z', run G T 103 [D z (dl a), D y (dl b)] = some (.tup [D z' (dl (a - b)), .int .i64 0]) := by
  have la := (mayL_iff.1 ha).1
  have lb := (mayL_iff.1 hb).1
  have h1 := nat_all (G := G) hT (z := z) (y := y) (a := dl a) (b := dl b)
  rw [ha, hb, Bool.and_self] at h1
  have h2 := nat_cmp (G := G) hT (z := z) (y := y) (a := a) (b := b) (by omega) (by omega)
  have h3 : ¬ cmpN a b < 0 := by rw [cmpN_neg]; omega
  obtain ⟨z', h4⟩ := nat_sub (G := G) (T := T) hT (z := z) (y := y) (a := a) (b := b) (by omega) hab
  refine ⟨z', ?_⟩
  rw [run_k G T hT.nat_Sub]
  repeat' (first | (simp (maxSteps := 1000000) only [evB, if_true, if_false, ne_eq, Nat.reduceEqDiff, Nat.reduceAdd, reduceCtorEq, Int.reduceLE, Int.reduceLT, Int.reduceEq, Int.reduceNeg, Int.reduceToNat, Int.reducePow, Int.reduceMod, Int.reduceDiv, Int.reduceSub, Int.reduceAdd, Int.reduceMul, Nat.reduceMul, Nat.reduceSub, Nat.reducePow, exB, resC_ptr, res_cell, nilb, nilf, faddr_p, c_nat_Sub, h1, h2, h3, h4]) | (simp (maxSteps := 1000000) (disch := first | with_reducible assumption | omega) only [dxB]) | (simp only [kI_d, kG_dt, kG_df]; split) | (simp only [kI_v, kG_vt, kG_vf]; split))

theorem nat_Cmp (hT : HasA g T) {z y : Bool} {a b : Nat} (ha : mayL (dl a) = true) (hb : mayL (dl b) = true) : run G T 104 [D z (dl a), D y (dl b)] = some (.tup [.int .i64 (cmpN a b), .int .i64 0]) := by
  have la := (mayL_iff.1 ha).1
  have lb := (mayL_iff.1 hb).1
  have h1 := nat_all (G := G) hT (z := z) (y := y) (a := dl a) (b := dl b)
  rw [ha, hb, Bool.and_self] at h1
  have h2 := nat_cmp (G := G) hT (z := z) (y := y) (a := a) (b := b) (by omega) (by omega)
  rw [run_k G T hT.nat_Cmp]
  repeat' (first | (simp (maxSteps := 1000000) only [evB, if_true, if_false, ne_eq, Nat.reduceEqDiff, Nat.reduceAdd, reduceCtorEq, Int.reduceLE, Int.reduceLT, Int.reduceEq, Int.reduceNeg, Int.reduceToNat, Int.reducePow, Int.reduceMod, Int.reduceDiv, Int.reduceSub, Int.reduceAdd, Int.reduceMul, Nat.reduceMul, Nat.reduceSub, Nat.reducePow, exB, resC_ptr, res_cell, nilb, nilf, faddr_p, c_nat_Cmp, h1, h2]) | (simp (maxSteps := 1000000) (disch := first | with_reducible assumption | omega) only [dxB]) | (simp only [kI_d, kG_dt, kG_df]; split) | (simp only [kI_v, kG_vt, kG_vf]; split))

/-- What comes after the loop of the sum. -/
theorem nat_Add_ord (hT : HasA g T) {z y : Bool} {a b : Nat} (ha : mayL (dl a) = true) (hb : mayL (dl b) = true) (hab : (dl b).length ≤ (dl a).length) (hs : (dl (a + b)).length ≤ 4096) : ∃ z', run G T 105 [D z (dl a), D y (dl b)] = some (.tup [D z' (dl (a + b)), .int .i64 0]) := by
  have la := (mayL_iff.1 ha).1
  have lb := (mayL_iff.1 hb).1
  have h1 := nat_all (G := G) hT (z := z) (y := y) (a := dl a) (b := dl b)
  rw [ha, hb, Bool.and_self] at h1
  have h2 : ¬ ((dl a).length : Int) < ((dl b).length : Int) := by omega
  obtain ⟨_, hr, e, h', l', c', rfl, H, hd, hl, hc, hv⟩ := nAdd_loop (G := G) (T := T) (z := z) (y := y) (b := 1) hT (Dg_dl a) (Dg_dl b) (by omega) hab (dl a).length 0 (new ⟨[⟨[D z (dl a), D y (dl b)], false⟩], fz1 (AV.bool true) [0]⟩ (List.replicate ((dl a).length + 1) 0)) _ 0 (by omega) (Holds_new (h := ⟨[⟨[D z (dl a), D y (dl b)], false⟩], fz1 (AV.bool true) [0]⟩) (fun _ h => absurd h List.not_mem_nil) _) (Dg_rep _) (by rw [List.length_replicate]) (by omega) (by simp [val])
  rw [cast0] at hr
  rw [val_dl, val_dl] at hv
  have hil : (dl a).length < l'.length := by omega
  have hvs := val_set_take (v := c') hil
  rw [hv, List.take_of_length_le (by rw [List.length_set]; omega)] at hvs
  have H2 := H.put (l'.set (dl a).length c')
  have hd2 : Dg (l'.set (dl a).length c') := Dg_set hd (by omega)
  have hl2 : (l'.set (dl a).length c').length = (dl a).length + 1 := by rw [List.length_set]; exact hl
  have hsn := snap_own H2 (n := (dl a).length + 1) (by omega)
  rw [← hl2, List.take_length] at hsn
  obtain ⟨z', hz⟩ := nat_trim (G := G) (T := T) hT (z := false) hd2 (by omega)
  rw [hl2] at hsn
  rw [hvs] at hz
  have hbd := nat_bound (G := G) (T := T) hT (z := z') hs
  have e8 : ((dl a).length : Int) + 1 = (((dl a).length + 1 : Nat) : Int) := by omega
  refine ⟨z', ?_⟩
  rw [run_k G T hT.nat_Add]
  repeat' (first | (simp (maxSteps := 1000000) only [evB, if_true, if_false, ne_eq, Nat.reduceEqDiff, Nat.reduceAdd, reduceCtorEq, Int.reduceLE, Int.reduceLT, Int.reduceEq, Int.reduceNeg, Int.reduceToNat, Int.reducePow, Int.reduceMod, Int.reduceDiv, Int.reduceSub, Int.reduceAdd, Int.reduceMul, Nat.reduceMul, Nat.reduceSub, Nat.reducePow, exB, resC_ptr, res_cell, nilb, nilf, faddr_p, c_nat_Add, h1, h2, e8, hr, hsn, hz, hbd ]) | (simp (maxSteps := 1000000) (disch := first | with_reducible assumption | omega) only [dxB,  store_n H]) | (simp only [kI_d, kG_dt, kG_df]; split) | (simp only [kI_v, kG_vt, kG_vf]; split))
theorem nat_Add (hT : HasA g T) {z y : Bool} {a b : Nat} (ha : mayL (dl a) = true) (hb : mayL (dl b) = true) (hs : (dl (a + b)).length ≤ 4096) : ∃ z', run G T 105 [D z (dl a), D y (dl b)] = some (.tup [D z' (dl (a + b)), .int .i64 0]) := by
  have la := (mayL_iff.1 ha).1
  have lb := (mayL_iff.1 hb).1
  by_cases hab : (dl b).length ≤ (dl a).length
  · exact nat_Add_ord hT ha hb hab hs
  have h1 := nat_all (G := G) hT (z := z) (y := y) (a := dl a) (b := dl b)
  rw [ha, hb, Bool.and_self] at h1
  have h2 : ((dl a).length : Int) < ((dl b).length : Int) := by omega
  obtain ⟨_, hr, e, h', l', c', rfl, H, hd, hl, hc, hv⟩ := nAdd_loop (G := G) (T := T) (z := y) (y := z) (b := 1) hT (Dg_dl b) (Dg_dl a) (by omega) (by omega) (dl b).length 0 (new ⟨[⟨[D z (dl a), D y (dl b)], false⟩], fz1 (AV.bool true) [0]⟩ (List.replicate ((dl b).length + 1) 0)) _ 0 (by omega) (Holds_new (h := ⟨[⟨[D z (dl a), D y (dl b)], false⟩], fz1 (AV.bool true) [0]⟩) (fun _ h => absurd h List.not_mem_nil) _) (Dg_rep _) (by rw [List.length_replicate]) (by omega) (by simp [val])
  rw [cast0] at hr
  rw [val_dl, val_dl, Nat.add_comm b a] at hv
  have hil : (dl b).length < l'.length := by omega
  have hvs := val_set_take (v := c') hil
  rw [hv, List.take_of_length_le (by rw [List.length_set]; omega)] at hvs
  have H2 := H.put (l'.set (dl b).length c')
  have hd2 : Dg (l'.set (dl b).length c') := Dg_set hd (by omega)
  have hl2 : (l'.set (dl b).length c').length = (dl b).length + 1 := by rw [List.length_set]; exact hl
  have hsn := snap_own H2 (n := (dl b).length + 1) (by omega)
  rw [← hl2, List.take_length] at hsn
  obtain ⟨z', hz⟩ := nat_trim (G := G) (T := T) hT (z := false) hd2 (by omega)
  rw [hl2] at hsn
  rw [hvs] at hz
  have hbd := nat_bound (G := G) (T := T) hT (z := z') hs
  have e8 : ((dl b).length : Int) + 1 = (((dl b).length + 1 : Nat) : Int) := by omega
  refine ⟨z', ?_⟩
  rw [run_k G T hT.nat_Add]
  repeat' (first | (simp (maxSteps := 1000000) only [evB, if_true, if_false, ne_eq, Nat.reduceEqDiff, Nat.reduceAdd, reduceCtorEq, Int.reduceLE, Int.reduceLT, Int.reduceEq, Int.reduceNeg, Int.reduceToNat, Int.reducePow, Int.reduceMod, Int.reduceDiv, Int.reduceSub, Int.reduceAdd, Int.reduceMul, Nat.reduceMul, Nat.reduceSub, Nat.reducePow, exB, resC_ptr, res_cell, nilb, nilf, faddr_p, c_nat_Add, h1, h2, e8, hr, hsn, hz, hbd ]) | (simp (maxSteps := 1000000) (disch := first | with_reducible assumption | omega) only [dxB,  store_n H]) | (simp only [kI_d, kG_dt, kG_df]; split) | (simp only [kI_v, kG_vt, kG_vf]; split))
end Go.Cv

/-
  The program's dyadic numbers: sums, differences, products.
-/
namespace Go.Cv
variable {G : Nat → Option (List AV)} {T : Tbl} {g : Nat}

theorem blen_mulC {x y a b : Nat} (hx : blen x ≤ a) (hy : blen y ≤ b) : blen (x * y) ≤ a + b := by
  refine blen_le.2 ?_
  rw [Nat.pow_add]
  exact Nat.mul_lt_mul_of_lt_of_lt (blen_le.1 hx) (blen_le.1 hy)
theorem nat_Mul (hA : HasA g T) (hU : HasG g T) {z y : Bool} {a b : Nat} (ha : mayL (dl a) = true) (hb : mayL (dl b) = true) (hs : (dl a).length + (dl b).length ≤ 4096) : ∃ z', run G T 197 [D z (dl a), D y (dl b)] = some (.tup [D z' (dl (a * b)), .int .i64 0]) := by
  have h1 := nat_all (G := G) hA (z := z) (y := y) (a := dl a) (b := dl b)
  rw [ha, hb, Bool.and_self] at h1
  obtain ⟨z', h2⟩ := nat_mul (G := G) (T := T) hA (z := z) (y := y) (a := a) (b := b) (by omega)
  have hl : (dl (a * b)).length ≤ 4096 := by
    have e1 := dl_len.1 (Nat.le_refl (dl a).length)
    have e2 := dl_len.1 (Nat.le_refl (dl b).length)
    have : (dl (a * b)).length ≤ (dl a).length + (dl b).length := by
      rw [dl_len, Nat.pow_add]; exact Nat.mul_lt_mul_of_lt_of_lt e1 e2
    omega
  have h3 := nat_bound (G := G) (T := T) hA (z := z') hl
  have c1 : ¬ (4096 : Int) < ((dl a).length : Int) + ((dl b).length : Int) - 1 := by omega
  refine ⟨z', ?_⟩
  rw [run_k G T hU.nat_Mul]
  by_cases k1 : (0 : Int) < ((dl a).length : Int)
  · by_cases k2 : (0 : Int) < ((dl b).length : Int)
    · repeat' (first | (simp (maxSteps := 1000000) only [evB, if_true, if_false, ne_eq, Nat.reduceEqDiff, Nat.reduceAdd, reduceCtorEq, Int.reduceLE, Int.reduceLT, Int.reduceEq, Int.reduceNeg, Int.reduceToNat, Int.reducePow, Int.reduceMod, Int.reduceDiv, Int.reduceSub, Int.reduceAdd, Int.reduceMul, Nat.reduceMul, Nat.reduceSub, Nat.reducePow, exB, resC_ptr, res_cell, nilb, nilf, faddr_p, c_nat_Mul, h1, h2, h3, c1, k1, k2]) | (simp (maxSteps := 1000000) (disch := first | with_reducible assumption | omega) only [dxB]) | (simp only [kI_d, kG_dt, kG_df]; split) | (simp only [kI_v, kG_vt, kG_vf]; split))
    · repeat' (first | (simp (maxSteps := 1000000) only [evB, if_true, if_false, ne_eq, Nat.reduceEqDiff, Nat.reduceAdd, reduceCtorEq, Int.reduceLE, Int.reduceLT, Int.reduceEq, Int.reduceNeg, Int.reduceToNat, Int.reducePow, Int.reduceMod, Int.reduceDiv, Int.reduceSub, Int.reduceAdd, Int.reduceMul, Nat.reduceMul, Nat.reduceSub, Nat.reducePow, exB, resC_ptr, res_cell, nilb, nilf, faddr_p, c_nat_Mul, h1, h2, h3, c1, k1, k2]) | (simp (maxSteps := 1000000) (disch := first | with_reducible assumption | omega) only [dxB]) | (simp only [kI_d, kG_dt, kG_df]; split) | (simp only [kI_v, kG_vt, kG_vf]; split))
  · repeat' (first | (simp (maxSteps := 1000000) only [evB, if_true, if_false, ne_eq, Nat.reduceEqDiff, Nat.reduceAdd, reduceCtorEq, Int.reduceLE, Int.reduceLT, Int.reduceEq, Int.reduceNeg, Int.reduceToNat, Int.reducePow, Int.reduceMod, Int.reduceDiv, Int.reduceSub, Int.reduceAdd, Int.reduceMul, Nat.reduceMul, Nat.reduceSub, Nat.reducePow, exB, resC_ptr, res_cell, nilb, nilf, faddr_p, c_nat_Mul, h1, h2, h3, c1, k1]) | (simp (maxSteps := 1000000) (disch := first | with_reducible assumption | omega) only [dxB]) | (simp only [kI_d, kG_dt, kG_df]; split) | (simp only [kI_v, kG_vt, kG_vf]; split))

theorem dyad_own (hU : HasG g T) {n z : Bool} {l : List Nat} {e : Int} (hl : l.length < 549755813888) : ∃ z', run G T 205 [A3 n (D z l) e] = some (A3 n (D z' l) e) := by
  apply exP
  rw [run_k G T hU.dyad_own]
  cases l with
  | nil =>
    simp only [A3] at *
    repeat' (first | (simp (maxSteps := 1000000) only [evB, if_true, if_false, ne_eq, Nat.reduceEqDiff, Nat.reduceAdd, reduceCtorEq, Int.reduceLE, Int.reduceLT, Int.reduceEq, Int.reduceNeg, Int.reduceToNat, Int.reducePow, Int.reduceMod, Int.reduceDiv, Int.reduceSub, Int.reduceAdd, Int.reduceMul, Nat.reduceMul, Nat.reduceSub, Nat.reducePow, exB, resC_ptr, res_cell, nilb, nilf, faddr_p, c_dyad_own, app_nil0]) | (simp (maxSteps := 1000000) (disch := first | with_reducible assumption | omega) only [dxB]) | (simp only [kI_d, kG_dt, kG_df]; split) | (simp only [kI_v, kG_vt, kG_vf]; split))
    exact ⟨_, rfl, true, rfl⟩
  | cons a l =>
    have ha : appV ⟨[⟨[.bool n, D z (a :: l), .int .i64 e], false⟩, ⟨[.bool false, .nil, .int .i64 0], false⟩], []⟩ 1 4 .nil (D z (a :: l)) =
        some (.own 2 0 (a :: l).length 1, ⟨[⟨[.bool n, D z (a :: l), .int .i64 e], false⟩, ⟨[.bool false, .nil, .int .i64 0], false⟩, ⟨cells (a :: l), false⟩], []⟩) :=
      app_nil (h := ⟨[⟨[.bool n, D z (a :: l), .int .i64 e], false⟩, ⟨[.bool false, .nil, .int .i64 0], false⟩], []⟩) (z := z) (l := a :: l) (by simp) hl
    simp only [A3] at *
    have hsub : sub (cells (a :: l)) 0 (l.length + 1) = some (cells (a :: l)) := sub_all (a :: l)
    repeat' (first | (simp (maxSteps := 1000000) only [evB, if_true, if_false, ne_eq, Nat.reduceEqDiff, Nat.reduceAdd, reduceCtorEq, Int.reduceLE, Int.reduceLT, Int.reduceEq, Int.reduceNeg, Int.reduceToNat, Int.reducePow, Int.reduceMod, Int.reduceDiv, Int.reduceSub, Int.reduceAdd, Int.reduceMul, Nat.reduceMul, Nat.reduceSub, Nat.reducePow, exB, resC_ptr, res_cell, nilb, nilf, faddr_p, c_dyad_own, ha, hsub, sl_cells]) | (simp (maxSteps := 1000000) (disch := first | with_reducible assumption | omega) only [dxB]) | (simp only [kI_d, kG_dt, kG_df]; split) | (simp only [kI_v, kG_vt, kG_vf]; split))
    exact ⟨_, rfl, false, rfl⟩

theorem dyad_signed (hU : HasG g T) {n z s : Bool} {l : List Nat} {e : Int} (hl : l.length < 549755813888) : ∃ z', run G T 198 [A3 n (D z l) e, .bool s] = some (A3 (s && decide (0 < l.length)) (D z' l) e) := by
  obtain ⟨z', h1⟩ := dyad_own (G := G) (T := T) hU (n := n) (z := z) (l := l) (e := e) hl
  refine ⟨z', ?_⟩
  rw [run_k G T hU.dyad_signed]
  have e1 : decide ((0 : Int) < (l.length : Int)) = decide (0 < l.length) := by congr 1; apply propext; omega
  simp only [A3] at *
  cases s <;> (repeat' (first | (simp (maxSteps := 1000000) only [evB, if_true, if_false, ne_eq, Nat.reduceEqDiff, Nat.reduceAdd, reduceCtorEq, Int.reduceLE, Int.reduceLT, Int.reduceEq, Int.reduceNeg, Int.reduceToNat, Int.reducePow, Int.reduceMod, Int.reduceDiv, Int.reduceSub, Int.reduceAdd, Int.reduceMul, Nat.reduceMul, Nat.reduceSub, Nat.reducePow, exB, resC_ptr, res_cell, nilb, nilf, faddr_p, c_dyad_signed, h1, e1]) | (simp (maxSteps := 1000000) (disch := first | with_reducible assumption | omega) only [dxB]) | (simp only [kI_d, kG_dt, kG_df]; split) | (simp only [kI_v, kG_vt, kG_vf]; split)); all_goals try rfl)

theorem dyad_Neg (hA : HasA g T) (hC : HasC g T) (hU : HasG g T) {z : Bool} {d : Dy} (hd : mayD d.n (dl d.m) d.e = true) : ∃ z', run G T 184 [DyA z d] = some (.tup [DyA z' (negD d), .int .i64 0]) := by
  obtain ⟨f1, f2, f3, f4, f5⟩ := mayD_facts hd
  have hl := (mayL_iff.1 f1).1
  have h1 := dyad_May (G := G) (T := T) hA hC d.n z (Dg_dl d.m) d.e
  rw [hd] at h1
  obtain ⟨z', h2⟩ := dyad_signed (G := G) (T := T) hU (n := d.n) (z := z) (s := !d.n) (l := dl d.m) (e := d.e) (by omega)
  refine ⟨z', ?_⟩
  have hv : A3 (!d.n && decide (0 < (dl d.m).length)) (D z' (dl d.m)) d.e = DyA z' (negD d) := by
    by_cases h0 : d.m = 0
    · have hz := f2 (dl_len0.2 h0)
      unfold negD
      rw [if_pos h0, DyA, hz.1, h0, dl_zero]; rfl
    · rw [neg_nm h0]
      have : 0 < (dl d.m).length := Nat.pos_of_ne_zero (fun hc => h0 (dl_len0.1 hc))
      rw [decide_eq_true this, Bool.and_true]; rfl
  rw [hv] at h2
  rw [run_k G T hU.dyad_Neg]
  obtain ⟨n, m, e⟩ := d
  simp only [DyA, A3] at *
  cases n <;> (simp only [Bool.not_true, Bool.not_false] at h2; repeat' (first | (simp (maxSteps := 1000000) only [evB, if_true, if_false, ne_eq, Nat.reduceEqDiff, Nat.reduceAdd, reduceCtorEq, Int.reduceLE, Int.reduceLT, Int.reduceEq, Int.reduceNeg, Int.reduceToNat, Int.reducePow, Int.reduceMod, Int.reduceDiv, Int.reduceSub, Int.reduceAdd, Int.reduceMul, Nat.reduceMul, Nat.reduceSub, Nat.reducePow, exB, resC_ptr, res_cell, nilb, nilf, faddr_p, c_dyad_Neg, h1, h2]) | (simp (maxSteps := 1000000) (disch := first | with_reducible assumption | omega) only [dxB]) | (simp only [kI_d, kG_dt, kG_df]; split) | (simp only [kI_v, kG_vt, kG_vf]; split)))

/-- The sum of two sizes with signs. -/
def joinD (p : Bool) (x : Nat) (q : Bool) (y : Nat) (e : Int) : Dy := if p = q then mkD p (x + y) e else if y ≤ x then mkD p (x - y) e else mkD q (y - x) e

theorem mk_rng {m : Nat} {e : Int} (hb : blen m ≤ 131072) (he : -16000000 < e ∧ e < 16000000) : m = 0 ∨ (-16777216 ≤ e + (tz m : Int) ∧ e + (tz m : Int) ≤ 16777216) := by
  by_cases h0 : m = 0
  · exact Or.inl h0
  · right; have := tz_blen h0; omega

theorem blen_add {x y : Nat} {K : Nat} (hx : blen x ≤ K) (hy : blen y ≤ K) : blen (x + y) ≤ K + 1 := by
  refine blen_le.2 ?_
  have h1 := blen_le.1 hx
  have h2 := blen_le.1 hy
  rw [Nat.pow_succ]; omega

theorem dyad_join (hA : HasA g T) (hG : Glob G g) (hC : HasC g T) (hU : HasG g T) {p q z y : Bool} {x w : Nat} {e : Int} (hx : blen x ≤ 131071) (hw : blen w ≤ 131071) (he : -16000000 < e ∧ e < 16000000) :
    ∃ z', run G T 208 [.bool p, D z (dl x), .bool q, D y (dl w), .int .i64 e] = some (.tup [DyA z' (joinD p x q w e), .int .i64 0]) := by
  have mx : mayL (dl x) = true := mayL_small (by omega)
  have mw : mayL (dl w) = true := mayL_small (by omega)
  have hxw := blen_add hx hw
  by_cases h1 : p = q
  · have hl := dl_len_blen (x + w)
    obtain ⟨z1, a1⟩ := nat_Add (G := G) (T := T) hA (z := z) (y := y) (a := x) (b := w) mx mw (by omega)
    obtain ⟨z2, a2⟩ := dyad_Make (G := G) (T := T) hA hG hC (n := p) (z := z1) (a := x + w) (e := e) (mayL_small (by omega)) (mk_rng (by omega) he) (by omega)
    refine ⟨z2, ?_⟩
    unfold joinD
    rw [if_pos h1, run_k G T hU.dyad_join]
    simp only [DyA, A3] at *
    subst h1
    cases p <;> repeat' (first | (simp (maxSteps := 1000000) only [evB, if_true, if_false, ne_eq, Nat.reduceEqDiff, Nat.reduceAdd, reduceCtorEq, Int.reduceLE, Int.reduceLT, Int.reduceEq, Int.reduceNeg, Int.reduceToNat, Int.reducePow, Int.reduceMod, Int.reduceDiv, Int.reduceSub, Int.reduceAdd, Int.reduceMul, Nat.reduceMul, Nat.reduceSub, Nat.reducePow, exB, resC_ptr, res_cell, nilb, nilf, faddr_p, c_dyad_join, a1, a2]) | (simp (maxSteps := 1000000) (disch := first | with_reducible assumption | omega) only [dxB]) | (simp only [kI_d, kG_dt, kG_df]; split) | (simp only [kI_v, kG_vt, kG_vf]; split))
  · have c0 := nat_Cmp (G := G) (T := T) hA (z := z) (y := y) (a := x) (b := w) mx mw
    by_cases h2 : w ≤ x
    · have hb := blen_mono (Nat.sub_le x w)
      have c1 : ¬ cmpN x w < 0 := by rw [cmpN_neg]; omega
      obtain ⟨z1, a1⟩ := nat_Sub (G := G) (T := T) hA (z := z) (y := y) (a := x) (b := w) mx mw h2
      obtain ⟨z2, a2⟩ := dyad_Make (G := G) (T := T) hA hG hC (n := p) (z := z1) (a := x - w) (e := e) (mayL_small (by omega)) (mk_rng (by omega) he) (by omega)
      refine ⟨z2, ?_⟩
      unfold joinD
      rw [if_neg h1, if_pos h2, run_k G T hU.dyad_join]
      simp only [DyA, A3] at *
      cases p <;> cases q <;> first | (exact absurd rfl h1) | (repeat' (first | (simp (maxSteps := 1000000) only [evB, if_true, if_false, ne_eq, Nat.reduceEqDiff, Nat.reduceAdd, reduceCtorEq, Int.reduceLE, Int.reduceLT, Int.reduceEq, Int.reduceNeg, Int.reduceToNat, Int.reducePow, Int.reduceMod, Int.reduceDiv, Int.reduceSub, Int.reduceAdd, Int.reduceMul, Nat.reduceMul, Nat.reduceSub, Nat.reducePow, exB, resC_ptr, res_cell, nilb, nilf, faddr_p, c_dyad_join, c0, c1, a1, a2]) | (simp (maxSteps := 1000000) (disch := first | with_reducible assumption | omega) only [dxB]) | (simp only [kI_d, kG_dt, kG_df]; split) | (simp only [kI_v, kG_vt, kG_vf]; split)))
    · have hb := blen_mono (Nat.sub_le w x)
      have c1 : cmpN x w < 0 := by rw [cmpN_neg]; omega
      obtain ⟨z1, a1⟩ := nat_Sub (G := G) (T := T) hA (z := y) (y := z) (a := w) (b := x) mw mx (by omega)
      obtain ⟨z2, a2⟩ := dyad_Make (G := G) (T := T) hA hG hC (n := q) (z := z1) (a := w - x) (e := e) (mayL_small (by omega)) (mk_rng (by omega) he) (by omega)
      refine ⟨z2, ?_⟩
      unfold joinD
      rw [if_neg h1, if_neg h2, run_k G T hU.dyad_join]
      simp only [DyA, A3] at *
      cases p <;> cases q <;> first | (exact absurd rfl h1) | (repeat' (first | (simp (maxSteps := 1000000) only [evB, if_true, if_false, ne_eq, Nat.reduceEqDiff, Nat.reduceAdd, reduceCtorEq, Int.reduceLE, Int.reduceLT, Int.reduceEq, Int.reduceNeg, Int.reduceToNat, Int.reducePow, Int.reduceMod, Int.reduceDiv, Int.reduceSub, Int.reduceAdd, Int.reduceMul, Nat.reduceMul, Nat.reduceSub, Nat.reducePow, exB, resC_ptr, res_cell, nilb, nilf, faddr_p, c_dyad_join, c0, c1, a1, a2]) | (simp (maxSteps := 1000000) (disch := first | with_reducible assumption | omega) only [dxB]) | (simp only [kI_d, kG_dt, kG_df]; split) | (simp only [kI_v, kG_vt, kG_vf]; split)))

theorem joinD_add {a b : Dy} (ha : a.m ≠ 0) (hb : b.m ≠ 0) (he : b.e ≤ a.e) : joinD a.n (a.m * 2 ^ (a.e - b.e).toNat) b.n b.m b.e = addD a b := by
  unfold joinD addD
  rw [if_neg ha, if_neg hb, Int.min_eq_right he, show (b.e - b.e).toNat = 0 by omega, Nat.pow_zero, Nat.mul_one]

theorem dyad_add_ord (hA : HasA g T) (hG : Glob G g) (hC : HasC g T) (hU : HasG g T) {z y : Bool} {a b : Dy} (ha : Bd a 16384) (hb : Bd b 16384) (na : a.m ≠ 0) (nb : b.m ≠ 0) (he : b.e ≤ a.e) :
    ∃ z', run G T 203 [DyA z a, DyA y b] = some (.tup [DyA z' (addD a b), .int .i64 0]) := by
  obtain ⟨a1, a2, a3⟩ := ha
  obtain ⟨b1, b2, b3⟩ := hb
  have ma : mayL (dl a.m) = true := mayL_small (by omega)
  have l1 := nat_Len (G := G) (T := T) hA (z := z) ma
  obtain ⟨z1, s1⟩ := nat_Shift_up (G := G) (T := T) hA (z := z) (a := a.m) (n := (a.e - b.e).toNat) ma (Or.inr (by omega)) (by omega)
  rw [show (((a.e - b.e).toNat : Nat) : Int) = a.e - b.e by omega] at s1
  have hbl := blen_mul na (a.e - b.e).toNat
  obtain ⟨z2, j1⟩ := dyad_join (G := G) (T := T) hA hG hC hU (p := a.n) (q := b.n) (z := z1) (y := y) (x := a.m * 2 ^ (a.e - b.e).toNat) (w := b.m) (e := b.e) (by omega) (by omega) (by omega)
  rw [joinD_add na nb he] at j1
  have c1 : ¬ ((dl a.m).length : Int) = 0 := fun hc => na (dl_len0.1 (by omega))
  have c2 : ¬ ((dl b.m).length : Int) = 0 := fun hc => nb (dl_len0.1 (by omega))
  have c3 : ¬ a.e < b.e := by omega
  have w1 : IntKind.i64.wrap (a.e - b.e) = a.e - b.e := wrap_i64 (by omega)
  have w2 : IntKind.i64.wrap (a.e - b.e + (blen a.m : Int)) = a.e - b.e + (blen a.m : Int) := wrap_i64 (by omega)
  have c4 : ¬ (131073 : Int) < a.e - b.e + (blen a.m : Int) := by omega
  have c5 : ¬ (131072 : Int) < a.e - b.e + (blen a.m : Int) := by omega
  refine ⟨z2, ?_⟩
  rw [run_k G T hU.dyad_add]
  generalize addD a b = d at *
  obtain ⟨n, m, e⟩ := a
  obtain ⟨n', m', e'⟩ := b
  clear hbl a1 a2 a3 b1 b2 b3
  simp only [DyA, A3] at *
  repeat' (first | (simp (maxSteps := 1000000) only [evB, if_true, if_false, ne_eq, Nat.reduceEqDiff, Nat.reduceAdd, reduceCtorEq, Int.reduceLE, Int.reduceLT, Int.reduceEq, Int.reduceNeg, Int.reduceToNat, Int.reducePow, Int.reduceMod, Int.reduceDiv, Int.reduceSub, Int.reduceAdd, Int.reduceMul, Nat.reduceMul, Nat.reduceSub, Nat.reducePow, exB, resC_ptr, res_cell, nilb, nilf, faddr_p, c_dyad_add, c1, c2, c3, c4, c5, w1, w2, l1, s1, j1]) | (simp (maxSteps := 1000000) (disch := first | with_reducible assumption | omega) only [dxB]) | (simp only [kI_d, kG_dt, kG_df]; split) | (simp only [kI_v, kG_vt, kG_vf]; split))

theorem dyad_add (hA : HasA g T) (hG : Glob G g) (hC : HasC g T) (hU : HasG g T) {z y : Bool} {a b : Dy} (ha : Bd a 16384) (hb : Bd b 16384) (za : Nz a) (zb : Nz b) :
    ∃ z', run G T 203 [DyA z a, DyA y b] = some (.tup [DyA z' (addD a b), .int .i64 0]) := by
  by_cases na : a.m = 0
  · have hl := dl_len_blen b.m
    have hbl := hb.bl
    obtain ⟨z1, h1⟩ := dyad_own (G := G) (T := T) hU (n := b.n) (z := y) (l := dl b.m) (e := b.e) (by omega)
    have c1 : ((dl a.m).length : Int) = 0 := by have := dl_len0.2 na; omega
    refine ⟨z1, ?_⟩
    rw [run_k G T hU.dyad_add]
    unfold addD
    rw [if_pos na]
    obtain ⟨n, m, e⟩ := a
    obtain ⟨n', m', e'⟩ := b
    simp only [DyA, A3] at *
    repeat' (first | (simp (maxSteps := 1000000) only [evB, if_true, if_false, ne_eq, Nat.reduceEqDiff, Nat.reduceAdd, reduceCtorEq, Int.reduceLE, Int.reduceLT, Int.reduceEq, Int.reduceNeg, Int.reduceToNat, Int.reducePow, Int.reduceMod, Int.reduceDiv, Int.reduceSub, Int.reduceAdd, Int.reduceMul, Nat.reduceMul, Nat.reduceSub, Nat.reducePow, exB, resC_ptr, res_cell, nilb, nilf, faddr_p, c_dyad_add, c1, h1]) | (simp (maxSteps := 1000000) (disch := first | with_reducible assumption | omega) only [dxB]) | (simp only [kI_d, kG_dt, kG_df]; split) | (simp only [kI_v, kG_vt, kG_vf]; split))
  · by_cases nb : b.m = 0
    · have hl := dl_len_blen a.m
      have hbl := ha.bl
      obtain ⟨z1, h1⟩ := dyad_own (G := G) (T := T) hU (n := a.n) (z := z) (l := dl a.m) (e := a.e) (by omega)
      have c1 : ¬ ((dl a.m).length : Int) = 0 := fun hc => na (dl_len0.1 (by omega))
      have c2 : ((dl b.m).length : Int) = 0 := by have := dl_len0.2 nb; omega
      refine ⟨z1, ?_⟩
      rw [run_k G T hU.dyad_add]
      unfold addD
      rw [if_neg na, if_pos nb]
      obtain ⟨n, m, e⟩ := a
      obtain ⟨n', m', e'⟩ := b
      simp only [DyA, A3] at *
      repeat' (first | (simp (maxSteps := 1000000) only [evB, if_true, if_false, ne_eq, Nat.reduceEqDiff, Nat.reduceAdd, reduceCtorEq, Int.reduceLE, Int.reduceLT, Int.reduceEq, Int.reduceNeg, Int.reduceToNat, Int.reducePow, Int.reduceMod, Int.reduceDiv, Int.reduceSub, Int.reduceAdd, Int.reduceMul, Nat.reduceMul, Nat.reduceSub, Nat.reducePow, exB, resC_ptr, res_cell, nilb, nilf, faddr_p, c_dyad_add, c1, c2, h1]) | (simp (maxSteps := 1000000) (disch := first | with_reducible assumption | omega) only [dxB]) | (simp only [kI_d, kG_dt, kG_df]; split) | (simp only [kI_v, kG_vt, kG_vf]; split))
    · by_cases he : b.e ≤ a.e
      · exact dyad_add_ord hA hG hC hU ha hb na nb he
      · obtain ⟨a1, a2, a3⟩ := ha
        obtain ⟨b1, b2, b3⟩ := hb
        have mb : mayL (dl b.m) = true := mayL_small (by omega)
        have l1 := nat_Len (G := G) (T := T) hA (z := y) mb
        obtain ⟨z1, s1⟩ := nat_Shift_up (G := G) (T := T) hA (z := y) (a := b.m) (n := (b.e - a.e).toNat) mb (Or.inr (by omega)) (by omega)
        rw [show (((b.e - a.e).toNat : Nat) : Int) = b.e - a.e by omega] at s1
        have hbl := blen_mul nb (b.e - a.e).toNat
        obtain ⟨z2, j1⟩ := dyad_join (G := G) (T := T) hA hG hC hU (p := b.n) (q := a.n) (z := z1) (y := z) (x := b.m * 2 ^ (b.e - a.e).toNat) (w := a.m) (e := a.e) (by omega) (by omega) (by omega)
        rw [joinD_add nb na (by omega), addD_comm zb za] at j1
        have c1 : ¬ ((dl a.m).length : Int) = 0 := fun hc => na (dl_len0.1 (by omega))
        have c2 : ¬ ((dl b.m).length : Int) = 0 := fun hc => nb (dl_len0.1 (by omega))
        have c3 : a.e < b.e := by omega
        have w1 : IntKind.i64.wrap (b.e - a.e) = b.e - a.e := wrap_i64 (by omega)
        have w2 : IntKind.i64.wrap (b.e - a.e + (blen b.m : Int)) = b.e - a.e + (blen b.m : Int) := wrap_i64 (by omega)
        have c4 : ¬ (131073 : Int) < b.e - a.e + (blen b.m : Int) := by omega
        have c5 : ¬ (131072 : Int) < b.e - a.e + (blen b.m : Int) := by omega
        refine ⟨z2, ?_⟩
        rw [run_k G T hU.dyad_add]
        generalize addD a b = d at *
        obtain ⟨n, m, e⟩ := a
        obtain ⟨n', m', e'⟩ := b
        clear hbl a1 a2 a3 b1 b2 b3
        simp only [DyA, A3] at *
        repeat' (first | (simp (maxSteps := 1000000) only [evB, if_true, if_false, ne_eq, Nat.reduceEqDiff, Nat.reduceAdd, reduceCtorEq, Int.reduceLE, Int.reduceLT, Int.reduceEq, Int.reduceNeg, Int.reduceToNat, Int.reducePow, Int.reduceMod, Int.reduceDiv, Int.reduceSub, Int.reduceAdd, Int.reduceMul, Nat.reduceMul, Nat.reduceSub, Nat.reducePow, exB, resC_ptr, res_cell, nilb, nilf, faddr_p, c_dyad_add, c1, c2, c3, c4, c5, w1, w2, l1, s1, j1]) | (simp (maxSteps := 1000000) (disch := first | with_reducible assumption | omega) only [dxB]) | (simp only [kI_d, kG_dt, kG_df]; split) | (simp only [kI_v, kG_vt, kG_vf]; split))

theorem dyad_Add (hA : HasA g T) (hG : Glob G g) (hC : HasC g T) (hU : HasG g T) {z y : Bool} {a b : Dy} (ha : Bd a 16384) (hb : Bd b 16384) (da : mayD a.n (dl a.m) a.e = true) (db : mayD b.n (dl b.m) b.e = true) :
    ∃ z', run G T 195 [DyA z a, DyA y b] = some (.tup [DyA z' (addD a b), .int .i64 0]) := by
  have h1 := dyad_both (G := G) (T := T) hA hC (n := a.n) (z := z) (n' := b.n) (z' := y) (Dg_dl a.m) (Dg_dl b.m) (e := a.e) (e' := b.e)
  rw [da, db, Bool.and_self] at h1
  obtain ⟨z', h2⟩ := dyad_add (G := G) (T := T) hA hG hC hU (z := z) (y := y) ha hb (mayD_nz da) (mayD_nz db)
  refine ⟨z', ?_⟩
  rw [run_k G T hU.dyad_Add]
  generalize addD a b = d at *
  obtain ⟨n, m, e⟩ := a
  obtain ⟨n', m', e'⟩ := b
  simp only [DyA, A3] at *
  repeat' (first | (simp (maxSteps := 1000000) only [evB, if_true, if_false, ne_eq, Nat.reduceEqDiff, Nat.reduceAdd, reduceCtorEq, Int.reduceLE, Int.reduceLT, Int.reduceEq, Int.reduceNeg, Int.reduceToNat, Int.reducePow, Int.reduceMod, Int.reduceDiv, Int.reduceSub, Int.reduceAdd, Int.reduceMul, Nat.reduceMul, Nat.reduceSub, Nat.reducePow, exB, resC_ptr, res_cell, nilb, nilf, faddr_p, c_dyad_Add, h1, h2]) | (simp (maxSteps := 1000000) (disch := first | with_reducible assumption | omega) only [dxB]) | (simp only [kI_d, kG_dt, kG_df]; split) | (simp only [kI_v, kG_vt, kG_vf]; split))

theorem dyad_Mul (hA : HasA g T) (hG : Glob G g) (hC : HasC g T) (hU : HasG g T) {z y : Bool} {a b : Dy} (ha : Bd a 16384) (hb : Bd b 16384) (da : mayD a.n (dl a.m) a.e = true) (db : mayD b.n (dl b.m) b.e = true) :
    ∃ z', run G T 182 [DyA z a, DyA y b] = some (.tup [DyA z' (mulD a b), .int .i64 0]) := by
  have h1 := dyad_both (G := G) (T := T) hA hC (n := a.n) (z := z) (n' := b.n) (z' := y) (Dg_dl a.m) (Dg_dl b.m) (e := a.e) (e' := b.e)
  rw [da, db, Bool.and_self] at h1
  obtain ⟨a1, a2, a3⟩ := ha
  obtain ⟨b1, b2, b3⟩ := hb
  have hl1 := dl_len_blen a.m
  have hl2 := dl_len_blen b.m
  obtain ⟨z1, h2⟩ := nat_Mul (G := G) (T := T) hA hU (z := z) (y := y) (a := a.m) (b := b.m) (mayL_small (by omega)) (mayL_small (by omega)) (by omega)
  have hb : blen (a.m * b.m) ≤ 32768 := by have := blen_mulC a1 b1; omega
  obtain ⟨z2, h3⟩ := dyad_Make (G := G) (T := T) hA hG hC (n := a.n != b.n) (z := z1) (a := a.m * b.m) (e := a.e + b.e) (mayL_small (by omega)) (mk_rng (by omega) (by omega)) (by omega)
  have w1 : IntKind.i64.wrap (a.e + b.e) = a.e + b.e := wrap_i64 (by omega)
  refine ⟨z2, ?_⟩
  rw [run_k G T hU.dyad_Mul]
  unfold mulD
  clear hb
  obtain ⟨n, m, e⟩ := a
  obtain ⟨n', m', e'⟩ := b
  have hne : (n != n') = !decide (n = n') := by cases n <;> cases n' <;> rfl
  simp only at *
  rw [hne] at h3 ⊢
  simp only [DyA, A3] at *
  repeat' (first | (simp (maxSteps := 1000000) only [evB, if_true, if_false, ne_eq, Nat.reduceEqDiff, Nat.reduceAdd, reduceCtorEq, Int.reduceLE, Int.reduceLT, Int.reduceEq, Int.reduceNeg, Int.reduceToNat, Int.reducePow, Int.reduceMod, Int.reduceDiv, Int.reduceSub, Int.reduceAdd, Int.reduceMul, Nat.reduceMul, Nat.reduceSub, Nat.reducePow, exB, resC_ptr, res_cell, nilb, nilf, faddr_p, c_dyad_Mul, h1, h2, w1, h3]) | (simp (maxSteps := 1000000) (disch := first | with_reducible assumption | omega) only [dxB]) | (simp only [kI_d, kG_dt, kG_df]; split) | (simp only [kI_v, kG_vt, kG_vf]; split))
end Go.Cv

/-
  The program's words: fields, classes, values.
-/
namespace Go.Cv
variable {G : Nat → Option (List AV)} {T : Tbl} {g : Nat}

theorem andn_nat {w k : Nat} (hk : k < 64) (hw : w < 2 ^ (k + 1)) : w &&& (2 ^ 64 - (2 ^ k + 1)) = w % 2 ^ k := by
  apply Nat.eq_of_testBit_eq
  intro i
  have hp : (2 : Nat) ^ k < 2 ^ 64 := Nat.pow_lt_pow_right (by decide) hk
  rw [Nat.testBit_and, Nat.testBit_mod_two_pow, Nat.testBit_two_pow_sub_succ hp, Nat.testBit_two_pow]
  by_cases h1 : i < k
  · rw [decide_eq_true h1, decide_eq_true (show i < 64 by omega), decide_eq_false (show ¬ k = i by omega)]; simp
  · rw [decide_eq_false h1]
    by_cases h2 : i = k
    · rw [decide_eq_true h2.symm]; simp
    · have : w.testBit i = false := Nat.testBit_lt_two_pow (Nat.lt_of_lt_of_le hw (Nat.pow_le_pow_right (by decide) (by omega)))
      rw [this]; simp
theorem andn64 {w k : Nat} (hk : k < 64) (hw : w < 2 ^ (k + 1)) : andNotI .u64 (w : Int) ((2 ^ k : Nat) : Int) = ((w % 2 ^ k : Nat) : Int) := by
  have hp : (2 : Nat) ^ k < 2 ^ 64 := Nat.pow_lt_pow_right (by decide) hk
  have hw2 : w < 2 ^ 64 := Nat.lt_of_lt_of_le hw (Nat.pow_le_pow_right (by decide) (by omega))
  have hlt : w % 2 ^ k < 2 ^ k := Nat.mod_lt _ (Nat.two_pow_pos k)
  rw [andNotI_eq]
  show IntKind.u64.wrap ((BitVec.ofInt 64 (w : Int) &&& ~~~BitVec.ofInt 64 ((2 ^ k : Nat) : Int)).toNat : Int) = _
  rw [show BitVec.ofInt 64 (w : Int) = BitVec.ofNat 64 w from rfl, show BitVec.ofInt 64 ((2 ^ k : Nat) : Int) = BitVec.ofNat 64 (2 ^ k) from rfl, BitVec.toNat_and, BitVec.toNat_not, BitVec.toNat_ofNat, BitVec.toNat_ofNat, Nat.mod_eq_of_lt hw2, Nat.mod_eq_of_lt hp,
    show 2 ^ 64 - 1 - 2 ^ k = 2 ^ 64 - (2 ^ k + 1) by omega, andn_nat hk hw, wrap_u64]
  omega
theorem andn_s {w : Nat} (h : w < 4294967296) : andNotI .u64 (w : Int) 2147483648 = ((w % 2147483648 : Nat) : Int) := andn64 (k := 31) (by decide) h
theorem andn_d {w : Nat} (h : w < 18446744073709551616) : andNotI .u64 (w : Int) 9223372036854775808 = ((w % 9223372036854775808 : Nat) : Int) := andn64 (k := 63) (by decide) h
theorem and_pow_lo {w k : Nat} (hw : w < 2 ^ k) : w &&& 2 ^ k = 0 := by
  apply Nat.eq_of_testBit_eq
  intro i
  rw [Nat.testBit_and, Nat.testBit_two_pow, Nat.zero_testBit]
  by_cases h : k = i
  · subst h; rw [Nat.testBit_lt_two_pow hw]; rfl
  · rw [decide_eq_false h, Bool.and_false]
theorem and_pow_hi {w k : Nat} (h1 : 2 ^ k ≤ w) (hw : w < 2 ^ (k + 1)) : w &&& 2 ^ k = 2 ^ k := by
  apply Nat.eq_of_testBit_eq
  intro i
  rw [Nat.testBit_and, Nat.testBit_two_pow]
  rw [Nat.pow_succ] at hw
  by_cases h : k = i
  · subst h
    have : w / 2 ^ k = 1 := Nat.div_eq_of_lt_le (by omega) (by omega)
    rw [Nat.testBit_eq_decide_div_mod_eq, this]; rfl
  · rw [decide_eq_false h, Bool.and_false]
theorem and_bit {w k : Nat} (hk : k < 64) (hw : w < 2 ^ (k + 1)) : andI .u64 (w : Int) ((2 ^ k : Nat) : Int) = if 2 ^ k ≤ w then ((2 ^ k : Nat) : Int) else 0 := by
  have hp : (2 : Nat) ^ k < 2 ^ 64 := Nat.pow_lt_pow_right (by decide) hk
  have hw2 : w < 2 ^ 64 := Nat.lt_of_lt_of_le hw (Nat.pow_le_pow_right (by decide) (by omega))
  rw [and64 (by omega) (by omega)]
  by_cases h : 2 ^ k ≤ w
  · rw [if_pos h, and_pow_hi h hw]
  · rw [if_neg h, and_pow_lo (by omega)]; rfl
theorem and_s {w : Nat} (h : w < 4294967296) : andI .u64 (w : Int) 2147483648 = if 2147483648 ≤ w then 2147483648 else 0 := and_bit (k := 31) (by decide) h
theorem and_d {w : Nat} (h : w < 18446744073709551616) : andI .u64 (w : Int) 9223372036854775808 = if 9223372036854775808 ≤ w then 9223372036854775808 else 0 := and_bit (k := 63) (by decide) h
theorem and_ms {w : Nat} (h : w < 18446744073709551616) : andI .u64 (w : Int) 8388607 = ((w % 8388608 : Nat) : Int) := and_mask (j := 23) h (by decide)
theorem and_md {w : Nat} (h : w < 18446744073709551616) : andI .u64 (w : Int) 4503599627370495 = ((w % 4503599627370496 : Nat) : Int) := and_mask (j := 52) h (by decide)
theorem or_s : orI .u64 2147483648 2147483647 = 4294967295 := by rw [orI_eq]; rfl
theorem or_d : orI .u64 9223372036854775808 9223372036854775807 = 18446744073709551615 := by rw [orI_eq]; rfl
theorem or_ns : orI .u64 2139095040 4194304 = 2143289344 := by rw [orI_eq]; rfl
theorem or_nd : orI .u64 9218868437227405312 2251799813685248 = 9221120237041090560 := by rw [orI_eq]; rfl

theorem wop_loop (e : Env) (h : Heap) : evL G T c_word_open_l1 e h = kS G T (evL G T c_word_open_b1 (keepE [4, 6, 18, 19, 20] e) h) c_word_open_l1 := s_loopc G T rfl e h
theorem ia11 (x : AV) (k : IntKind) : iaddrV 1 (.imm 1 [x]) (.int k 0) = some (.iptr [x] 0) := rfl
theorem rd11 (h : Mem) (x : AV) : rdAt G h 1 (.iptr [x] 0) = some [x] := rfl

theorem word_open1 (hT : HasD g T) (F : Fm) {w : Nat} (hw : w < 18446744073709551616) : run G T 95 [.int .u8 F.u, .imm 1 [.int .u64 (w : Int)]] = some (.tup [shA F, .int .i64 (if w < 2 * F.sg then 0 else 6)]) := by
  rw [run_k G T hT.word_open]
  have h1 := word_shapeOf (G := G) hT F
  have wr : IntKind.i64.wrap 1 = 1 := rfl
  by_cases hk : w < 2 * F.sg
  · rw [if_pos hk]
    cases F
    · simp only [shA, Fm.u, Fm.fr, Fm.sg, Fm.most, Int.cast_ofNat_Int, Nat.reduceMul] at *
      have c1 : ¬ (4294967295 : Int) < (w : Int) := by omega
      repeat' (first | (simp (maxSteps := 1000000) only [evB, if_true, if_false, ne_eq, Nat.reduceEqDiff, Nat.reduceAdd, reduceCtorEq, Int.reduceLE, Int.reduceLT, Int.reduceEq, Int.reduceNeg, Int.reduceToNat, Int.reducePow, Int.reduceMod, Int.reduceDiv, Int.reduceSub, Int.reduceAdd, Int.reduceMul, Nat.reduceMul, Nat.reduceSub, Nat.reducePow, exB, resC_ptr, res_cell, nilb, nilf, faddr_p, c_word_open, h1, wop_loop, c_word_open_b1, ia11, rd11, or_s, or_d, c1, wr]) | (simp (maxSteps := 1000000) (disch := first | with_reducible assumption | omega) only [dxB]) | (simp only [kI_d, kG_dt, kG_df]; split) | (simp only [kI_v, kG_vt, kG_vf]; split))
    · simp only [shA, Fm.u, Fm.fr, Fm.sg, Fm.most, Int.cast_ofNat_Int, Nat.reduceMul] at *
      have c1 : ¬ (18446744073709551615 : Int) < (w : Int) := by omega
      repeat' (first | (simp (maxSteps := 1000000) only [evB, if_true, if_false, ne_eq, Nat.reduceEqDiff, Nat.reduceAdd, reduceCtorEq, Int.reduceLE, Int.reduceLT, Int.reduceEq, Int.reduceNeg, Int.reduceToNat, Int.reducePow, Int.reduceMod, Int.reduceDiv, Int.reduceSub, Int.reduceAdd, Int.reduceMul, Nat.reduceMul, Nat.reduceSub, Nat.reducePow, exB, resC_ptr, res_cell, nilb, nilf, faddr_p, c_word_open, h1, wop_loop, c_word_open_b1, ia11, rd11, or_s, or_d, c1, wr]) | (simp (maxSteps := 1000000) (disch := first | with_reducible assumption | omega) only [dxB]) | (simp only [kI_d, kG_dt, kG_df]; split) | (simp only [kI_v, kG_vt, kG_vf]; split))
  · rw [if_neg hk]
    cases F
    · simp only [shA, Fm.u, Fm.fr, Fm.sg, Fm.most, Int.cast_ofNat_Int, Nat.reduceMul] at *
      have c1 : (4294967295 : Int) < (w : Int) := by omega
      repeat' (first | (simp (maxSteps := 1000000) only [evB, if_true, if_false, ne_eq, Nat.reduceEqDiff, Nat.reduceAdd, reduceCtorEq, Int.reduceLE, Int.reduceLT, Int.reduceEq, Int.reduceNeg, Int.reduceToNat, Int.reducePow, Int.reduceMod, Int.reduceDiv, Int.reduceSub, Int.reduceAdd, Int.reduceMul, Nat.reduceMul, Nat.reduceSub, Nat.reducePow, exB, resC_ptr, res_cell, nilb, nilf, faddr_p, c_word_open, h1, wop_loop, c_word_open_b1, ia11, rd11, or_s, or_d, c1, wr]) | (simp (maxSteps := 1000000) (disch := first | with_reducible assumption | omega) only [dxB]) | (simp only [kI_d, kG_dt, kG_df]; split) | (simp only [kI_v, kG_vt, kG_vf]; split))
    · simp only [Fm.sg] at hk; omega

theorem cls_spec (F : Fm) (w : Nat) : (F.ex w = 0 ∧ F.fc w = 0 ∧ F.cls w = 1) ∨ (F.ex w = 0 ∧ F.fc w ≠ 0 ∧ F.cls w = 2) ∨ (F.ex w ≠ 0 ∧ F.ex w < F.most ∧ F.cls w = 3) ∨ (F.ex w ≠ 0 ∧ ¬ F.ex w < F.most ∧ F.fc w = 0 ∧ F.cls w = 4) ∨ (F.ex w ≠ 0 ∧ ¬ F.ex w < F.most ∧ F.fc w ≠ 0 ∧ F.cls w = 5) := by
  unfold Fm.cls
  generalize F.ex w = x
  generalize F.fc w = y
  repeat' split
  all_goals omega
theorem ng_spec (F : Fm) (w : Nat) : (F.ng w = true ∧ F.sg ≤ w) ∨ (F.ng w = false ∧ w < F.sg) := by
  unfold Fm.ng
  by_cases h : F.sg ≤ w
  · left; exact ⟨decide_eq_true h, h⟩
  · right; exact ⟨decide_eq_false h, by omega⟩

theorem word_class (hD : HasD g T) (hU : HasG g T) (F : Fm) {w : Nat} (hw : w < 2 * F.sg) : run G T 201 [shA F, .int .u64 (w : Int)] = some (.int .u8 (F.cls w)) := by
  rw [run_k G T hU.word_shape_class]
  obtain ⟨q1, q2, q3, q4⟩ := w_split hw
  have hc := cls_spec F w
  have hlt : w % F.sg < F.sg := Nat.mod_lt _ (by cases F <;> decide)
  clear q1
  generalize F.cls w = c at *
  generalize F.ex w = x at *
  generalize F.fc w = y at *
  cases F
  · have h2 := andn_s (w := w) hw
    have hi := word_inf (G := G) (T := T) hD .s
    simp only [shA, Fm.u, Fm.fr, Fm.sg, Fm.most, Int.cast_ofNat_Int, Nat.reducePow, Nat.reduceMul] at *
    generalize w % 2147483648 = s at *
    repeat' (first | (simp (maxSteps := 1000000) only [evB, if_true, if_false, ne_eq, Nat.reduceEqDiff, Nat.reduceAdd, reduceCtorEq, Int.reduceLE, Int.reduceLT, Int.reduceEq, Int.reduceNeg, Int.reduceToNat, Int.reducePow, Int.reduceMod, Int.reduceDiv, Int.reduceSub, Int.reduceAdd, Int.reduceMul, Nat.reduceMul, Nat.reduceSub, Nat.reducePow, exB, resC_ptr, res_cell, nilb, nilf, faddr_p, c_word_shape_class, h2, hi]) | (simp (maxSteps := 1000000) (disch := first | with_reducible assumption | omega) only [dxB]) | (simp only [kI_d, kG_dt, kG_df]; split) | (simp only [kI_v, kG_vt, kG_vf]; split))
    all_goals (refine some_int ?_; omega)
  · have h2 := andn_d (w := w) hw
    have hi := word_inf (G := G) (T := T) hD .d
    simp only [shA, Fm.u, Fm.fr, Fm.sg, Fm.most, Int.cast_ofNat_Int, Nat.reducePow, Nat.reduceMul] at *
    generalize w % 9223372036854775808 = s at *
    repeat' (first | (simp (maxSteps := 1000000) only [evB, if_true, if_false, ne_eq, Nat.reduceEqDiff, Nat.reduceAdd, reduceCtorEq, Int.reduceLE, Int.reduceLT, Int.reduceEq, Int.reduceNeg, Int.reduceToNat, Int.reducePow, Int.reduceMod, Int.reduceDiv, Int.reduceSub, Int.reduceAdd, Int.reduceMul, Nat.reduceMul, Nat.reduceSub, Nat.reducePow, exB, resC_ptr, res_cell, nilb, nilf, faddr_p, c_word_shape_class, h2, hi]) | (simp (maxSteps := 1000000) (disch := first | with_reducible assumption | omega) only [dxB]) | (simp only [kI_d, kG_dt, kG_df]; split) | (simp only [kI_v, kG_vt, kG_vf]; split))
    all_goals (refine some_int ?_; omega)

theorem word_split (hU : HasG g T) (F : Fm) {w : Nat} (hw : w < 2 * F.sg) : run G T 200 [shA F, .int .u64 (w : Int)] = some (fldA (F.ng w) (F.ex w) (F.fc w)) := by
  rw [run_k G T hU.word_shape_split]
  have hlt : w % F.sg < F.sg := Nat.mod_lt _ (by cases F <;> decide)
  have hn := ng_spec F w
  have e2 : w % F.sg / 2 ^ F.fr = F.ex w := rfl
  have e3 : w % F.sg % 2 ^ F.fr = F.fc w := rfl
  have q4 := (w_split hw).2.2.2
  generalize F.ng w = n at *
  generalize F.ex w = x at *
  generalize F.fc w = y at *
  cases F
  · have h2 := andn_s (w := w) hw
    have h4 := and_s (w := w) hw
    simp only [shA, Fm.u, Fm.fr, Fm.sg, Fm.most, fldA, Int.cast_ofNat_Int, Nat.reducePow] at *
    generalize w % 2147483648 = s at *
    have h5 := and_ms (w := s) (by omega)
    rw [e3] at h5
    have w1 : (s : Int) / 8388608 = (x : Int) := by omega
    rcases hn with ⟨rfl, hn⟩ | ⟨rfl, hn⟩
    · rw [if_pos hn] at h4
      repeat' (first | (simp (maxSteps := 1000000) only [evB, if_true, if_false, ne_eq, Nat.reduceEqDiff, Nat.reduceAdd, reduceCtorEq, Int.reduceLE, Int.reduceLT, Int.reduceEq, Int.reduceNeg, Int.reduceToNat, Int.reducePow, Int.reduceMod, Int.reduceDiv, Int.reduceSub, Int.reduceAdd, Int.reduceMul, Nat.reduceMul, Nat.reduceSub, Nat.reducePow, exB, resC_ptr, res_cell, nilb, nilf, faddr_p, c_word_shape_split, h2, h4, h5, w1]) | (simp (maxSteps := 1000000) (disch := first | with_reducible assumption | omega) only [dxB]) | (simp only [kI_d, kG_dt, kG_df]; split) | (simp only [kI_v, kG_vt, kG_vf]; split))
    · rw [if_neg (by omega)] at h4
      repeat' (first | (simp (maxSteps := 1000000) only [evB, if_true, if_false, ne_eq, Nat.reduceEqDiff, Nat.reduceAdd, reduceCtorEq, Int.reduceLE, Int.reduceLT, Int.reduceEq, Int.reduceNeg, Int.reduceToNat, Int.reducePow, Int.reduceMod, Int.reduceDiv, Int.reduceSub, Int.reduceAdd, Int.reduceMul, Nat.reduceMul, Nat.reduceSub, Nat.reducePow, exB, resC_ptr, res_cell, nilb, nilf, faddr_p, c_word_shape_split, h2, h4, h5, w1]) | (simp (maxSteps := 1000000) (disch := first | with_reducible assumption | omega) only [dxB]) | (simp only [kI_d, kG_dt, kG_df]; split) | (simp only [kI_v, kG_vt, kG_vf]; split))
  · have h2 := andn_d (w := w) hw
    have h4 := and_d (w := w) hw
    simp only [shA, Fm.u, Fm.fr, Fm.sg, Fm.most, fldA, Int.cast_ofNat_Int, Nat.reducePow] at *
    generalize w % 9223372036854775808 = s at *
    have h5 := and_md (w := s) (by omega)
    rw [e3] at h5
    have w1 : (s : Int) / 4503599627370496 = (x : Int) := by omega
    rcases hn with ⟨rfl, hn⟩ | ⟨rfl, hn⟩
    · rw [if_pos hn] at h4
      repeat' (first | (simp (maxSteps := 1000000) only [evB, if_true, if_false, ne_eq, Nat.reduceEqDiff, Nat.reduceAdd, reduceCtorEq, Int.reduceLE, Int.reduceLT, Int.reduceEq, Int.reduceNeg, Int.reduceToNat, Int.reducePow, Int.reduceMod, Int.reduceDiv, Int.reduceSub, Int.reduceAdd, Int.reduceMul, Nat.reduceMul, Nat.reduceSub, Nat.reducePow, exB, resC_ptr, res_cell, nilb, nilf, faddr_p, c_word_shape_split, h2, h4, h5, w1]) | (simp (maxSteps := 1000000) (disch := first | with_reducible assumption | omega) only [dxB]) | (simp only [kI_d, kG_dt, kG_df]; split) | (simp only [kI_v, kG_vt, kG_vf]; split))
    · rw [if_neg (by omega)] at h4
      repeat' (first | (simp (maxSteps := 1000000) only [evB, if_true, if_false, ne_eq, Nat.reduceEqDiff, Nat.reduceAdd, reduceCtorEq, Int.reduceLE, Int.reduceLT, Int.reduceEq, Int.reduceNeg, Int.reduceToNat, Int.reducePow, Int.reduceMod, Int.reduceDiv, Int.reduceSub, Int.reduceAdd, Int.reduceMul, Nat.reduceMul, Nat.reduceSub, Nat.reducePow, exB, resC_ptr, res_cell, nilb, nilf, faddr_p, c_word_shape_split, h2, h4, h5, w1]) | (simp (maxSteps := 1000000) (disch := first | with_reducible assumption | omega) only [dxB]) | (simp only [kI_d, kG_dt, kG_df]; split) | (simp only [kI_v, kG_vt, kG_vf]; split))

theorem sg_64 {F : Fm} {w : Nat} (h : w < 2 * F.sg) : w < 18446744073709551616 := by
  have : 2 * F.sg ≤ 18446744073709551616 := by cases F <;> decide
  omega

theorem word_Class (hD : HasD g T) (hU : HasG g T) (F : Fm) {w : Nat} (hw : w < 2 * F.sg) : run G T 193 [.int .u8 F.u, .int .u64 (w : Int)] = some (.tup [.int .u8 (F.cls w), .int .i64 0]) := by
  rw [run_k G T hU.word_Class]
  have h1 := word_open1 (G := G) (T := T) hD F (sg_64 hw)
  rw [if_pos hw] at h1
  have h2 := word_class (G := G) (T := T) hD hU F hw
  generalize F.cls w = c at *
  simp only [shA] at *
  repeat' (first | (simp (maxSteps := 1000000) only [evB, if_true, if_false, ne_eq, Nat.reduceEqDiff, Nat.reduceAdd, reduceCtorEq, Int.reduceLE, Int.reduceLT, Int.reduceEq, Int.reduceNeg, Int.reduceToNat, Int.reducePow, Int.reduceMod, Int.reduceDiv, Int.reduceSub, Int.reduceAdd, Int.reduceMul, Nat.reduceMul, Nat.reduceSub, Nat.reducePow, exB, resC_ptr, res_cell, nilb, nilf, faddr_p, c_word_Class, h1, h2]) | (simp (maxSteps := 1000000) (disch := first | with_reducible assumption | omega) only [dxB]) | (simp only [kI_d, kG_dt, kG_df]; split) | (simp only [kI_v, kG_vt, kG_vf]; split))

theorem word_Split (hD : HasD g T) (hU : HasG g T) (F : Fm) {w : Nat} (hw : w < 2 * F.sg) : run G T 192 [.int .u8 F.u, .int .u64 (w : Int)] = some (.tup [fldA (F.ng w) (F.ex w) (F.fc w), .int .i64 0]) := by
  rw [run_k G T hU.word_Split]
  have h1 := word_open1 (G := G) (T := T) hD F (sg_64 hw)
  rw [if_pos hw] at h1
  have h2 := word_split (G := G) (T := T) hU F hw
  generalize F.ng w = n at *
  generalize F.ex w = x at *
  generalize F.fc w = y at *
  simp only [shA, fldA] at *
  repeat' (first | (simp (maxSteps := 1000000) only [evB, if_true, if_false, ne_eq, Nat.reduceEqDiff, Nat.reduceAdd, reduceCtorEq, Int.reduceLE, Int.reduceLT, Int.reduceEq, Int.reduceNeg, Int.reduceToNat, Int.reducePow, Int.reduceMod, Int.reduceDiv, Int.reduceSub, Int.reduceAdd, Int.reduceMul, Nat.reduceMul, Nat.reduceSub, Nat.reducePow, exB, resC_ptr, res_cell, nilb, nilf, faddr_p, c_word_Split, h1, h2]) | (simp (maxSteps := 1000000) (disch := first | with_reducible assumption | omega) only [dxB]) | (simp only [kI_d, kG_dt, kG_df]; split) | (simp only [kI_v, kG_vt, kG_vf]; split))
theorem word_finite (hD : HasD g T) (hU : HasG g T) (F : Fm) {w : Nat} (hw : w < 2 * F.sg) : run G T 202 [.int .u8 F.u, .int .u64 (w : Int)] = some (.tup [shA F, .int .i64 (if F.fin w then 0 else 7)]) := by
  rw [run_k G T hU.word_finite]
  have h1 := word_open1 (G := G) (T := T) hD F (sg_64 hw)
  rw [if_pos hw] at h1
  have h2 := word_class (G := G) (T := T) hD hU F hw
  have h3 := fin_iff (F := F) (w := w)
  have h4 := cls_range F w
  by_cases hf : F.fin w
  · rw [if_pos hf]
    have h5 := h3.1 hf
    clear h3
    generalize F.cls w = c at *
    have c1 : ¬ (4 : Int) ≤ c := by omega
    simp only [shA] at *
    repeat' (first | (simp (maxSteps := 1000000) only [evB, if_true, if_false, ne_eq, Nat.reduceEqDiff, Nat.reduceAdd, reduceCtorEq, Int.reduceLE, Int.reduceLT, Int.reduceEq, Int.reduceNeg, Int.reduceToNat, Int.reducePow, Int.reduceMod, Int.reduceDiv, Int.reduceSub, Int.reduceAdd, Int.reduceMul, Nat.reduceMul, Nat.reduceSub, Nat.reducePow, exB, resC_ptr, res_cell, nilb, nilf, faddr_p, c_word_finite, h1, h2, c1]) | (simp (maxSteps := 1000000) (disch := first | with_reducible assumption | omega) only [dxB]) | (simp only [kI_d, kG_dt, kG_df]; split) | (simp only [kI_v, kG_vt, kG_vf]; split))
  · rw [if_neg hf]
    have h5 : ¬ (F.cls w = 1 ∨ F.cls w = 2 ∨ F.cls w = 3) := fun h => hf (h3.2 h)
    clear h3
    generalize F.cls w = c at *
    have c1 : (4 : Int) ≤ c := by omega
    simp only [shA] at *
    repeat' (first | (simp (maxSteps := 1000000) only [evB, if_true, if_false, ne_eq, Nat.reduceEqDiff, Nat.reduceAdd, reduceCtorEq, Int.reduceLE, Int.reduceLT, Int.reduceEq, Int.reduceNeg, Int.reduceToNat, Int.reducePow, Int.reduceMod, Int.reduceDiv, Int.reduceSub, Int.reduceAdd, Int.reduceMul, Nat.reduceMul, Nat.reduceSub, Nat.reducePow, exB, resC_ptr, res_cell, nilb, nilf, faddr_p, c_word_finite, h1, h2, c1]) | (simp (maxSteps := 1000000) (disch := first | with_reducible assumption | omega) only [dxB]) | (simp only [kI_d, kG_dt, kG_df]; split) | (simp only [kI_v, kG_vt, kG_vf]; split))

theorem or_fr {y k : Nat} (h : y < 2 ^ k) (hk : k < 63) : orI .u64 (y : Int) ((2 ^ k : Nat) : Int) = ((2 ^ k + y : Nat) : Int) := by
  have hp : (2 : Nat) ^ k < 2 ^ 64 := Nat.pow_lt_pow_right (by decide) (by omega)
  have e := or_add (c := y) (x := 1) (s := k) h
  rw [Nat.one_mul] at e
  rw [or64 (by omega) (by omega), e, Nat.add_comm]

theorem word_Value (hA : HasA g T) (hG : Glob G g) (hC : HasC g T) (hD : HasD g T) (hU : HasG g T) (F : Fm) {w : Nat} (hw : w < 2 * F.sg) :
    ∃ z k, run G T 194 [.int .u8 F.u, .int .u64 (w : Int)] = some (.tup [DyA z (F.vl w), .int .i64 k]) := by
  have h1 := word_finite (G := G) (T := T) hD hU F hw
  by_cases hf : F.fin w
  · rw [if_pos hf] at h1
    have h2 := word_split (G := G) (T := T) hU F hw
    have h3 := word_low (G := G) (T := T) hD F
    have hy : F.fc w < 2 ^ F.fr := Nat.mod_lt _ (Nat.two_pow_pos _)
    have hp : 2 ^ F.fr ≤ 4503599627370496 := by cases F <;> decide
    have hF := fm_facts F
    have hm : F.most ≤ 2047 := by cases F <;> decide
    have hvl : F.vl w = F.val w := if_pos hf
    rw [hvl]
    unfold Fm.fin at hf
    unfold Fm.val
    have hor := or_fr hy (by omega)
    generalize F.ex w = x at *
    generalize F.fc w = y at *
    generalize F.ng w = n at *
    have hb1 : blen y ≤ 53 := blen_le.2 (by omega)
    have hb2 : blen (2 ^ F.fr + y) ≤ 53 := blen_le.2 (by omega)
    have hmin : min F.fr 64 = F.fr := by omega
    have hp0 := Nat.two_pow_pos F.fr
    by_cases h0 : x = 0
    · subst h0
      obtain ⟨z1, o1⟩ := nat_Of (G := G) (T := T) hA (n := y) (by omega)
      obtain ⟨z2, o2⟩ := dyad_Make (G := G) (T := T) hA hG hC (n := n) (z := z1) (a := y) (e := F.low) (mayL_small (by omega)) (mk_rng (by omega) (by omega)) (by omega)
      have w1 : max (0 : Int) 1 = 1 := by decide
      have w2 : IntKind.i64.wrap (1 - 1) = 0 := rfl
      have w3 : IntKind.i64.wrap (0 + F.low) = F.low := by rw [Int.zero_add]; exact wrap_i64 (by omega)
      have w4 : IntKind.i64.wrap F.low = F.low := wrap_i64 (by omega)
      refine ⟨z2, 0, ?_⟩
      rw [if_pos rfl, run_k G T hU.word_Value]
      simp only [shA, fldA, cast0, DyA, A3] at *
      repeat' (first | (simp (maxSteps := 1000000) only [evB, if_true, if_false, ne_eq, Nat.reduceEqDiff, Nat.reduceAdd, reduceCtorEq, Int.reduceLE, Int.reduceLT, Int.reduceEq, Int.reduceNeg, Int.reduceToNat, Int.reducePow, Int.reduceMod, Int.reduceDiv, Int.reduceSub, Int.reduceAdd, Int.reduceMul, Nat.reduceMul, Nat.reduceSub, Nat.reducePow, exB, resC_ptr, res_cell, nilb, nilf, faddr_p, c_word_Value, h1, h2, h3, o1, w1, w2, w3, w4, mm_max2, o2, Int.zero_add]) | (simp (maxSteps := 1000000) (disch := first | with_reducible assumption | omega) only [dxB]) | (simp only [kI_d, kG_dt, kG_df]; split) | (simp only [kI_v, kG_vt, kG_vf]; split))
    · obtain ⟨z1, o1⟩ := nat_Of (G := G) (T := T) hA (n := 2 ^ F.fr + y) (by omega)
      obtain ⟨z2, o2⟩ := dyad_Make (G := G) (T := T) hA hG hC (n := n) (z := z1) (a := 2 ^ F.fr + y) (e := x - 1 + F.low) (mayL_small (by omega)) (mk_rng (by omega) (by omega)) (by omega)
      have c0 : (0 : Int) < (x : Int) := by omega
      have w1 : max (x : Int) 1 = x := by omega
      have w2 : IntKind.i64.wrap ((x : Int) - 1) = x - 1 := wrap_i64 (by omega)
      have w3 : IntKind.i64.wrap ((x : Int) - 1 + F.low) = x - 1 + F.low := wrap_i64 (by omega)
      have w5 : (1 * (2 : Int) ^ F.fr) % 18446744073709551616 = ((2 ^ F.fr : Nat) : Int) := by rw [pow_cast]; omega
      have w6 : ((2 : Int) ^ F.fr) % 18446744073709551616 = ((2 ^ F.fr : Nat) : Int) := by rw [pow_cast]; omega
      refine ⟨z2, 0, ?_⟩
      rw [if_neg h0, run_k G T hU.word_Value]
      simp only [shA, fldA, DyA, A3] at *
      repeat' (first | (simp (maxSteps := 1000000) only [evB, if_true, if_false, ne_eq, Nat.reduceEqDiff, Nat.reduceAdd, reduceCtorEq, Int.reduceLE, Int.reduceLT, Int.reduceEq, Int.reduceNeg, Int.reduceToNat, Int.reducePow, Int.reduceMod, Int.reduceDiv, Int.reduceSub, Int.reduceAdd, Int.reduceMul, Nat.reduceMul, Nat.reduceSub, Nat.reducePow, exB, resC_ptr, res_cell, nilb, nilf, faddr_p, c_word_Value, h1, h2, h3, c0, hmin, w5, w6, hor, o1, w1, w2, w3, mm_max2, o2]) | (simp (maxSteps := 1000000) (disch := first | with_reducible assumption | omega) only [dxB]) | (simp only [kI_d, kG_dt, kG_df]; split) | (simp only [kI_v, kG_vt, kG_vf]; split))
  · rw [if_neg hf] at h1
    refine ⟨true, 7, ?_⟩
    have hvl : F.vl w = ⟨false, 0, 0⟩ := if_neg hf
    rw [hvl, run_k G T hU.word_Value]
    simp only [shA, DyA, A3, dl_zero] at *
    repeat' (first | (simp (maxSteps := 1000000) only [evB, if_true, if_false, ne_eq, Nat.reduceEqDiff, Nat.reduceAdd, reduceCtorEq, Int.reduceLE, Int.reduceLT, Int.reduceEq, Int.reduceNeg, Int.reduceToNat, Int.reducePow, Int.reduceMod, Int.reduceDiv, Int.reduceSub, Int.reduceAdd, Int.reduceMul, Nat.reduceMul, Nat.reduceSub, Nat.reducePow, exB, resC_ptr, res_cell, nilb, nilf, faddr_p, c_word_Value, h1]) | (simp (maxSteps := 1000000) (disch := first | with_reducible assumption | omega) only [dxB]) | (simp only [kI_d, kG_dt, kG_df]; split) | (simp only [kI_v, kG_vt, kG_vf]; split))
    all_goals try rfl

theorem word_none (hU : HasG g T) (hD : HasD g T) (F : Fm) : run G T 204 [shA F] = some (.int .u64 (F.nan : Int)) := by
  rw [run_k G T hU.word_shape_none]
  have h := word_inf (G := G) hD F
  cases F <;> (
    simp only [shA, Fm.u, Fm.fr, Fm.sg, Fm.most, Fm.nan, Int.cast_ofNat_Int, Nat.reducePow, Nat.reduceMul, Nat.reduceSub, Nat.reduceAdd] at *
    repeat' (first | (simp (maxSteps := 1000000) only [evB, if_true, if_false, ne_eq, Nat.reduceEqDiff, Nat.reduceAdd, reduceCtorEq, Int.reduceLE, Int.reduceLT, Int.reduceEq, Int.reduceNeg, Int.reduceToNat, Int.reducePow, Int.reduceMod, Int.reduceDiv, Int.reduceSub, Int.reduceAdd, Int.reduceMul, Nat.reduceMul, Nat.reduceSub, Nat.reducePow, exB, resC_ptr, res_cell, nilb, nilf, faddr_p, c_word_shape_none, h, or_ns, or_nd]) | (simp (maxSteps := 1000000) (disch := first | with_reducible assumption | omega) only [dxB]) | (simp only [kI_d, kG_dt, kG_df]; split) | (simp only [kI_v, kG_vt, kG_vf]; split)))
theorem word_None (hU : HasG g T) (hD : HasD g T) (F : Fm) : run G T 196 [.int .u8 F.u] = some (.tup [.int .u64 (F.nan : Int), .int .i64 0]) := by
  rw [run_k G T hU.word_None]
  have h := word_named (G := G) hD F (n := false) (k := 204) (word_none hU hD F) (by cases F <;> decide)
  rw [show F.nan + F.sgn false = F.nan from rfl] at h
  repeat' (first | (simp (maxSteps := 1000000) only [evB, if_true, if_false, ne_eq, Nat.reduceEqDiff, Nat.reduceAdd, reduceCtorEq, Int.reduceLE, Int.reduceLT, Int.reduceEq, Int.reduceNeg, Int.reduceToNat, Int.reducePow, Int.reduceMod, Int.reduceDiv, Int.reduceSub, Int.reduceAdd, Int.reduceMul, Nat.reduceMul, Nat.reduceSub, Nat.reducePow, exB, resC_ptr, res_cell, nilb, nilf, faddr_p, c_word_None, h]) | (simp (maxSteps := 1000000) (disch := first | with_reducible assumption | omega) only [dxB]) | (simp only [kI_d, kG_dt, kG_df]; split) | (simp only [kI_v, kG_vt, kG_vf]; split))
end Go.Cv

/-
  The document's sums, products, quotients, roots of words.
-/
namespace Go.Cv
variable {G : Nat → Option (List AV)} {T : Tbl} {g : Nat}

theorem Nz_mul (a b : Dy) : Nz (mulD a b) := Nz_mk _ _ _
theorem Bd_mul {a b : Dy} {K : Nat} (ha : Bd a K) (hb : Bd b K) : Bd (mulD a b) (4 * K) := by
  obtain ⟨a1, a2, a3⟩ := ha
  obtain ⟨b1, b2, b3⟩ := hb
  have hb : blen (a.m * b.m) ≤ 2 * K := by
    refine blen_le.2 ?_
    rw [show 2 * K = K + K by omega, Nat.pow_add]
    exact Nat.mul_lt_mul_of_lt_of_lt (blen_le.1 a1) (blen_le.1 b1)
  exact Bd_mk (by omega) (by omega) (by omega)
theorem mayD_nzb {d : Dy} (h : Nz d) (b : Bd d 131072) : mayD d.n (dl d.m) d.e = true := by
  obtain ⟨b1, b2, b3⟩ := b
  have hm : mayL (dl d.m) = true := mayL_small b1
  simp only [mayD, hm, Bool.true_and]
  by_cases h0 : d.m = 0
  · rw [h.1 h0, dl_zero]; rfl
  · have h1 : ¬ (dl d.m).length = 0 := fun hc => h0 (dl_len0.1 hc)
    rw [if_neg h1, dg0]
    have h2 := h.2 h0
    simp only [Bool.and_eq_true, decide_eq_true_eq]
    exact ⟨h2, by omega, by omega⟩
theorem vl_val {F : Fm} {w : Nat} (h : F.fin w) : F.vl w = F.val w := if_pos h

end Go.Cv

/-
  The document's products, quotients, roots of words.
-/
namespace Go.Cv
variable {G : Nat → Option (List AV)} {T : Tbl} {g : Nat}

end Go.Cv

/-
  The program's words, taken apart for a sum, a product, a quotient.
-/
namespace Go.Cv
variable {G : Nat → Option (List AV)} {T : Tbl} {g : Nat}

def apB (bs : List Blk) (f : List Nat) (b n : Nat) (o : Option Blk) (w : Option (List AV)) : Option (AV × Heap) :=
  match w with
  | some nw => match o with
    | some k => if k.dead = false ∧ f.contains b = false ∧ n * 5 ≤ k.cs.length ∧ (n + 1) * 49 ≤ boundBytes then some (.own bs.length 0 (n + 1) 5, ⟨bs.set b ⟨k.cs, true⟩ ++ [⟨k.cs.take (n * 5) ++ nw, false⟩], f⟩) else none
    | none => none
  | none => none
theorem ap_x (bs : List Blk) (f : List Nat) (b n c : Nat) : appV ⟨bs, f⟩ 5 48 (.own b 0 n 5) (.own c 0 1 5) = apB bs f b n (bs[b]?) (subB (bs[c]?) 0 5) := by
  have h1 := rdBlk_x bs f c 0 5
  simp only [appV, sliceCells, if_true, Nat.one_mul, h1]
  cases subB (bs[c]?) 0 5 with
  | none => rfl
  | some nw =>
    simp only [Option.map_some, apB]
    cases bs[b]? with
    | none => rfl
    | some k => simp
theorem ap_0 (bs : List Blk) (b : Nat) (cs nw : List AV) : apB bs [] b 0 (some ⟨cs, false⟩) (some nw) = some (.own bs.length 0 1 5, ⟨bs.set b ⟨cs, true⟩ ++ [⟨nw, false⟩], []⟩) := by
  simp [apB, boundBytes]
theorem ap_1 (bs : List Blk) (b : Nat) (x1 x2 x3 x4 x5 : AV) (nw : List AV) : apB bs [] b 1 (some ⟨[x1, x2, x3, x4, x5], false⟩) (some nw) = some (.own bs.length 0 2 5, ⟨bs.set b ⟨[x1, x2, x3, x4, x5], true⟩ ++ [⟨x1 :: x2 :: x3 :: x4 :: x5 :: nw, false⟩], []⟩) := by
  simp [apB, boundBytes]
theorem ap_2 (bs : List Blk) (b : Nat) (x1 x2 x3 x4 x5 y1 y2 y3 y4 y5 : AV) (nw : List AV) : apB bs [] b 2 (some ⟨[x1, x2, x3, x4, x5, y1, y2, y3, y4, y5], false⟩) (some nw) = some (.own bs.length 0 3 5, ⟨bs.set b ⟨[x1, x2, x3, x4, x5, y1, y2, y3, y4, y5], true⟩ ++ [⟨x1 :: x2 :: x3 :: x4 :: x5 :: y1 :: y2 :: y3 :: y4 :: y5 :: nw, false⟩], []⟩) := by
  simp [apB, boundBytes]
theorem st_bs5 (F : CallF) (d : Option Nat) (os : List IOper) (e : Env) (h : Heap) (n : Nat) (zero : List AV) (ps : List (Nat × Nat × IOpd)) : evOps G F (⟨d, .bslice n 5 zero ps, none⟩ :: os) e h =
    kBs G F (fillA (repA n zero) (ps.map fun (o, n, x) => (o, n, opd e x))) (.own h.b.length 0 n 5) d os e h := st_bslice G F d os e h n 5 zero ps
theorem so_loop (e : Env) (h : Heap) : evL G T c_soft_open_l1 e h = kS G T (evL G T c_soft_open_b1 (keepE [0, 10, 31, 32, 33] e) h) c_soft_open_l1 := s_loopc G T rfl e h
theorem iw20 (x y : AV) (k : IntKind) : iaddrV 1 (.imm 2 [x, y]) (.int k 0) = some (.iptr [x, y] 0) := rfl
theorem iw21 (x y : AV) (k : IntKind) : iaddrV 1 (.imm 2 [x, y]) (.int k 1) = some (.iptr [x, y] 1) := rfl
theorem iw30 (x y z : AV) (k : IntKind) : iaddrV 1 (.imm 3 [x, y, z]) (.int k 0) = some (.iptr [x, y, z] 0) := rfl
theorem iw31 (x y z : AV) (k : IntKind) : iaddrV 1 (.imm 3 [x, y, z]) (.int k 1) = some (.iptr [x, y, z] 1) := rfl
theorem iw32 (x y z : AV) (k : IntKind) : iaddrV 1 (.imm 3 [x, y, z]) (.int k 2) = some (.iptr [x, y, z] 2) := rfl
theorem rp_0 (h : Mem) (x : AV) (l : List AV) : rdAt G h 1 (.iptr (x :: l) 0) = some [x] := by simp [rdAt]
theorem rp_1 (h : Mem) (x y : AV) (l : List AV) : rdAt G h 1 (.iptr (x :: y :: l) 1) = some [y] := by simp [rdAt]
theorem rp_2 (h : Mem) (x y z : AV) (l : List AV) : rdAt G h 1 (.iptr (x :: y :: z :: l) 2) = some [z] := by simp [rdAt]
theorem repA_3 (z : List AV) : repA 3 z = z ++ (z ++ z) := by simp [repA]
theorem wr_1 : IntKind.i64.wrap (0 + 1) = 1 := rfl
theorem wr_2 : IntKind.i64.wrap (1 + 1) = 2 := rfl
theorem wr_3 : IntKind.i64.wrap (2 + 1) = 3 := rfl
theorem wr1 : IntKind.i64.wrap 1 = 1 := rfl
theorem wr2 : IntKind.i64.wrap 2 = 2 := rfl
theorem wr3 : IntKind.i64.wrap 3 = 3 := rfl

/-- A part: class, sign, value. -/
def ptC (F : Fm) (w : Nat) (z : Bool) : List AV := [.int .u8 (F.cls w), .bool (F.ng w), .bool (F.vl w).n, D z (dl (F.vl w).m), .int .i64 (F.vl w).e]

set_option maxHeartbeats 8000000 in
theorem soft_open2 (hA : HasA g T) (hG : Glob G g) (hC : HasC g T) (hD : HasD g T) (hE : HasE g T) (hU : HasG g T) (F : Fm) {md : Int} (hm : 1 ≤ md ∧ md ≤ 5) {a : Nat} {b : Nat} (ha : a < 2 * F.sg) (hb : b < 2 * F.sg) :
    ∃ z1 z2, run G T 176 [.int .u8 F.u, .int .u8 md, .imm 2 [.int .u64 (a : Int), .int .u64 (b : Int)]] = some (.tup [.imm 2 (ptC F a z1 ++ ptC F b z2), .int .i64 0]) := by
  have o1 := round_Over (G := G) (T := T) hD hE F hm (neg := false)
  have s1 := word_Split (G := G) (T := T) hD hU F ha
  have c1 := word_Class (G := G) (T := T) hD hU F ha
  obtain ⟨z1, k1, v1⟩ := word_Value (G := G) (T := T) hA hG hC hD hU F ha
  have s2 := word_Split (G := G) (T := T) hD hU F hb
  have c2 := word_Class (G := G) (T := T) hD hU F hb
  obtain ⟨z2, k2, v2⟩ := word_Value (G := G) (T := T) hA hG hC hD hU F hb
  refine ⟨z1, z2, ?_⟩
  rw [run_k G T hU.soft_open]
  unfold ptC
  generalize F.cls a = ca' at *
  generalize F.ng a = na' at *
  generalize F.ex a = xa' at *
  generalize F.fc a = ya' at *
  generalize F.vl a = va' at *
  generalize F.cls b = cb' at *
  generalize F.ng b = nb' at *
  generalize F.ex b = xb' at *
  generalize F.fc b = yb' at *
  generalize F.vl b = vb' at *
  simp only [fldA, DyA, A3, List.cons_append, List.nil_append] at *
  repeat' (first | (simp (maxSteps := 1000000) only [evB, if_true, if_false, ne_eq, Nat.reduceEqDiff, Nat.reduceAdd, reduceCtorEq, Int.reduceLE, Int.reduceLT, Int.reduceEq, Int.reduceNeg, Int.reduceToNat, Int.reducePow, Int.reduceMod, Int.reduceDiv, Int.reduceSub, Int.reduceAdd, Int.reduceMul, Nat.reduceMul, Nat.reduceSub, Nat.reducePow, exB, resC_ptr, res_cell, nilb, nilf, faddr_p, c_soft_open, st_bs5, o1, s1, c1, v1, s2, c2, v2, so_loop, c_soft_open_b1, iw20, iw21, rp_0, rp_1, ap_0, ap_1, wr_1, wr1, wr_2, wr2, repA_2, ap_x, List.set_cons_zero, List.set_cons_succ, List.cons_append, List.nil_append ]) | (simp (maxSteps := 1000000) (disch := first | with_reducible assumption | omega) only [dxB,  kM_int]) | (simp only [kI_d, kG_dt, kG_df]; split) | (simp only [kI_v, kG_vt, kG_vf]; split))
set_option maxHeartbeats 8000000 in
theorem soft_open3 (hA : HasA g T) (hG : Glob G g) (hC : HasC g T) (hD : HasD g T) (hE : HasE g T) (hU : HasG g T) (F : Fm) {md : Int} (hm : 1 ≤ md ∧ md ≤ 5) {a : Nat} {b : Nat} {c : Nat} (ha : a < 2 * F.sg) (hb : b < 2 * F.sg) (hc : c < 2 * F.sg) :
    ∃ z1 z2 z3, run G T 176 [.int .u8 F.u, .int .u8 md, .imm 3 [.int .u64 (a : Int), .int .u64 (b : Int), .int .u64 (c : Int)]] = some (.tup [.imm 3 (ptC F a z1 ++ ptC F b z2 ++ ptC F c z3), .int .i64 0]) := by
  have o1 := round_Over (G := G) (T := T) hD hE F hm (neg := false)
  have s1 := word_Split (G := G) (T := T) hD hU F ha
  have c1 := word_Class (G := G) (T := T) hD hU F ha
  obtain ⟨z1, k1, v1⟩ := word_Value (G := G) (T := T) hA hG hC hD hU F ha
  have s2 := word_Split (G := G) (T := T) hD hU F hb
  have c2 := word_Class (G := G) (T := T) hD hU F hb
  obtain ⟨z2, k2, v2⟩ := word_Value (G := G) (T := T) hA hG hC hD hU F hb
  have s3 := word_Split (G := G) (T := T) hD hU F hc
  have c3 := word_Class (G := G) (T := T) hD hU F hc
  obtain ⟨z3, k3, v3⟩ := word_Value (G := G) (T := T) hA hG hC hD hU F hc
  refine ⟨z1, z2, z3, ?_⟩
  rw [run_k G T hU.soft_open]
  unfold ptC
  generalize F.cls a = ca' at *
  generalize F.ng a = na' at *
  generalize F.ex a = xa' at *
  generalize F.fc a = ya' at *
  generalize F.vl a = va' at *
  generalize F.cls b = cb' at *
  generalize F.ng b = nb' at *
  generalize F.ex b = xb' at *
  generalize F.fc b = yb' at *
  generalize F.vl b = vb' at *
  generalize F.cls c = cc' at *
  generalize F.ng c = nc' at *
  generalize F.ex c = xc' at *
  generalize F.fc c = yc' at *
  generalize F.vl c = vc' at *
  simp only [fldA, DyA, A3, List.cons_append, List.nil_append] at *
  repeat' (first | (simp (maxSteps := 1000000) only [evB, if_true, if_false, ne_eq, Nat.reduceEqDiff, Nat.reduceAdd, reduceCtorEq, Int.reduceLE, Int.reduceLT, Int.reduceEq, Int.reduceNeg, Int.reduceToNat, Int.reducePow, Int.reduceMod, Int.reduceDiv, Int.reduceSub, Int.reduceAdd, Int.reduceMul, Nat.reduceMul, Nat.reduceSub, Nat.reducePow, exB, resC_ptr, res_cell, nilb, nilf, faddr_p, c_soft_open, st_bs5, o1, s1, c1, v1, s2, c2, v2, s3, c3, v3, so_loop, c_soft_open_b1, iw30, iw31, iw32, rp_0, rp_1, rp_2, ap_0, ap_1, ap_2, wr_1, wr1, wr_2, wr2, wr_3, wr3, repA_3, ap_x, List.set_cons_zero, List.set_cons_succ, List.cons_append, List.nil_append ]) | (simp (maxSteps := 1000000) (disch := first | with_reducible assumption | omega) only [dxB,  kM_int]) | (simp only [kI_d, kG_dt, kG_df]; split) | (simp only [kI_v, kG_vt, kG_vf]; split))
end Go.Cv
