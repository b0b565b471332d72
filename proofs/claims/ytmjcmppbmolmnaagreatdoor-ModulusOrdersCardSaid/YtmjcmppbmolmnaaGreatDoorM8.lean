/-
  A part of the proof of the statements of this seat (texts that the law's own text leans on): no condition.
-/
import Derived.Test.YtmjcmppbmolmnaaGreatDoorM7
import Derived.Test.YtmjcmppbmolmnaaGreatDoorM6
set_option linter.unusedVariables false
set_option linter.unusedSimpArgs false
/-
  The program's moduli.
-/
namespace Go.Cv
variable {G : Nat → Option (List AV)} {T : Tbl} {g : Nat}

def zA (a b : Nat) : AV := .agg [.int .u64 (a : Int), .int .u64 (b : Int)]
/-- What a number is as a whole. -/
def zcl (c c' : Int) : Int := if c = 4 ∨ c' = 4 then 3 else if c = 5 ∨ c' = 5 then 4 else if c = 1 ∧ c' = 1 then 1 else 2
def sqD (F : Fm) (a b : Nat) : Dy := addD (mulD (F.vl a) (F.vl a)) (mulD (F.vl b) (F.vl b))

theorem word_Class_bad (hD : HasD g T) (hU : HasG g T) (F : Fm) {w : Nat} (hw : w < 18446744073709551616) (hb : ¬ w < 2 * F.sg) : run G T 193 [.int .u8 F.u, .int .u64 (w : Int)] = some (.tup [.int .u8 0, .int .i64 6]) := by
  rw [run_k G T hU.word_Class]
  have h1 := word_open1 (G := G) (T := T) hD F hw
  rw [if_neg hb] at h1
  simp only [shA] at *
  repeat' (first | (simp (maxSteps := 1000000) only [evB, if_true, if_false, ne_eq, Nat.reduceEqDiff, Nat.reduceAdd, reduceCtorEq, Int.reduceLE, Int.reduceLT, Int.reduceEq, Int.reduceNeg, Int.reduceToNat, Int.reducePow, Int.reduceMod, Int.reduceDiv, Int.reduceSub, Int.reduceAdd, Int.reduceMul, Nat.reduceMul, Nat.reduceSub, Nat.reducePow, exB, resC_ptr, res_cell, nilb, nilf, faddr_p, c_word_Class, h1]) | (simp (maxSteps := 1000000) (disch := first | with_reducible assumption | omega) only [dxB]) | (simp only [kI_d, kG_dt, kG_df]; split) | (simp only [kI_v, kG_vt, kG_vf]; split))
theorem word_Class_no (hD : HasD g T) (hU : HasG g T) {f w : Int} (h : ¬ (f = 1 ∨ f = 2)) : run G T 193 [.int .u8 f, .int .u64 w] = some (.tup [.int .u8 0, .int .i64 4]) := by
  rw [run_k G T hU.word_Class]
  have h1 := word_open_no (G := G) (T := T) hD h (v := .imm 1 [.int .u64 w])
  simp only [sh0] at *
  repeat' (first | (simp (maxSteps := 1000000) only [evB, if_true, if_false, ne_eq, Nat.reduceEqDiff, Nat.reduceAdd, reduceCtorEq, Int.reduceLE, Int.reduceLT, Int.reduceEq, Int.reduceNeg, Int.reduceToNat, Int.reducePow, Int.reduceMod, Int.reduceDiv, Int.reduceSub, Int.reduceAdd, Int.reduceMul, Nat.reduceMul, Nat.reduceSub, Nat.reducePow, exB, resC_ptr, res_cell, nilb, nilf, faddr_p, c_word_Class, h1]) | (simp (maxSteps := 1000000) (disch := first | with_reducible assumption | omega) only [dxB]) | (simp only [kI_d, kG_dt, kG_df]; split) | (simp only [kI_v, kG_vt, kG_vf]; split))

theorem pair_Class (hD : HasD g T) (hU : HasG g T) (F : Fm) {a b : Nat} (ha : a < 2 * F.sg) (hb : b < 2 * F.sg) : run G T 189 [.int .u8 F.u, zA a b] = some (.tup [.int .u8 (zcl (F.cls a) (F.cls b)), .int .i64 0]) := by
  rw [run_k G T hU.pair_Class]
  have h1 := word_Class (G := G) (T := T) hD hU F ha
  have h2 := word_Class (G := G) (T := T) hD hU F hb
  unfold zcl
  generalize F.cls a = c at *
  generalize F.cls b = d at *
  simp only [zA] at *
  by_cases q4 : c = 4 ∨ d = 4
  · rw [if_pos q4]
    by_cases k : c = 4
    · repeat' (first | (simp (maxSteps := 1000000) only [evB, if_true, if_false, ne_eq, Nat.reduceEqDiff, Nat.reduceAdd, reduceCtorEq, Int.reduceLE, Int.reduceLT, Int.reduceEq, Int.reduceNeg, Int.reduceToNat, Int.reducePow, Int.reduceMod, Int.reduceDiv, Int.reduceSub, Int.reduceAdd, Int.reduceMul, Nat.reduceMul, Nat.reduceSub, Nat.reducePow, exB, resC_ptr, res_cell, nilb, nilf, faddr_p, c_pair_Class, h1, h2, k]) | (simp (maxSteps := 1000000) (disch := first | with_reducible assumption | omega) only [dxB]) | (simp only [kI_d, kG_dt, kG_df]; split) | (simp only [kI_v, kG_vt, kG_vf]; split))
    · have k2 : d = 4 := by omega
      repeat' (first | (simp (maxSteps := 1000000) only [evB, if_true, if_false, ne_eq, Nat.reduceEqDiff, Nat.reduceAdd, reduceCtorEq, Int.reduceLE, Int.reduceLT, Int.reduceEq, Int.reduceNeg, Int.reduceToNat, Int.reducePow, Int.reduceMod, Int.reduceDiv, Int.reduceSub, Int.reduceAdd, Int.reduceMul, Nat.reduceMul, Nat.reduceSub, Nat.reducePow, exB, resC_ptr, res_cell, nilb, nilf, faddr_p, c_pair_Class, h1, h2, k, k2]) | (simp (maxSteps := 1000000) (disch := first | with_reducible assumption | omega) only [dxB]) | (simp only [kI_d, kG_dt, kG_df]; split) | (simp only [kI_v, kG_vt, kG_vf]; split))
  · rw [if_neg q4]
    have k1 : ¬ c = 4 := by omega
    have k2 : ¬ d = 4 := by omega
    by_cases q5 : c = 5 ∨ d = 5
    · rw [if_pos q5]
      by_cases k : c = 5
      · subst k; repeat' (first | (simp (maxSteps := 1000000) only [evB, if_true, if_false, ne_eq, Nat.reduceEqDiff, Nat.reduceAdd, reduceCtorEq, Int.reduceLE, Int.reduceLT, Int.reduceEq, Int.reduceNeg, Int.reduceToNat, Int.reducePow, Int.reduceMod, Int.reduceDiv, Int.reduceSub, Int.reduceAdd, Int.reduceMul, Nat.reduceMul, Nat.reduceSub, Nat.reducePow, exB, resC_ptr, res_cell, nilb, nilf, faddr_p, c_pair_Class, h1, h2, k2]) | (simp (maxSteps := 1000000) (disch := first | with_reducible assumption | omega) only [dxB]) | (simp only [kI_d, kG_dt, kG_df]; split) | (simp only [kI_v, kG_vt, kG_vf]; split))
      · have k3 : d = 5 := by omega
        subst k3; repeat' (first | (simp (maxSteps := 1000000) only [evB, if_true, if_false, ne_eq, Nat.reduceEqDiff, Nat.reduceAdd, reduceCtorEq, Int.reduceLE, Int.reduceLT, Int.reduceEq, Int.reduceNeg, Int.reduceToNat, Int.reducePow, Int.reduceMod, Int.reduceDiv, Int.reduceSub, Int.reduceAdd, Int.reduceMul, Nat.reduceMul, Nat.reduceSub, Nat.reducePow, exB, resC_ptr, res_cell, nilb, nilf, faddr_p, c_pair_Class, h1, h2, k, k1]) | (simp (maxSteps := 1000000) (disch := first | with_reducible assumption | omega) only [dxB]) | (simp only [kI_d, kG_dt, kG_df]; split) | (simp only [kI_v, kG_vt, kG_vf]; split))
    · rw [if_neg q5]
      have k3 : ¬ c = 5 := by omega
      have k4 : ¬ d = 5 := by omega
      by_cases q1 : c = 1 ∧ d = 1
      · rw [if_pos q1]
        obtain ⟨rfl, rfl⟩ := q1
        repeat' (first | (simp (maxSteps := 1000000) only [evB, if_true, if_false, ne_eq, Nat.reduceEqDiff, Nat.reduceAdd, reduceCtorEq, Int.reduceLE, Int.reduceLT, Int.reduceEq, Int.reduceNeg, Int.reduceToNat, Int.reducePow, Int.reduceMod, Int.reduceDiv, Int.reduceSub, Int.reduceAdd, Int.reduceMul, Nat.reduceMul, Nat.reduceSub, Nat.reducePow, exB, resC_ptr, res_cell, nilb, nilf, faddr_p, c_pair_Class, h1, h2]) | (simp (maxSteps := 1000000) (disch := first | with_reducible assumption | omega) only [dxB]) | (simp only [kI_d, kG_dt, kG_df]; split) | (simp only [kI_v, kG_vt, kG_vf]; split))
      · rw [if_neg q1]
        by_cases k5 : c = 1
        · have k6 : ¬ d = 1 := fun h => q1 ⟨k5, h⟩
          subst k5; repeat' (first | (simp (maxSteps := 1000000) only [evB, if_true, if_false, ne_eq, Nat.reduceEqDiff, Nat.reduceAdd, reduceCtorEq, Int.reduceLE, Int.reduceLT, Int.reduceEq, Int.reduceNeg, Int.reduceToNat, Int.reducePow, Int.reduceMod, Int.reduceDiv, Int.reduceSub, Int.reduceAdd, Int.reduceMul, Nat.reduceMul, Nat.reduceSub, Nat.reducePow, exB, resC_ptr, res_cell, nilb, nilf, faddr_p, c_pair_Class, h1, h2, k2, k4, k6]) | (simp (maxSteps := 1000000) (disch := first | with_reducible assumption | omega) only [dxB]) | (simp only [kI_d, kG_dt, kG_df]; split) | (simp only [kI_v, kG_vt, kG_vf]; split))
        · repeat' (first | (simp (maxSteps := 1000000) only [evB, if_true, if_false, ne_eq, Nat.reduceEqDiff, Nat.reduceAdd, reduceCtorEq, Int.reduceLE, Int.reduceLT, Int.reduceEq, Int.reduceNeg, Int.reduceToNat, Int.reducePow, Int.reduceMod, Int.reduceDiv, Int.reduceSub, Int.reduceAdd, Int.reduceMul, Nat.reduceMul, Nat.reduceSub, Nat.reducePow, exB, resC_ptr, res_cell, nilb, nilf, faddr_p, c_pair_Class, h1, h2, k1, k2, k3, k4, k5]) | (simp (maxSteps := 1000000) (disch := first | with_reducible assumption | omega) only [dxB]) | (simp only [kI_d, kG_dt, kG_df]; split) | (simp only [kI_v, kG_vt, kG_vf]; split))
theorem pair_Class_bad (hD : HasD g T) (hU : HasG g T) (F : Fm) {a b : Nat} (ha : a < 18446744073709551616) (hb : b < 18446744073709551616) (h : ¬ (a < 2 * F.sg ∧ b < 2 * F.sg)) : run G T 189 [.int .u8 F.u, zA a b] = some (.tup [.int .u8 0, .int .i64 6]) := by
  rw [run_k G T hU.pair_Class]
  by_cases k1 : a < 2 * F.sg
  · have h1 := word_Class (G := G) (T := T) hD hU F k1
    have h2 := word_Class_bad (G := G) (T := T) hD hU F hb (fun q => h ⟨k1, q⟩)
    generalize F.cls a = c at *
    simp only [zA] at *
    repeat' (first | (simp (maxSteps := 1000000) only [evB, if_true, if_false, ne_eq, Nat.reduceEqDiff, Nat.reduceAdd, reduceCtorEq, Int.reduceLE, Int.reduceLT, Int.reduceEq, Int.reduceNeg, Int.reduceToNat, Int.reducePow, Int.reduceMod, Int.reduceDiv, Int.reduceSub, Int.reduceAdd, Int.reduceMul, Nat.reduceMul, Nat.reduceSub, Nat.reducePow, exB, resC_ptr, res_cell, nilb, nilf, faddr_p, c_pair_Class, h1, h2]) | (simp (maxSteps := 1000000) (disch := first | with_reducible assumption | omega) only [dxB]) | (simp only [kI_d, kG_dt, kG_df]; split) | (simp only [kI_v, kG_vt, kG_vf]; split))
  · have h1 := word_Class_bad (G := G) (T := T) hD hU F ha k1
    simp only [zA] at *
    repeat' (first | (simp (maxSteps := 1000000) only [evB, if_true, if_false, ne_eq, Nat.reduceEqDiff, Nat.reduceAdd, reduceCtorEq, Int.reduceLE, Int.reduceLT, Int.reduceEq, Int.reduceNeg, Int.reduceToNat, Int.reducePow, Int.reduceMod, Int.reduceDiv, Int.reduceSub, Int.reduceAdd, Int.reduceMul, Nat.reduceMul, Nat.reduceSub, Nat.reducePow, exB, resC_ptr, res_cell, nilb, nilf, faddr_p, c_pair_Class, h1]) | (simp (maxSteps := 1000000) (disch := first | with_reducible assumption | omega) only [dxB]) | (simp only [kI_d, kG_dt, kG_df]; split) | (simp only [kI_v, kG_vt, kG_vf]; split))
theorem pair_Class_no (hD : HasD g T) (hU : HasG g T) {f : Int} (h : ¬ (f = 1 ∨ f = 2)) {a b : Nat} : run G T 189 [.int .u8 f, zA a b] = some (.tup [.int .u8 0, .int .i64 4]) := by
  rw [run_k G T hU.pair_Class]
  have h1 := word_Class_no (G := G) (T := T) hD hU (w := (a : Int)) h
  simp only [zA] at *
  repeat' (first | (simp (maxSteps := 1000000) only [evB, if_true, if_false, ne_eq, Nat.reduceEqDiff, Nat.reduceAdd, reduceCtorEq, Int.reduceLE, Int.reduceLT, Int.reduceEq, Int.reduceNeg, Int.reduceToNat, Int.reducePow, Int.reduceMod, Int.reduceDiv, Int.reduceSub, Int.reduceAdd, Int.reduceMul, Nat.reduceMul, Nat.reduceSub, Nat.reducePow, exB, resC_ptr, res_cell, nilb, nilf, faddr_p, c_pair_Class, h1]) | (simp (maxSteps := 1000000) (disch := first | with_reducible assumption | omega) only [dxB]) | (simp only [kI_d, kG_dt, kG_df]; split) | (simp only [kI_v, kG_vt, kG_vf]; split))

theorem Bd_sq (F : Fm) (a b : Nat) : Bd (sqD F a b) 65537 := (Bd_add (Bd_mul (Bd_vl F a) (Bd_vl F a)) (Bd_mul (Bd_vl F b) (Bd_vl F b))).mono (by decide)
theorem Nz_sq (F : Fm) (a b : Nat) : Nz (sqD F a b) := Nz_add (Nz_mul _ _) (Nz_mul _ _)
theorem mulD_self (d : Dy) : (mulD d d).n = false := by
  unfold mulD
  rw [show (d.n != d.n) = false by cases d.n <;> rfl]
  unfold mkD; split <;> rfl
theorem sq_pos (F : Fm) (a b : Nat) : (sqD F a b).n = false := by
  unfold sqD
  have h1 := mulD_self (F.vl a)
  have h2 := mulD_self (F.vl b)
  generalize mulD (F.vl a) (F.vl a) = x at *
  generalize mulD (F.vl b) (F.vl b) = y at *
  unfold addD
  rw [h1, h2]
  repeat' split
  all_goals first | assumption | (unfold mkD; split <;> rfl)

theorem modulus_square (hA : HasA g T) (hG : Glob G g) (hC : HasC g T) (hD : HasD g T) (hU : HasG g T) (F : Fm) {a b : Nat} (ha : a < 2 * F.sg) (hb : b < 2 * F.sg) :
    ∃ z, run G T 191 [.int .u8 F.u, zA a b] = some (DyA z (sqD F a b)) := by
  obtain ⟨z1, k1, v1⟩ := word_Value (G := G) (T := T) hA hG hC hD hU F ha
  obtain ⟨z2, k2, v2⟩ := word_Value (G := G) (T := T) hA hG hC hD hU F hb
  have b1 := Bd_vl F a
  have b2 := Bd_vl F b
  have y1 := mayD_nzb (Nz_vl F a) (b1.mono (by decide))
  have y2 := mayD_nzb (Nz_vl F b) (b2.mono (by decide))
  obtain ⟨z3, m1⟩ := dyad_Mul (G := G) (T := T) hA hG hC hU (z := z1) (y := z1) (b1.mono (by decide)) (b1.mono (by decide)) y1 y1
  obtain ⟨z4, m2⟩ := dyad_Mul (G := G) (T := T) hA hG hC hU (z := z2) (y := z2) (b2.mono (by decide)) (b2.mono (by decide)) y2 y2
  have b3 := Bd_mul b1 b1
  have b4 := Bd_mul b2 b2
  obtain ⟨z5, s1⟩ := dyad_Add (G := G) (T := T) hA hG hC hU (z := z3) (y := z4) b3 b4 (mayD_nzb (Nz_mul _ _) (b3.mono (by decide))) (mayD_nzb (Nz_mul _ _) (b4.mono (by decide)))
  refine ⟨z5, ?_⟩
  rw [run_k G T hU.modulus_square]
  unfold sqD
  generalize addD (mulD (F.vl a) (F.vl a)) (mulD (F.vl b) (F.vl b)) = d at *
  generalize mulD (F.vl a) (F.vl a) = p at *
  generalize mulD (F.vl b) (F.vl b) = q at *
  generalize F.vl a = va at *
  generalize F.vl b = vb at *
  clear b1 b2 b3 b4 y1 y2
  simp only [zA, DyA, A3] at *
  repeat' (first | (simp (maxSteps := 1000000) only [evB, if_true, if_false, ne_eq, Nat.reduceEqDiff, Nat.reduceAdd, reduceCtorEq, Int.reduceLE, Int.reduceLT, Int.reduceEq, Int.reduceNeg, Int.reduceToNat, Int.reducePow, Int.reduceMod, Int.reduceDiv, Int.reduceSub, Int.reduceAdd, Int.reduceMul, Nat.reduceMul, Nat.reduceSub, Nat.reducePow, exB, resC_ptr, res_cell, nilb, nilf, faddr_p, c_modulus_square, v1, v2, m1, m2, s1]) | (simp (maxSteps := 1000000) (disch := first | with_reducible assumption | omega) only [dxB]) | (simp only [kI_d, kG_dt, kG_df]; split) | (simp only [kI_v, kG_vt, kG_vf]; split))

def toldW (F : Fm) (c : Int) (X : Nat × Nat) : Nat × Nat := if c = 3 then (F.inf false, 0) else if c = 4 then (F.nan, 0) else X
theorem modulus_told (hA : HasA g T) (hG : Glob G g) (hC : HasC g T) (hD : HasD g T) (hE : HasE g T) (hU : HasG g T) (F : Fm) {md : Int} (hm : 1 ≤ md ∧ md ≤ 5) {a b : Nat} (ha : a < 2 * F.sg) (hb : b < 2 * F.sg) {k : Nat} {X : Nat × Nat}
    (hk : ∀ z, run G T k [.int .u8 F.u, .int .u8 md, DyA z (sqD F a b)] = some (.tup [.int .u64 (X.1 : Int), .int .u8 (X.2 : Int), .int .i64 0])) :
    run G T 186 [.int .u8 F.u, .int .u8 md, zA a b, .fn k []] = some (.tup [.int .u64 ((toldW F (zcl (F.cls a) (F.cls b)) X).1 : Int), .int .u8 ((toldW F (zcl (F.cls a) (F.cls b)) X).2 : Int), .int .i64 0]) := by
  rw [run_k G T hU.modulus_told]
  have o1 := round_Over (G := G) (T := T) hD hE F hm (neg := false)
  have c1 := pair_Class (G := G) (T := T) hD hU F ha hb
  have i1 := word_Inf (G := G) (T := T) hD F (n := false)
  have n1 := word_None (G := G) (T := T) hU hD F
  obtain ⟨z, s1⟩ := modulus_square (G := G) (T := T) hA hG hC hD hU F ha hb
  have hk := hk z
  unfold toldW
  generalize zcl (F.cls a) (F.cls b) = c at *
  generalize sqD F a b = d at *
  simp only [zA, DyA, A3] at *
  by_cases k3 : c = 3
  · rw [if_pos k3]
    repeat' (first | (simp (maxSteps := 1000000) only [evB, if_true, if_false, ne_eq, Nat.reduceEqDiff, Nat.reduceAdd, reduceCtorEq, Int.reduceLE, Int.reduceLT, Int.reduceEq, Int.reduceNeg, Int.reduceToNat, Int.reducePow, Int.reduceMod, Int.reduceDiv, Int.reduceSub, Int.reduceAdd, Int.reduceMul, Nat.reduceMul, Nat.reduceSub, Nat.reducePow, exB, resC_ptr, res_cell, nilb, nilf, faddr_p, c_modulus_told, o1, c1, k3, i1]) | (simp (maxSteps := 1000000) (disch := first | with_reducible assumption | omega) only [dxB]) | (simp only [kI_d, kG_dt, kG_df]; split) | (simp only [kI_v, kG_vt, kG_vf]; split))
    all_goals rfl
  · rw [if_neg k3]
    by_cases k4 : c = 4
    · rw [if_pos k4]
      subst k4
      repeat' (first | (simp (maxSteps := 1000000) only [evB, if_true, if_false, ne_eq, Nat.reduceEqDiff, Nat.reduceAdd, reduceCtorEq, Int.reduceLE, Int.reduceLT, Int.reduceEq, Int.reduceNeg, Int.reduceToNat, Int.reducePow, Int.reduceMod, Int.reduceDiv, Int.reduceSub, Int.reduceAdd, Int.reduceMul, Nat.reduceMul, Nat.reduceSub, Nat.reducePow, exB, resC_ptr, res_cell, nilb, nilf, faddr_p, c_modulus_told, o1, c1, n1]) | (simp (maxSteps := 1000000) (disch := first | with_reducible assumption | omega) only [dxB]) | (simp only [kI_d, kG_dt, kG_df]; split) | (simp only [kI_v, kG_vt, kG_vf]; split))
      all_goals rfl
    · rw [if_neg k4]
      repeat' (first | (simp (maxSteps := 1000000) only [evB, if_true, if_false, ne_eq, Nat.reduceEqDiff, Nat.reduceAdd, reduceCtorEq, Int.reduceLE, Int.reduceLT, Int.reduceEq, Int.reduceNeg, Int.reduceToNat, Int.reducePow, Int.reduceMod, Int.reduceDiv, Int.reduceSub, Int.reduceAdd, Int.reduceMul, Nat.reduceMul, Nat.reduceSub, Nat.reducePow, exB, resC_ptr, res_cell, nilb, nilf, faddr_p, c_modulus_told, o1, c1, k3, k4, s1, hk]) | (simp (maxSteps := 1000000) (disch := first | with_reducible assumption | omega) only [dxB]) | (simp only [kI_d, kG_dt, kG_df]; split) | (simp only [kI_v, kG_vt, kG_vf]; split))
      all_goals try rfl
theorem modulus_told_no (hE : HasE g T) (hU : HasG g T) {f md : Int} (hf : ¬ (f = 1 ∨ f = 2)) {a b k : Nat} : run G T 186 [.int .u8 f, .int .u8 md, zA a b, .fn k []] = some (.tup [.int .u64 0, .int .u8 0, .int .i64 4]) := by
  rw [run_k G T hU.modulus_told]
  have o1 := round_Over_no (G := G) (T := T) hE hf (m := md) (neg := false)
  simp only [zA] at *
  repeat' (first | (simp (maxSteps := 1000000) only [evB, if_true, if_false, ne_eq, Nat.reduceEqDiff, Nat.reduceAdd, reduceCtorEq, Int.reduceLE, Int.reduceLT, Int.reduceEq, Int.reduceNeg, Int.reduceToNat, Int.reducePow, Int.reduceMod, Int.reduceDiv, Int.reduceSub, Int.reduceAdd, Int.reduceMul, Nat.reduceMul, Nat.reduceSub, Nat.reducePow, exB, resC_ptr, res_cell, nilb, nilf, faddr_p, c_modulus_told, o1]) | (simp (maxSteps := 1000000) (disch := first | with_reducible assumption | omega) only [dxB]) | (simp only [kI_d, kG_dt, kG_df]; split) | (simp only [kI_v, kG_vt, kG_vf]; split))
theorem modulus_told_mode (hE : HasE g T) (hU : HasG g T) (F : Fm) {md : Int} (hm : ¬ (1 ≤ md ∧ md ≤ 5)) {a b k : Nat} : run G T 186 [.int .u8 F.u, .int .u8 md, zA a b, .fn k []] = some (.tup [.int .u64 0, .int .u8 0, .int .i64 5]) := by
  rw [run_k G T hU.modulus_told]
  have o1 := round_Over_mode (G := G) (T := T) hE F (m := md) (by omega) (neg := false)
  simp only [zA] at *
  repeat' (first | (simp (maxSteps := 1000000) only [evB, if_true, if_false, ne_eq, Nat.reduceEqDiff, Nat.reduceAdd, reduceCtorEq, Int.reduceLE, Int.reduceLT, Int.reduceEq, Int.reduceNeg, Int.reduceToNat, Int.reducePow, Int.reduceMod, Int.reduceDiv, Int.reduceSub, Int.reduceAdd, Int.reduceMul, Nat.reduceMul, Nat.reduceSub, Nat.reducePow, exB, resC_ptr, res_cell, nilb, nilf, faddr_p, c_modulus_told, o1]) | (simp (maxSteps := 1000000) (disch := first | with_reducible assumption | omega) only [dxB]) | (simp only [kI_d, kG_dt, kG_df]; split) | (simp only [kI_v, kG_vt, kG_vf]; split))
theorem modulus_told_bad (hD : HasD g T) (hE : HasE g T) (hU : HasG g T) (F : Fm) {md : Int} (hm : 1 ≤ md ∧ md ≤ 5) {a b k : Nat} (ha : a < 18446744073709551616) (hb : b < 18446744073709551616) (h : ¬ (a < 2 * F.sg ∧ b < 2 * F.sg)) :
    run G T 186 [.int .u8 F.u, .int .u8 md, zA a b, .fn k []] = some (.tup [.int .u64 0, .int .u8 0, .int .i64 6]) := by
  rw [run_k G T hU.modulus_told]
  have o1 := round_Over (G := G) (T := T) hD hE F hm (neg := false)
  have c1 := pair_Class_bad (G := G) (T := T) hD hU F ha hb h
  simp only [zA] at *
  repeat' (first | (simp (maxSteps := 1000000) only [evB, if_true, if_false, ne_eq, Nat.reduceEqDiff, Nat.reduceAdd, reduceCtorEq, Int.reduceLE, Int.reduceLT, Int.reduceEq, Int.reduceNeg, Int.reduceToNat, Int.reducePow, Int.reduceMod, Int.reduceDiv, Int.reduceSub, Int.reduceAdd, Int.reduceMul, Nat.reduceMul, Nat.reduceSub, Nat.reducePow, exB, resC_ptr, res_cell, nilb, nilf, faddr_p, c_modulus_told, o1, c1]) | (simp (maxSteps := 1000000) (disch := first | with_reducible assumption | omega) only [dxB]) | (simp only [kI_d, kG_dt, kG_df]; split) | (simp only [kI_v, kG_vt, kG_vf]; split))

/-- A root, of nought too. -/
noncomputable def rtW (F : Fm) (md : Int) (d : Dy) : Nat × Nat := if d.m = 0 then (0, 0) else rootW F md d
def normZ (F : Fm) (md : Int) (a b : Nat) : Nat × Nat := toldW F (zcl (F.cls a) (F.cls b)) (rndW F md (sqD F a b))
noncomputable def absZ (F : Fm) (md : Int) (a b : Nat) : Nat × Nat := toldW F (zcl (F.cls a) (F.cls b)) (rtW F md (sqD F a b))

theorem modulus_Norm (hA : HasA g T) (hG : Glob G g) (hC : HasC g T) (hD : HasD g T) (hE : HasE g T) (hU : HasG g T) (F : Fm) {md : Int} (hm : 1 ≤ md ∧ md ≤ 5) {a b : Nat} (ha : a < 2 * F.sg) (hb : b < 2 * F.sg) :
    run G T 171 [.int .u8 F.u, .int .u8 md, zA a b] = some (.tup [.int .u64 ((normZ F md a b).1 : Int), .int .u8 ((normZ F md a b).2 : Int), .int .i64 0]) := by
  rw [run_k G T hU.modulus_Norm]
  have h1 := modulus_told (G := G) (T := T) hA hG hC hD hE hU F hm ha hb (k := 7) (X := rndW F md (sqD F a b)) (fun z => round_Round (G := G) (T := T) hA hC hG hD hE F hm (z := z) (mayD_nzb (Nz_sq F a b) ((Bd_sq F a b).mono (by decide))))
  unfold normZ
  generalize toldW F (zcl (F.cls a) (F.cls b)) (rndW F md (sqD F a b)) = S at *
  simp only [zA] at *
  repeat' (first | (simp (maxSteps := 1000000) only [evB, if_true, if_false, ne_eq, Nat.reduceEqDiff, Nat.reduceAdd, reduceCtorEq, Int.reduceLE, Int.reduceLT, Int.reduceEq, Int.reduceNeg, Int.reduceToNat, Int.reducePow, Int.reduceMod, Int.reduceDiv, Int.reduceSub, Int.reduceAdd, Int.reduceMul, Nat.reduceMul, Nat.reduceSub, Nat.reducePow, exB, resC_ptr, res_cell, nilb, nilf, faddr_p, c_modulus_Norm, h1]) | (simp (maxSteps := 1000000) (disch := first | with_reducible assumption | omega) only [dxB]) | (simp only [kI_d, kG_dt, kG_df]; split) | (simp only [kI_v, kG_vt, kG_vf]; split))
  all_goals try rfl
theorem modulus_Abs (hA : HasA g T) (hG : Glob G g) (hC : HasC g T) (hD : HasD g T) (hE : HasE g T) (hU : HasG g T) (F : Fm) {md : Int} (hm : 1 ≤ md ∧ md ≤ 5) {a b : Nat} (ha : a < 2 * F.sg) (hb : b < 2 * F.sg) :
    run G T 169 [.int .u8 F.u, .int .u8 md, zA a b] = some (.tup [.int .u64 ((absZ F md a b).1 : Int), .int .u8 ((absZ F md a b).2 : Int), .int .i64 0]) := by
  rw [run_k G T hU.modulus_Abs]
  have hd := mayD_nzb (Nz_sq F a b) ((Bd_sq F a b).mono (show 65537 ≤ 131072 by decide))
  have h1 := modulus_told (G := G) (T := T) hA hG hC hD hE hU F hm ha hb (k := 18) (X := rtW F md (sqD F a b)) (fun z => by
    unfold rtW
    by_cases h0 : (sqD F a b).m = 0
    · rw [if_pos h0]; exact round_Root_zero (G := G) (T := T) hA hC hE F hm hd h0
    · rw [if_neg h0]; exact round_Root (G := G) (T := T) hA hC hG hD hE F hm hd h0 (sq_pos F a b))
  unfold absZ
  generalize toldW F (zcl (F.cls a) (F.cls b)) (rtW F md (sqD F a b)) = S at *
  simp only [zA] at *
  repeat' (first | (simp (maxSteps := 1000000) only [evB, if_true, if_false, ne_eq, Nat.reduceEqDiff, Nat.reduceAdd, reduceCtorEq, Int.reduceLE, Int.reduceLT, Int.reduceEq, Int.reduceNeg, Int.reduceToNat, Int.reducePow, Int.reduceMod, Int.reduceDiv, Int.reduceSub, Int.reduceAdd, Int.reduceMul, Nat.reduceMul, Nat.reduceSub, Nat.reducePow, exB, resC_ptr, res_cell, nilb, nilf, faddr_p, c_modulus_Abs, h1]) | (simp (maxSteps := 1000000) (disch := first | with_reducible assumption | omega) only [dxB]) | (simp only [kI_d, kG_dt, kG_df]; split) | (simp only [kI_v, kG_vt, kG_vf]; split))
  all_goals try rfl
theorem modulus_Norm_err (hU : HasG g T) {f md e : Int} {a b : Nat} (h : run G T 186 [.int .u8 f, .int .u8 md, zA a b, .fn 7 []] = some (.tup [.int .u64 0, .int .u8 0, .int .i64 e])) : run G T 171 [.int .u8 f, .int .u8 md, zA a b] = some (.tup [.int .u64 0, .int .u8 0, .int .i64 e]) := by
  rw [run_k G T hU.modulus_Norm]
  simp only [zA] at *
  repeat' (first | (simp (maxSteps := 1000000) only [evB, if_true, if_false, ne_eq, Nat.reduceEqDiff, Nat.reduceAdd, reduceCtorEq, Int.reduceLE, Int.reduceLT, Int.reduceEq, Int.reduceNeg, Int.reduceToNat, Int.reducePow, Int.reduceMod, Int.reduceDiv, Int.reduceSub, Int.reduceAdd, Int.reduceMul, Nat.reduceMul, Nat.reduceSub, Nat.reducePow, exB, resC_ptr, res_cell, nilb, nilf, faddr_p, c_modulus_Norm, h]) | (simp (maxSteps := 1000000) (disch := first | with_reducible assumption | omega) only [dxB]) | (simp only [kI_d, kG_dt, kG_df]; split) | (simp only [kI_v, kG_vt, kG_vf]; split))
theorem modulus_Abs_err (hU : HasG g T) {f md e : Int} {a b : Nat} (h : run G T 186 [.int .u8 f, .int .u8 md, zA a b, .fn 18 []] = some (.tup [.int .u64 0, .int .u8 0, .int .i64 e])) : run G T 169 [.int .u8 f, .int .u8 md, zA a b] = some (.tup [.int .u64 0, .int .u8 0, .int .i64 e]) := by
  rw [run_k G T hU.modulus_Abs]
  simp only [zA] at *
  repeat' (first | (simp (maxSteps := 1000000) only [evB, if_true, if_false, ne_eq, Nat.reduceEqDiff, Nat.reduceAdd, reduceCtorEq, Int.reduceLE, Int.reduceLT, Int.reduceEq, Int.reduceNeg, Int.reduceToNat, Int.reducePow, Int.reduceMod, Int.reduceDiv, Int.reduceSub, Int.reduceAdd, Int.reduceMul, Nat.reduceMul, Nat.reduceSub, Nat.reducePow, exB, resC_ptr, res_cell, nilb, nilf, faddr_p, c_modulus_Abs, h]) | (simp (maxSteps := 1000000) (disch := first | with_reducible assumption | omega) only [dxB]) | (simp only [kI_d, kG_dt, kG_df]; split) | (simp only [kI_v, kG_vt, kG_vf]; split))

/-- Which of two numbers is greater. -/
def cmpZ (F : Fm) (a b c d : Nat) : Int :=
  if zcl (F.cls a) (F.cls b) = 4 ∨ zcl (F.cls c) (F.cls d) = 4 then 4
  else if zcl (F.cls a) (F.cls b) = 3 ∧ zcl (F.cls c) (F.cls d) = 3 then 2
  else if zcl (F.cls a) (F.cls b) = 3 then 3
  else if zcl (F.cls c) (F.cls d) = 3 then 1
  else 2 + cmpD (sqD F a b) (sqD F c d)
theorem modulus_Cmp (hA : HasA g T) (hG : Glob G g) (hC : HasC g T) (hD : HasD g T) (hU : HasG g T) (F : Fm) {a b c d : Nat} (ha : a < 2 * F.sg) (hb : b < 2 * F.sg) (hc : c < 2 * F.sg) (hd : d < 2 * F.sg) :
    run G T 174 [.int .u8 F.u, zA a b, zA c d] = some (.tup [.int .u8 (cmpZ F a b c d), .int .i64 0]) := by
  rw [run_k G T hU.modulus_Cmp]
  have c1 := pair_Class (G := G) (T := T) hD hU F ha hb
  have c2 := pair_Class (G := G) (T := T) hD hU F hc hd
  obtain ⟨z1, s1⟩ := modulus_square (G := G) (T := T) hA hG hC hD hU F ha hb
  obtain ⟨z2, s2⟩ := modulus_square (G := G) (T := T) hA hG hC hD hU F hc hd
  have k1 := dyad_Cmp (G := G) (T := T) hA hC hU (z := z1) (y := z2) (Nz_sq F a b) (Nz_sq F c d) (Bd_sq F a b) (Bd_sq F c d)
  have hv := cmpD_val (sqD F a b) (sqD F c d)
  unfold cmpZ
  generalize zcl (F.cls a) (F.cls b) = x at *
  generalize zcl (F.cls c) (F.cls d) = y at *
  generalize cmpD (sqD F a b) (sqD F c d) = q at *
  generalize sqD F a b = p1 at *
  generalize sqD F c d = p2 at *
  simp only [zA, DyA, A3] at *
  by_cases q4 : x = 4 ∨ y = 4
  · rw [if_pos q4]
    by_cases k : x = 4
    · subst k; repeat' (first | (simp (maxSteps := 1000000) only [evB, if_true, if_false, ne_eq, Nat.reduceEqDiff, Nat.reduceAdd, reduceCtorEq, Int.reduceLE, Int.reduceLT, Int.reduceEq, Int.reduceNeg, Int.reduceToNat, Int.reducePow, Int.reduceMod, Int.reduceDiv, Int.reduceSub, Int.reduceAdd, Int.reduceMul, Nat.reduceMul, Nat.reduceSub, Nat.reducePow, exB, resC_ptr, res_cell, nilb, nilf, faddr_p, c_modulus_Cmp, c1, c2]) | (simp (maxSteps := 1000000) (disch := first | with_reducible assumption | omega) only [dxB]) | (simp only [kI_d, kG_dt, kG_df]; split) | (simp only [kI_v, kG_vt, kG_vf]; split))
    · have k2 : y = 4 := by omega
      subst k2; repeat' (first | (simp (maxSteps := 1000000) only [evB, if_true, if_false, ne_eq, Nat.reduceEqDiff, Nat.reduceAdd, reduceCtorEq, Int.reduceLE, Int.reduceLT, Int.reduceEq, Int.reduceNeg, Int.reduceToNat, Int.reducePow, Int.reduceMod, Int.reduceDiv, Int.reduceSub, Int.reduceAdd, Int.reduceMul, Nat.reduceMul, Nat.reduceSub, Nat.reducePow, exB, resC_ptr, res_cell, nilb, nilf, faddr_p, c_modulus_Cmp, c1, c2, k]) | (simp (maxSteps := 1000000) (disch := first | with_reducible assumption | omega) only [dxB]) | (simp only [kI_d, kG_dt, kG_df]; split) | (simp only [kI_v, kG_vt, kG_vf]; split))
  · rw [if_neg q4]
    have n1 : ¬ x = 4 := by omega
    have n2 : ¬ y = 4 := by omega
    by_cases x3 : x = 3
    · by_cases y3 : y = 3
      · rw [if_pos ⟨x3, y3⟩]
        subst x3 y3; repeat' (first | (simp (maxSteps := 1000000) only [evB, if_true, if_false, ne_eq, Nat.reduceEqDiff, Nat.reduceAdd, reduceCtorEq, Int.reduceLE, Int.reduceLT, Int.reduceEq, Int.reduceNeg, Int.reduceToNat, Int.reducePow, Int.reduceMod, Int.reduceDiv, Int.reduceSub, Int.reduceAdd, Int.reduceMul, Nat.reduceMul, Nat.reduceSub, Nat.reducePow, exB, resC_ptr, res_cell, nilb, nilf, faddr_p, c_modulus_Cmp, c1, c2]) | (simp (maxSteps := 1000000) (disch := first | with_reducible assumption | omega) only [dxB]) | (simp only [kI_d, kG_dt, kG_df]; split) | (simp only [kI_v, kG_vt, kG_vf]; split))
      · rw [if_neg (fun h => y3 h.2), if_pos x3]
        subst x3; repeat' (first | (simp (maxSteps := 1000000) only [evB, if_true, if_false, ne_eq, Nat.reduceEqDiff, Nat.reduceAdd, reduceCtorEq, Int.reduceLE, Int.reduceLT, Int.reduceEq, Int.reduceNeg, Int.reduceToNat, Int.reducePow, Int.reduceMod, Int.reduceDiv, Int.reduceSub, Int.reduceAdd, Int.reduceMul, Nat.reduceMul, Nat.reduceSub, Nat.reducePow, exB, resC_ptr, res_cell, nilb, nilf, faddr_p, c_modulus_Cmp, c1, c2, n2, y3]) | (simp (maxSteps := 1000000) (disch := first | with_reducible assumption | omega) only [dxB]) | (simp only [kI_d, kG_dt, kG_df]; split) | (simp only [kI_v, kG_vt, kG_vf]; split))
    · rw [if_neg (fun h => x3 h.1), if_neg x3]
      by_cases y3 : y = 3
      · rw [if_pos y3]
        subst y3; repeat' (first | (simp (maxSteps := 1000000) only [evB, if_true, if_false, ne_eq, Nat.reduceEqDiff, Nat.reduceAdd, reduceCtorEq, Int.reduceLE, Int.reduceLT, Int.reduceEq, Int.reduceNeg, Int.reduceToNat, Int.reducePow, Int.reduceMod, Int.reduceDiv, Int.reduceSub, Int.reduceAdd, Int.reduceMul, Nat.reduceMul, Nat.reduceSub, Nat.reducePow, exB, resC_ptr, res_cell, nilb, nilf, faddr_p, c_modulus_Cmp, c1, c2, n1, x3]) | (simp (maxSteps := 1000000) (disch := first | with_reducible assumption | omega) only [dxB]) | (simp only [kI_d, kG_dt, kG_df]; split) | (simp only [kI_v, kG_vt, kG_vf]; split))
      · rw [if_neg y3]
        have u1 : IntKind.u8.wrap (-1) = 255 := rfl
        have u2 : IntKind.u8.wrap 0 = 0 := rfl
        have u3 : IntKind.u8.wrap 1 = 1 := rfl
        have u4 : IntKind.u8.wrap (2 + 255) = 1 := rfl
        have u5 : IntKind.u8.wrap (2 + 0) = 2 := rfl
        have u6 : IntKind.u8.wrap (2 + 1) = 3 := rfl
        have u7 : IntKind.u8.wrap 257 = 1 := rfl
        have u8 : IntKind.u8.wrap 2 = 2 := rfl
        have u9 : IntKind.u8.wrap 3 = 3 := rfl
        rcases hv with rfl | rfl | rfl <;> (
          repeat' (first | (simp (maxSteps := 1000000) only [evB, if_true, if_false, ne_eq, Nat.reduceEqDiff, Nat.reduceAdd, reduceCtorEq, Int.reduceLE, Int.reduceLT, Int.reduceEq, Int.reduceNeg, Int.reduceToNat, Int.reducePow, Int.reduceMod, Int.reduceDiv, Int.reduceSub, Int.reduceAdd, Int.reduceMul, Nat.reduceMul, Nat.reduceSub, Nat.reducePow, exB, resC_ptr, res_cell, nilb, nilf, faddr_p, c_modulus_Cmp, c1, c2, n1, n2, x3, y3, s1, s2, k1, u1, u2, u3, u4, u5, u6, u7, u8, u9]) | (simp (maxSteps := 1000000) (disch := first | with_reducible assumption | omega) only [dxB]) | (simp only [kI_d, kG_dt, kG_df]; split) | (simp only [kI_v, kG_vt, kG_vf]; split))
          all_goals try rfl)
theorem modulus_Cmp_bad (hD : HasD g T) (hU : HasG g T) (F : Fm) {a b c d : Nat} (ha : a < 18446744073709551616) (hb : b < 18446744073709551616) (hc : c < 18446744073709551616) (hd : d < 18446744073709551616) (h : ¬ ((a < 2 * F.sg ∧ b < 2 * F.sg) ∧ (c < 2 * F.sg ∧ d < 2 * F.sg))) :
    run G T 174 [.int .u8 F.u, zA a b, zA c d] = some (.tup [.int .u8 0, .int .i64 6]) := by
  rw [run_k G T hU.modulus_Cmp]
  by_cases k : a < 2 * F.sg ∧ b < 2 * F.sg
  · have c1 := pair_Class (G := G) (T := T) hD hU F k.1 k.2
    have c2 := pair_Class_bad (G := G) (T := T) hD hU F hc hd (fun q => h ⟨k, q⟩)
    generalize zcl (F.cls a) (F.cls b) = x at *
    simp only [zA] at *
    repeat' (first | (simp (maxSteps := 1000000) only [evB, if_true, if_false, ne_eq, Nat.reduceEqDiff, Nat.reduceAdd, reduceCtorEq, Int.reduceLE, Int.reduceLT, Int.reduceEq, Int.reduceNeg, Int.reduceToNat, Int.reducePow, Int.reduceMod, Int.reduceDiv, Int.reduceSub, Int.reduceAdd, Int.reduceMul, Nat.reduceMul, Nat.reduceSub, Nat.reducePow, exB, resC_ptr, res_cell, nilb, nilf, faddr_p, c_modulus_Cmp, c1, c2]) | (simp (maxSteps := 1000000) (disch := first | with_reducible assumption | omega) only [dxB]) | (simp only [kI_d, kG_dt, kG_df]; split) | (simp only [kI_v, kG_vt, kG_vf]; split))
  · have c1 := pair_Class_bad (G := G) (T := T) hD hU F ha hb k
    simp only [zA] at *
    repeat' (first | (simp (maxSteps := 1000000) only [evB, if_true, if_false, ne_eq, Nat.reduceEqDiff, Nat.reduceAdd, reduceCtorEq, Int.reduceLE, Int.reduceLT, Int.reduceEq, Int.reduceNeg, Int.reduceToNat, Int.reducePow, Int.reduceMod, Int.reduceDiv, Int.reduceSub, Int.reduceAdd, Int.reduceMul, Nat.reduceMul, Nat.reduceSub, Nat.reducePow, exB, resC_ptr, res_cell, nilb, nilf, faddr_p, c_modulus_Cmp, c1]) | (simp (maxSteps := 1000000) (disch := first | with_reducible assumption | omega) only [dxB]) | (simp only [kI_d, kG_dt, kG_df]; split) | (simp only [kI_v, kG_vt, kG_vf]; split))
theorem modulus_Cmp_no (hD : HasD g T) (hU : HasG g T) {f : Int} (h : ¬ (f = 1 ∨ f = 2)) {a b c d : Nat} : run G T 174 [.int .u8 f, zA a b, zA c d] = some (.tup [.int .u8 0, .int .i64 4]) := by
  rw [run_k G T hU.modulus_Cmp]
  have c1 := pair_Class_no (G := G) (T := T) hD hU h (a := a) (b := b)
  simp only [zA] at *
  repeat' (first | (simp (maxSteps := 1000000) only [evB, if_true, if_false, ne_eq, Nat.reduceEqDiff, Nat.reduceAdd, reduceCtorEq, Int.reduceLE, Int.reduceLT, Int.reduceEq, Int.reduceNeg, Int.reduceToNat, Int.reducePow, Int.reduceMod, Int.reduceDiv, Int.reduceSub, Int.reduceAdd, Int.reduceMul, Nat.reduceMul, Nat.reduceSub, Nat.reducePow, exB, resC_ptr, res_cell, nilb, nilf, faddr_p, c_modulus_Cmp, c1]) | (simp (maxSteps := 1000000) (disch := first | with_reducible assumption | omega) only [dxB]) | (simp only [kI_d, kG_dt, kG_df]; split) | (simp only [kI_v, kG_vt, kG_vf]; split))
end Go.Cv

/-
  The document's moduli; what is refused.
-/
namespace Go.Cv
variable {G : Nat → Option (List AV)} {T : Tbl} {g : Nat}

theorem ref10_Class (hD : HasD g T) (hF : HasF g T) (hV : HasH g T) (F : Fm) {a b : Nat} (ha : a < 2 * F.sg) (hb : b < 2 * F.sg) : run G T 237 [.int .u8 F.u, zA a b] = some (.int .u8 (zcl (F.cls a) (F.cls b))) := by
  rw [run_k G T hV.ref10_Class]
  have h1 := ref03_Class (G := G) (T := T) hD hF F (sg_64 ha)
  have h2 := ref03_Class (G := G) (T := T) hD hF F (sg_64 hb)
  unfold zcl
  generalize F.cls a = c at *
  generalize F.cls b = d at *
  simp only [zA] at *
  by_cases q4 : c = 4 ∨ d = 4
  · rw [if_pos q4]
    by_cases k : c = 4
    · repeat' (first | (simp (maxSteps := 1000000) only [evB, if_true, if_false, ne_eq, Nat.reduceEqDiff, Nat.reduceAdd, reduceCtorEq, Int.reduceLE, Int.reduceLT, Int.reduceEq, Int.reduceNeg, Int.reduceToNat, Int.reducePow, Int.reduceMod, Int.reduceDiv, Int.reduceSub, Int.reduceAdd, Int.reduceMul, Nat.reduceMul, Nat.reduceSub, Nat.reducePow, exB, resC_ptr, res_cell, nilb, nilf, faddr_p, c_ref10_Class, h1, h2, k]) | (simp (maxSteps := 1000000) (disch := first | with_reducible assumption | omega) only [dxB]) | (simp only [kI_d, kG_dt, kG_df]; split) | (simp only [kI_v, kG_vt, kG_vf]; split))
    · have k2 : d = 4 := by omega
      repeat' (first | (simp (maxSteps := 1000000) only [evB, if_true, if_false, ne_eq, Nat.reduceEqDiff, Nat.reduceAdd, reduceCtorEq, Int.reduceLE, Int.reduceLT, Int.reduceEq, Int.reduceNeg, Int.reduceToNat, Int.reducePow, Int.reduceMod, Int.reduceDiv, Int.reduceSub, Int.reduceAdd, Int.reduceMul, Nat.reduceMul, Nat.reduceSub, Nat.reducePow, exB, resC_ptr, res_cell, nilb, nilf, faddr_p, c_ref10_Class, h1, h2, k, k2]) | (simp (maxSteps := 1000000) (disch := first | with_reducible assumption | omega) only [dxB]) | (simp only [kI_d, kG_dt, kG_df]; split) | (simp only [kI_v, kG_vt, kG_vf]; split))
  · rw [if_neg q4]
    have k1 : ¬ c = 4 := by omega
    have k2 : ¬ d = 4 := by omega
    by_cases q5 : c = 5 ∨ d = 5
    · rw [if_pos q5]
      by_cases k : c = 5
      · subst k; repeat' (first | (simp (maxSteps := 1000000) only [evB, if_true, if_false, ne_eq, Nat.reduceEqDiff, Nat.reduceAdd, reduceCtorEq, Int.reduceLE, Int.reduceLT, Int.reduceEq, Int.reduceNeg, Int.reduceToNat, Int.reducePow, Int.reduceMod, Int.reduceDiv, Int.reduceSub, Int.reduceAdd, Int.reduceMul, Nat.reduceMul, Nat.reduceSub, Nat.reducePow, exB, resC_ptr, res_cell, nilb, nilf, faddr_p, c_ref10_Class, h1, h2, k2]) | (simp (maxSteps := 1000000) (disch := first | with_reducible assumption | omega) only [dxB]) | (simp only [kI_d, kG_dt, kG_df]; split) | (simp only [kI_v, kG_vt, kG_vf]; split))
      · have k3 : d = 5 := by omega
        subst k3; repeat' (first | (simp (maxSteps := 1000000) only [evB, if_true, if_false, ne_eq, Nat.reduceEqDiff, Nat.reduceAdd, reduceCtorEq, Int.reduceLE, Int.reduceLT, Int.reduceEq, Int.reduceNeg, Int.reduceToNat, Int.reducePow, Int.reduceMod, Int.reduceDiv, Int.reduceSub, Int.reduceAdd, Int.reduceMul, Nat.reduceMul, Nat.reduceSub, Nat.reducePow, exB, resC_ptr, res_cell, nilb, nilf, faddr_p, c_ref10_Class, h1, h2, k, k1]) | (simp (maxSteps := 1000000) (disch := first | with_reducible assumption | omega) only [dxB]) | (simp only [kI_d, kG_dt, kG_df]; split) | (simp only [kI_v, kG_vt, kG_vf]; split))
    · rw [if_neg q5]
      have k3 : ¬ c = 5 := by omega
      have k4 : ¬ d = 5 := by omega
      by_cases q1 : c = 1 ∧ d = 1
      · rw [if_pos q1]
        obtain ⟨rfl, rfl⟩ := q1
        repeat' (first | (simp (maxSteps := 1000000) only [evB, if_true, if_false, ne_eq, Nat.reduceEqDiff, Nat.reduceAdd, reduceCtorEq, Int.reduceLE, Int.reduceLT, Int.reduceEq, Int.reduceNeg, Int.reduceToNat, Int.reducePow, Int.reduceMod, Int.reduceDiv, Int.reduceSub, Int.reduceAdd, Int.reduceMul, Nat.reduceMul, Nat.reduceSub, Nat.reducePow, exB, resC_ptr, res_cell, nilb, nilf, faddr_p, c_ref10_Class, h1, h2]) | (simp (maxSteps := 1000000) (disch := first | with_reducible assumption | omega) only [dxB]) | (simp only [kI_d, kG_dt, kG_df]; split) | (simp only [kI_v, kG_vt, kG_vf]; split))
      · rw [if_neg q1]
        by_cases k5 : c = 1
        · have k6 : ¬ d = 1 := fun h => q1 ⟨k5, h⟩
          subst k5; repeat' (first | (simp (maxSteps := 1000000) only [evB, if_true, if_false, ne_eq, Nat.reduceEqDiff, Nat.reduceAdd, reduceCtorEq, Int.reduceLE, Int.reduceLT, Int.reduceEq, Int.reduceNeg, Int.reduceToNat, Int.reducePow, Int.reduceMod, Int.reduceDiv, Int.reduceSub, Int.reduceAdd, Int.reduceMul, Nat.reduceMul, Nat.reduceSub, Nat.reducePow, exB, resC_ptr, res_cell, nilb, nilf, faddr_p, c_ref10_Class, h1, h2, k2, k4, k6]) | (simp (maxSteps := 1000000) (disch := first | with_reducible assumption | omega) only [dxB]) | (simp only [kI_d, kG_dt, kG_df]; split) | (simp only [kI_v, kG_vt, kG_vf]; split))
        · repeat' (first | (simp (maxSteps := 1000000) only [evB, if_true, if_false, ne_eq, Nat.reduceEqDiff, Nat.reduceAdd, reduceCtorEq, Int.reduceLE, Int.reduceLT, Int.reduceEq, Int.reduceNeg, Int.reduceToNat, Int.reducePow, Int.reduceMod, Int.reduceDiv, Int.reduceSub, Int.reduceAdd, Int.reduceMul, Nat.reduceMul, Nat.reduceSub, Nat.reducePow, exB, resC_ptr, res_cell, nilb, nilf, faddr_p, c_ref10_Class, h1, h2, k1, k2, k3, k4, k5]) | (simp (maxSteps := 1000000) (disch := first | with_reducible assumption | omega) only [dxB]) | (simp only [kI_d, kG_dt, kG_df]; split) | (simp only [kI_v, kG_vt, kG_vf]; split))

theorem zcl_fin {F : Fm} {a b : Nat} (h3 : zcl (F.cls a) (F.cls b) ≠ 3) (h4 : zcl (F.cls a) (F.cls b) ≠ 4) : F.fin a ∧ F.fin b := by
  have ra := cls_range F a
  have rb := cls_range F b
  unfold zcl at h3 h4
  have k1 : ¬ (F.cls a = 4 ∨ F.cls b = 4) := fun h => h3 (if_pos h)
  rw [if_neg k1] at h4
  have k2 : ¬ (F.cls a = 5 ∨ F.cls b = 5) := fun h => h4 (if_pos h)
  exact ⟨fin_iff.2 (by omega), fin_iff.2 (by omega)⟩

theorem ref13_Square (hA : HasA g T) (hB : HasB g T) (hC : HasC g T) (hD : HasD g T) (hF : HasF g T) (hV : HasH g T) (F : Fm) {a b : Nat} (ha : a < 2 * F.sg) (hb : b < 2 * F.sg) (fa : F.fin a) (fb : F.fin b) :
    ∃ z, run G T 236 [.int .u8 F.u, zA a b] = some (DyA z (sqD F a b)) := by
  obtain ⟨z1, v1⟩ := ref03_Value (G := G) (T := T) hA hB hC hD hF F (sg_64 ha) fa
  obtain ⟨z2, v2⟩ := ref03_Value (G := G) (T := T) hA hB hC hD hF F (sg_64 hb) fb
  rw [← vl_val fa] at v1
  rw [← vl_val fb] at v2
  obtain ⟨p1, p2, p3⟩ := Bd_vl F a
  obtain ⟨q1, q2, q3⟩ := Bd_vl F b
  have hl1 := dl_len_blen (F.vl a).m
  have hl2 := dl_len_blen (F.vl b).m
  obtain ⟨z3, m1⟩ := ref02_Mul (G := G) (T := T) hB hC hF (z := z1) (y := z1) (a := F.vl a) (b := F.vl a) (by omega) (by omega) (by omega) (by omega)
  obtain ⟨z4, m2⟩ := ref02_Mul (G := G) (T := T) hB hC hF (z := z2) (y := z2) (a := F.vl b) (b := F.vl b) (by omega) (by omega) (by omega) (by omega)
  obtain ⟨z5, s1⟩ := ref02_Add (G := G) (T := T) hB hC (z := z3) (y := z4) (a := mulD (F.vl a) (F.vl a)) (b := mulD (F.vl b) (F.vl b)) ((Bd_mul (Bd_vl F a) (Bd_vl F a)).mono (by decide)) ((Bd_mul (Bd_vl F b) (Bd_vl F b)).mono (by decide))
  refine ⟨z5, ?_⟩
  rw [show mkD ((F.vl a).n != (F.vl a).n) ((F.vl a).m * (F.vl a).m) ((F.vl a).e + (F.vl a).e) = mulD (F.vl a) (F.vl a) from rfl] at m1
  rw [show mkD ((F.vl b).n != (F.vl b).n) ((F.vl b).m * (F.vl b).m) ((F.vl b).e + (F.vl b).e) = mulD (F.vl b) (F.vl b) from rfl] at m2
  rw [run_k G T hV.ref13_Square]
  unfold sqD
  generalize addD (mulD (F.vl a) (F.vl a)) (mulD (F.vl b) (F.vl b)) = d at *
  generalize mulD (F.vl a) (F.vl a) = p at *
  generalize mulD (F.vl b) (F.vl b) = q at *
  generalize F.vl a = va at *
  generalize F.vl b = vb at *
  simp only [zA, DyA, A3] at *
  repeat' (first | (simp (maxSteps := 1000000) only [evB, if_true, if_false, ne_eq, Nat.reduceEqDiff, Nat.reduceAdd, reduceCtorEq, Int.reduceLE, Int.reduceLT, Int.reduceEq, Int.reduceNeg, Int.reduceToNat, Int.reducePow, Int.reduceMod, Int.reduceDiv, Int.reduceSub, Int.reduceAdd, Int.reduceMul, Nat.reduceMul, Nat.reduceSub, Nat.reducePow, exB, resC_ptr, res_cell, nilb, nilf, faddr_p, c_ref13_Square, v1, v2, m1, m2, s1]) | (simp (maxSteps := 1000000) (disch := first | with_reducible assumption | omega) only [dxB]) | (simp only [kI_d, kG_dt, kG_df]; split) | (simp only [kI_v, kG_vt, kG_vf]; split))

theorem ref13_ends (hD : HasD g T) (hF : HasF g T) (hV : HasH g T) (F : Fm) {a b : Nat} (ha : a < 2 * F.sg) (hb : b < 2 * F.sg) :
    (zcl (F.cls a) (F.cls b) = 3 ∧ run G T 235 [.int .u8 F.u, zA a b] = some (.tup [.int .u64 ((F.inf false : Nat) : Int), .bool true])) ∨
    (zcl (F.cls a) (F.cls b) = 4 ∧ run G T 235 [.int .u8 F.u, zA a b] = some (.tup [.int .u64 (F.nan : Int), .bool true])) ∨
    ((zcl (F.cls a) (F.cls b) ≠ 3 ∧ zcl (F.cls a) (F.cls b) ≠ 4) ∧ run G T 235 [.int .u8 F.u, zA a b] = some (.tup [.int .u64 0, .bool false])) := by
  have c1 := ref10_Class (G := G) (T := T) hD hF hV F ha hb
  have i1 := ref03_Inf (G := G) (T := T) hD F (n := false)
  have n1 := ref03_None (G := G) (T := T) hD hF F
  rw [run_k G T hV.ref13_ends]
  generalize zcl (F.cls a) (F.cls b) = c at *
  simp only [zA] at *
  by_cases k3 : c = 3
  · left; refine ⟨k3, ?_⟩
    subst k3
    repeat' (first | (simp (maxSteps := 1000000) only [evB, if_true, if_false, ne_eq, Nat.reduceEqDiff, Nat.reduceAdd, reduceCtorEq, Int.reduceLE, Int.reduceLT, Int.reduceEq, Int.reduceNeg, Int.reduceToNat, Int.reducePow, Int.reduceMod, Int.reduceDiv, Int.reduceSub, Int.reduceAdd, Int.reduceMul, Nat.reduceMul, Nat.reduceSub, Nat.reducePow, exB, resC_ptr, res_cell, nilb, nilf, faddr_p, c_ref13_ends, c1, i1]) | (simp (maxSteps := 1000000) (disch := first | with_reducible assumption | omega) only [dxB]) | (simp only [kI_d, kG_dt, kG_df]; split) | (simp only [kI_v, kG_vt, kG_vf]; split))
  · right
    by_cases k4 : c = 4
    · left; refine ⟨k4, ?_⟩
      subst k4
      repeat' (first | (simp (maxSteps := 1000000) only [evB, if_true, if_false, ne_eq, Nat.reduceEqDiff, Nat.reduceAdd, reduceCtorEq, Int.reduceLE, Int.reduceLT, Int.reduceEq, Int.reduceNeg, Int.reduceToNat, Int.reducePow, Int.reduceMod, Int.reduceDiv, Int.reduceSub, Int.reduceAdd, Int.reduceMul, Nat.reduceMul, Nat.reduceSub, Nat.reducePow, exB, resC_ptr, res_cell, nilb, nilf, faddr_p, c_ref13_ends, c1, n1]) | (simp (maxSteps := 1000000) (disch := first | with_reducible assumption | omega) only [dxB]) | (simp only [kI_d, kG_dt, kG_df]; split) | (simp only [kI_v, kG_vt, kG_vf]; split))
    · right; refine ⟨⟨k3, k4⟩, ?_⟩
      repeat' (first | (simp (maxSteps := 1000000) only [evB, if_true, if_false, ne_eq, Nat.reduceEqDiff, Nat.reduceAdd, reduceCtorEq, Int.reduceLE, Int.reduceLT, Int.reduceEq, Int.reduceNeg, Int.reduceToNat, Int.reducePow, Int.reduceMod, Int.reduceDiv, Int.reduceSub, Int.reduceAdd, Int.reduceMul, Nat.reduceMul, Nat.reduceSub, Nat.reducePow, exB, resC_ptr, res_cell, nilb, nilf, faddr_p, c_ref13_ends, c1, k3, k4]) | (simp (maxSteps := 1000000) (disch := first | with_reducible assumption | omega) only [dxB]) | (simp only [kI_d, kG_dt, kG_df]; split) | (simp only [kI_v, kG_vt, kG_vf]; split))

theorem ref13_Norm (hA : HasA g T) (hB : HasB g T) (hC : HasC g T) (hD : HasD g T) (hE : HasE g T) (hF : HasF g T) (hV : HasH g T) (F : Fm) {md : Int} (hm : 1 ≤ md ∧ md ≤ 5) {a b : Nat} (ha : a < 2 * F.sg) (hb : b < 2 * F.sg) :
    run G T 228 [.int .u8 F.u, .int .u8 md, zA a b] = some (.tup [.int .u64 ((normZ F md a b).1 : Int), .int .u8 ((normZ F md a b).2 : Int)]) := by
  rw [run_k G T hV.ref13_Norm]
  unfold normZ toldW
  rcases ref13_ends (G := G) (T := T) hD hF hV F ha hb with ⟨k, e1⟩ | ⟨k, e1⟩ | ⟨⟨k3, k4⟩, e1⟩
  · rw [if_pos k]
    simp only [zA] at *
    repeat' (first | (simp (maxSteps := 1000000) only [evB, if_true, if_false, ne_eq, Nat.reduceEqDiff, Nat.reduceAdd, reduceCtorEq, Int.reduceLE, Int.reduceLT, Int.reduceEq, Int.reduceNeg, Int.reduceToNat, Int.reducePow, Int.reduceMod, Int.reduceDiv, Int.reduceSub, Int.reduceAdd, Int.reduceMul, Nat.reduceMul, Nat.reduceSub, Nat.reducePow, exB, resC_ptr, res_cell, nilb, nilf, faddr_p, c_ref13_Norm, e1]) | (simp (maxSteps := 1000000) (disch := first | with_reducible assumption | omega) only [dxB]) | (simp only [kI_d, kG_dt, kG_df]; split) | (simp only [kI_v, kG_vt, kG_vf]; split))
    all_goals rfl
  · rw [if_neg (by omega), if_pos k]
    simp only [zA] at *
    repeat' (first | (simp (maxSteps := 1000000) only [evB, if_true, if_false, ne_eq, Nat.reduceEqDiff, Nat.reduceAdd, reduceCtorEq, Int.reduceLE, Int.reduceLT, Int.reduceEq, Int.reduceNeg, Int.reduceToNat, Int.reducePow, Int.reduceMod, Int.reduceDiv, Int.reduceSub, Int.reduceAdd, Int.reduceMul, Nat.reduceMul, Nat.reduceSub, Nat.reducePow, exB, resC_ptr, res_cell, nilb, nilf, faddr_p, c_ref13_Norm, e1]) | (simp (maxSteps := 1000000) (disch := first | with_reducible assumption | omega) only [dxB]) | (simp only [kI_d, kG_dt, kG_df]; split) | (simp only [kI_v, kG_vt, kG_vf]; split))
    all_goals rfl
  · rw [if_neg k3, if_neg k4]
    obtain ⟨fa, fb⟩ := zcl_fin k3 k4
    obtain ⟨z, s1⟩ := ref13_Square (G := G) (T := T) hA hB hC hD hF hV F ha hb fa fb
    have r1 := ref04_Round (G := G) (T := T) hB hC hD hE F hm (z := z) (Nz_sq F a b) ((Bd_sq F a b).mono (by decide))
    generalize rndW F md (sqD F a b) = S at *
    generalize sqD F a b = d at *
    simp only [zA, DyA, A3] at *
    repeat' (first | (simp (maxSteps := 1000000) only [evB, if_true, if_false, ne_eq, Nat.reduceEqDiff, Nat.reduceAdd, reduceCtorEq, Int.reduceLE, Int.reduceLT, Int.reduceEq, Int.reduceNeg, Int.reduceToNat, Int.reducePow, Int.reduceMod, Int.reduceDiv, Int.reduceSub, Int.reduceAdd, Int.reduceMul, Nat.reduceMul, Nat.reduceSub, Nat.reducePow, exB, resC_ptr, res_cell, nilb, nilf, faddr_p, c_ref13_Norm, e1, s1, r1]) | (simp (maxSteps := 1000000) (disch := first | with_reducible assumption | omega) only [dxB]) | (simp only [kI_d, kG_dt, kG_df]; split) | (simp only [kI_v, kG_vt, kG_vf]; split))
    all_goals try rfl
theorem ref13_Abs (hA : HasA g T) (hB : HasB g T) (hC : HasC g T) (hD : HasD g T) (hE : HasE g T) (hF : HasF g T) (hV : HasH g T) (F : Fm) {md : Int} (hm : 1 ≤ md ∧ md ≤ 5) {a b : Nat} (ha : a < 2 * F.sg) (hb : b < 2 * F.sg) :
    run G T 227 [.int .u8 F.u, .int .u8 md, zA a b] = some (.tup [.int .u64 ((absZ F md a b).1 : Int), .int .u8 ((absZ F md a b).2 : Int)]) := by
  rw [run_k G T hV.ref13_Abs]
  unfold absZ toldW
  rcases ref13_ends (G := G) (T := T) hD hF hV F ha hb with ⟨k, e1⟩ | ⟨k, e1⟩ | ⟨⟨k3, k4⟩, e1⟩
  · rw [if_pos k]
    simp only [zA] at *
    repeat' (first | (simp (maxSteps := 1000000) only [evB, if_true, if_false, ne_eq, Nat.reduceEqDiff, Nat.reduceAdd, reduceCtorEq, Int.reduceLE, Int.reduceLT, Int.reduceEq, Int.reduceNeg, Int.reduceToNat, Int.reducePow, Int.reduceMod, Int.reduceDiv, Int.reduceSub, Int.reduceAdd, Int.reduceMul, Nat.reduceMul, Nat.reduceSub, Nat.reducePow, exB, resC_ptr, res_cell, nilb, nilf, faddr_p, c_ref13_Abs, e1]) | (simp (maxSteps := 1000000) (disch := first | with_reducible assumption | omega) only [dxB]) | (simp only [kI_d, kG_dt, kG_df]; split) | (simp only [kI_v, kG_vt, kG_vf]; split))
    all_goals rfl
  · rw [if_neg (by omega), if_pos k]
    simp only [zA] at *
    repeat' (first | (simp (maxSteps := 1000000) only [evB, if_true, if_false, ne_eq, Nat.reduceEqDiff, Nat.reduceAdd, reduceCtorEq, Int.reduceLE, Int.reduceLT, Int.reduceEq, Int.reduceNeg, Int.reduceToNat, Int.reducePow, Int.reduceMod, Int.reduceDiv, Int.reduceSub, Int.reduceAdd, Int.reduceMul, Nat.reduceMul, Nat.reduceSub, Nat.reducePow, exB, resC_ptr, res_cell, nilb, nilf, faddr_p, c_ref13_Abs, e1]) | (simp (maxSteps := 1000000) (disch := first | with_reducible assumption | omega) only [dxB]) | (simp only [kI_d, kG_dt, kG_df]; split) | (simp only [kI_v, kG_vt, kG_vf]; split))
    all_goals rfl
  · rw [if_neg k3, if_neg k4]
    obtain ⟨fa, fb⟩ := zcl_fin k3 k4
    obtain ⟨z, s1⟩ := ref13_Square (G := G) (T := T) hA hB hC hD hF hV F ha hb fa fb
    have r1 : run G T 19 [.int .u8 F.u, .int .u8 md, DyA z (sqD F a b)] = some (.tup [.int .u64 ((rtW F md (sqD F a b)).1 : Int), .int .u8 ((rtW F md (sqD F a b)).2 : Int)]) := by
      unfold rtW
      have hb1 := (Bd_sq F a b).bl
      by_cases h0 : (sqD F a b).m = 0
      · rw [if_pos h0]; exact ref04_Root_zero (G := G) (T := T) hC hE F h0
      · rw [if_neg h0]; exact ref04_Root (G := G) (T := T) hB hC hD hE F hm h0 ((Bd_sq F a b).mono (by decide)) (by omega)
    generalize rtW F md (sqD F a b) = S at *
    generalize sqD F a b = d at *
    simp only [zA, DyA, A3] at *
    repeat' (first | (simp (maxSteps := 1000000) only [evB, if_true, if_false, ne_eq, Nat.reduceEqDiff, Nat.reduceAdd, reduceCtorEq, Int.reduceLE, Int.reduceLT, Int.reduceEq, Int.reduceNeg, Int.reduceToNat, Int.reducePow, Int.reduceMod, Int.reduceDiv, Int.reduceSub, Int.reduceAdd, Int.reduceMul, Nat.reduceMul, Nat.reduceSub, Nat.reducePow, exB, resC_ptr, res_cell, nilb, nilf, faddr_p, c_ref13_Abs, e1, s1, r1]) | (simp (maxSteps := 1000000) (disch := first | with_reducible assumption | omega) only [dxB]) | (simp only [kI_d, kG_dt, kG_df]; split) | (simp only [kI_v, kG_vt, kG_vf]; split))
    all_goals try rfl
theorem ref13_Cmp (hA : HasA g T) (hB : HasB g T) (hC : HasC g T) (hD : HasD g T) (hF : HasF g T) (hV : HasH g T) (F : Fm) {a b c d : Nat} (ha : a < 2 * F.sg) (hb : b < 2 * F.sg) (hc : c < 2 * F.sg) (hd : d < 2 * F.sg) :
    run G T 229 [.int .u8 F.u, zA a b, zA c d] = some (.int .u8 (cmpZ F a b c d)) := by
  rw [run_k G T hV.ref13_Cmp]
  have c1 := ref10_Class (G := G) (T := T) hD hF hV F ha hb
  have c2 := ref10_Class (G := G) (T := T) hD hF hV F hc hd
  have hs : zcl (F.cls a) (F.cls b) ≠ 3 → zcl (F.cls a) (F.cls b) ≠ 4 → zcl (F.cls c) (F.cls d) ≠ 3 → zcl (F.cls c) (F.cls d) ≠ 4 → ∃ z1 z2, run G T 236 [.int .u8 F.u, zA a b] = some (DyA z1 (sqD F a b)) ∧ run G T 236 [.int .u8 F.u, zA c d] = some (DyA z2 (sqD F c d)) ∧
      run G T 69 [DyA z1 (sqD F a b), DyA z2 (sqD F c d)] = some (.int .i64 (cmpD (sqD F a b) (sqD F c d))) := fun k1 k2 k3 k4 => by
    obtain ⟨fa, fb⟩ := zcl_fin k1 k2
    obtain ⟨fc, fd⟩ := zcl_fin k3 k4
    obtain ⟨z1, s1⟩ := ref13_Square (G := G) (T := T) hA hB hC hD hF hV F ha hb fa fb
    obtain ⟨z2, s2⟩ := ref13_Square (G := G) (T := T) hA hB hC hD hF hV F hc hd fc fd
    exact ⟨z1, z2, s1, s2, ref02_Cmp (G := G) (T := T) hB hC (z := z1) (y := z2) (a := sqD F a b) (b := sqD F c d) ((Bd_sq F a b).mono (by decide)) ((Bd_sq F c d).mono (by decide))⟩
  have hv := cmpD_val (sqD F a b) (sqD F c d)
  unfold cmpZ
  generalize zcl (F.cls a) (F.cls b) = x at *
  generalize zcl (F.cls c) (F.cls d) = y at *
  generalize cmpD (sqD F a b) (sqD F c d) = q at *
  generalize sqD F a b = p1 at *
  generalize sqD F c d = p2 at *
  simp only [zA, DyA, A3] at *
  by_cases q4 : x = 4 ∨ y = 4
  · rw [if_pos q4]
    clear hs
    by_cases k : x = 4
    · subst k; repeat' (first | (simp (maxSteps := 1000000) only [evB, if_true, if_false, ne_eq, Nat.reduceEqDiff, Nat.reduceAdd, reduceCtorEq, Int.reduceLE, Int.reduceLT, Int.reduceEq, Int.reduceNeg, Int.reduceToNat, Int.reducePow, Int.reduceMod, Int.reduceDiv, Int.reduceSub, Int.reduceAdd, Int.reduceMul, Nat.reduceMul, Nat.reduceSub, Nat.reducePow, exB, resC_ptr, res_cell, nilb, nilf, faddr_p, c_ref13_Cmp, c1, c2]) | (simp (maxSteps := 1000000) (disch := first | with_reducible assumption | omega) only [dxB]) | (simp only [kI_d, kG_dt, kG_df]; split) | (simp only [kI_v, kG_vt, kG_vf]; split))
    · have k2 : y = 4 := by omega
      subst k2; repeat' (first | (simp (maxSteps := 1000000) only [evB, if_true, if_false, ne_eq, Nat.reduceEqDiff, Nat.reduceAdd, reduceCtorEq, Int.reduceLE, Int.reduceLT, Int.reduceEq, Int.reduceNeg, Int.reduceToNat, Int.reducePow, Int.reduceMod, Int.reduceDiv, Int.reduceSub, Int.reduceAdd, Int.reduceMul, Nat.reduceMul, Nat.reduceSub, Nat.reducePow, exB, resC_ptr, res_cell, nilb, nilf, faddr_p, c_ref13_Cmp, c1, c2, k]) | (simp (maxSteps := 1000000) (disch := first | with_reducible assumption | omega) only [dxB]) | (simp only [kI_d, kG_dt, kG_df]; split) | (simp only [kI_v, kG_vt, kG_vf]; split))
  · rw [if_neg q4]
    have n1 : ¬ x = 4 := by omega
    have n2 : ¬ y = 4 := by omega
    by_cases x3 : x = 3
    · clear hs
      by_cases y3 : y = 3
      · rw [if_pos ⟨x3, y3⟩]
        subst x3 y3; repeat' (first | (simp (maxSteps := 1000000) only [evB, if_true, if_false, ne_eq, Nat.reduceEqDiff, Nat.reduceAdd, reduceCtorEq, Int.reduceLE, Int.reduceLT, Int.reduceEq, Int.reduceNeg, Int.reduceToNat, Int.reducePow, Int.reduceMod, Int.reduceDiv, Int.reduceSub, Int.reduceAdd, Int.reduceMul, Nat.reduceMul, Nat.reduceSub, Nat.reducePow, exB, resC_ptr, res_cell, nilb, nilf, faddr_p, c_ref13_Cmp, c1, c2]) | (simp (maxSteps := 1000000) (disch := first | with_reducible assumption | omega) only [dxB]) | (simp only [kI_d, kG_dt, kG_df]; split) | (simp only [kI_v, kG_vt, kG_vf]; split))
      · rw [if_neg (fun h => y3 h.2), if_pos x3]
        subst x3; repeat' (first | (simp (maxSteps := 1000000) only [evB, if_true, if_false, ne_eq, Nat.reduceEqDiff, Nat.reduceAdd, reduceCtorEq, Int.reduceLE, Int.reduceLT, Int.reduceEq, Int.reduceNeg, Int.reduceToNat, Int.reducePow, Int.reduceMod, Int.reduceDiv, Int.reduceSub, Int.reduceAdd, Int.reduceMul, Nat.reduceMul, Nat.reduceSub, Nat.reducePow, exB, resC_ptr, res_cell, nilb, nilf, faddr_p, c_ref13_Cmp, c1, c2, n2, y3]) | (simp (maxSteps := 1000000) (disch := first | with_reducible assumption | omega) only [dxB]) | (simp only [kI_d, kG_dt, kG_df]; split) | (simp only [kI_v, kG_vt, kG_vf]; split))
    · rw [if_neg (fun h => x3 h.1), if_neg x3]
      by_cases y3 : y = 3
      · rw [if_pos y3]
        clear hs
        subst y3; repeat' (first | (simp (maxSteps := 1000000) only [evB, if_true, if_false, ne_eq, Nat.reduceEqDiff, Nat.reduceAdd, reduceCtorEq, Int.reduceLE, Int.reduceLT, Int.reduceEq, Int.reduceNeg, Int.reduceToNat, Int.reducePow, Int.reduceMod, Int.reduceDiv, Int.reduceSub, Int.reduceAdd, Int.reduceMul, Nat.reduceMul, Nat.reduceSub, Nat.reducePow, exB, resC_ptr, res_cell, nilb, nilf, faddr_p, c_ref13_Cmp, c1, c2, n1, x3]) | (simp (maxSteps := 1000000) (disch := first | with_reducible assumption | omega) only [dxB]) | (simp only [kI_d, kG_dt, kG_df]; split) | (simp only [kI_v, kG_vt, kG_vf]; split))
      · rw [if_neg y3]
        obtain ⟨z1, z2, s1, s2, k1⟩ := hs x3 n1 y3 n2
        clear hs
        rcases hv with rfl | rfl | rfl <;> (
          repeat' (first | (simp (maxSteps := 1000000) only [evB, if_true, if_false, ne_eq, Nat.reduceEqDiff, Nat.reduceAdd, reduceCtorEq, Int.reduceLE, Int.reduceLT, Int.reduceEq, Int.reduceNeg, Int.reduceToNat, Int.reducePow, Int.reduceMod, Int.reduceDiv, Int.reduceSub, Int.reduceAdd, Int.reduceMul, Nat.reduceMul, Nat.reduceSub, Nat.reducePow, exB, resC_ptr, res_cell, nilb, nilf, faddr_p, c_ref13_Cmp, c1, c2, n1, n2, x3, y3, s1, s2, k1]) | (simp (maxSteps := 1000000) (disch := first | with_reducible assumption | omega) only [dxB]) | (simp only [kI_d, kG_dt, kG_df]; split) | (simp only [kI_v, kG_vt, kG_vf]; split))
          all_goals try rfl)

theorem gd_loop (e : Env) (h : Heap) : evL G T c_ref10_Good_l1 e h = kS G T (evL G T c_ref10_Good_b1 (keepE [0, 1, 5] e) h) c_ref10_Good_l1 := s_loopc G T rfl e h
section
variable (x y u v : AV) (k : IntKind)
theorem i2_10 : iaddrV 2 (.imm 1 [x, y]) (.int k 0) = some (.iptr [x, y] 0) := rfl
theorem i2_20 : iaddrV 2 (.imm 2 [x, y, u, v]) (.int k 0) = some (.iptr [x, y, u, v] 0) := rfl
theorem i2_21 : iaddrV 2 (.imm 2 [x, y, u, v]) (.int k 1) = some (.iptr [x, y, u, v] 2) := rfl
theorem fa_i (off o : Nat) (cs : List AV) : faddrA off (.iptr cs o) = some (.iptr cs (o + off)) := rfl
theorem rp_3 (h : Mem) (l : List AV) : rdAt G h 1 (.iptr (x :: y :: u :: v :: l) 3) = some [v] := by simp [rdAt]
end
theorem st_bs2 (F : CallF) (d : Option Nat) (os : List IOper) (e : Env) (h : Heap) (n : Nat) (zero : List AV) (ps : List (Nat × Nat × IOpd)) : evOps G F (⟨d, .bslice n 2 zero ps, none⟩ :: os) e h =
    kBs G F (fillA (repA n zero) (ps.map fun (o, n, x) => (o, n, opd e x))) (.own h.b.length 0 n 2) d os e h := st_bslice G F d os e h n 2 zero ps
theorem ref10_Good_no (hD : HasD g T) (hU : HasG g T) {f : Int} (h : ¬ (f = 1 ∨ f = 2)) {v : AV} : run G T 185 [.int .u8 f, v] = some (.int .i64 4) := by
  rw [run_k G T hU.ref10_Good]
  have h1 := ref03_Is (G := G) (T := T) hD (f := f)
  rw [decide_eq_false h] at h1
  repeat' (first | (simp (maxSteps := 1000000) only [evB, if_true, if_false, ne_eq, Nat.reduceEqDiff, Nat.reduceAdd, reduceCtorEq, Int.reduceLE, Int.reduceLT, Int.reduceEq, Int.reduceNeg, Int.reduceToNat, Int.reducePow, Int.reduceMod, Int.reduceDiv, Int.reduceSub, Int.reduceAdd, Int.reduceMul, Nat.reduceMul, Nat.reduceSub, Nat.reducePow, exB, resC_ptr, res_cell, nilb, nilf, faddr_p, c_ref10_Good, h1]) | (simp (maxSteps := 1000000) (disch := first | with_reducible assumption | omega) only [dxB]) | (simp only [kI_d, kG_dt, kG_df]; split) | (simp only [kI_v, kG_vt, kG_vf]; split))
theorem ref10_Good1 (hD : HasD g T) (hF : HasF g T) (hU : HasG g T) (F : Fm) {a b : Nat} (ha : a < 18446744073709551616) (hb : b < 18446744073709551616) :
    run G T 185 [.int .u8 F.u, .imm 1 [.int .u64 (a : Int), .int .u64 (b : Int)]] = some (.int .i64 (if a < 2 * F.sg ∧ b < 2 * F.sg then 0 else 6)) := by
  rw [run_k G T hU.ref10_Good]
  have h1 := ref03_IsF (G := G) (T := T) hD F
  have h3 := ref03_Good (G := G) (T := T) hD hF F ha
  have h4 := ref03_Good (G := G) (T := T) hD hF F hb
  by_cases k1 : a < 2 * F.sg
  · rw [if_pos k1] at h3
    by_cases k2 : b < 2 * F.sg
    · rw [if_pos k2] at h4
      rw [if_pos ⟨k1, k2⟩]
      repeat' (first | (simp (maxSteps := 1000000) only [evB, if_true, if_false, ne_eq, Nat.reduceEqDiff, Nat.reduceAdd, reduceCtorEq, Int.reduceLE, Int.reduceLT, Int.reduceEq, Int.reduceNeg, Int.reduceToNat, Int.reducePow, Int.reduceMod, Int.reduceDiv, Int.reduceSub, Int.reduceAdd, Int.reduceMul, Nat.reduceMul, Nat.reduceSub, Nat.reducePow, exB, resC_ptr, res_cell, nilb, nilf, faddr_p, c_ref10_Good, h1, gd_loop, c_ref10_Good_b1, i2_10, fa_i, rp_0, rp_1, wr_1, wr1, h3, h4]) | (simp (maxSteps := 1000000) (disch := first | with_reducible assumption | omega) only [dxB]) | (simp only [kI_d, kG_dt, kG_df]; split) | (simp only [kI_v, kG_vt, kG_vf]; split))
    · rw [if_neg k2] at h4
      rw [if_neg (fun h => k2 h.2)]
      repeat' (first | (simp (maxSteps := 1000000) only [evB, if_true, if_false, ne_eq, Nat.reduceEqDiff, Nat.reduceAdd, reduceCtorEq, Int.reduceLE, Int.reduceLT, Int.reduceEq, Int.reduceNeg, Int.reduceToNat, Int.reducePow, Int.reduceMod, Int.reduceDiv, Int.reduceSub, Int.reduceAdd, Int.reduceMul, Nat.reduceMul, Nat.reduceSub, Nat.reducePow, exB, resC_ptr, res_cell, nilb, nilf, faddr_p, c_ref10_Good, h1, gd_loop, c_ref10_Good_b1, i2_10, fa_i, rp_0, rp_1, wr_1, wr1, h3, h4]) | (simp (maxSteps := 1000000) (disch := first | with_reducible assumption | omega) only [dxB]) | (simp only [kI_d, kG_dt, kG_df]; split) | (simp only [kI_v, kG_vt, kG_vf]; split))
  · rw [if_neg k1] at h3
    rw [if_neg (fun h => k1 h.1)]
    repeat' (first | (simp (maxSteps := 1000000) only [evB, if_true, if_false, ne_eq, Nat.reduceEqDiff, Nat.reduceAdd, reduceCtorEq, Int.reduceLE, Int.reduceLT, Int.reduceEq, Int.reduceNeg, Int.reduceToNat, Int.reducePow, Int.reduceMod, Int.reduceDiv, Int.reduceSub, Int.reduceAdd, Int.reduceMul, Nat.reduceMul, Nat.reduceSub, Nat.reducePow, exB, resC_ptr, res_cell, nilb, nilf, faddr_p, c_ref10_Good, h1, gd_loop, c_ref10_Good_b1, i2_10, fa_i, rp_0, rp_1, wr_1, wr1, h3]) | (simp (maxSteps := 1000000) (disch := first | with_reducible assumption | omega) only [dxB]) | (simp only [kI_d, kG_dt, kG_df]; split) | (simp only [kI_v, kG_vt, kG_vf]; split))
theorem ref10_Good2 (hD : HasD g T) (hF : HasF g T) (hU : HasG g T) (F : Fm) {a b c d : Nat} (ha : a < 18446744073709551616) (hb : b < 18446744073709551616) (hc : c < 18446744073709551616) (hd : d < 18446744073709551616) :
    run G T 185 [.int .u8 F.u, .imm 2 [.int .u64 (a : Int), .int .u64 (b : Int), .int .u64 (c : Int), .int .u64 (d : Int)]] = some (.int .i64 (if (a < 2 * F.sg ∧ b < 2 * F.sg) ∧ (c < 2 * F.sg ∧ d < 2 * F.sg) then 0 else 6)) := by
  rw [run_k G T hU.ref10_Good]
  have h1 := ref03_IsF (G := G) (T := T) hD F
  have h3 := ref03_Good (G := G) (T := T) hD hF F ha
  have h4 := ref03_Good (G := G) (T := T) hD hF F hb
  have h5 := ref03_Good (G := G) (T := T) hD hF F hc
  have h6 := ref03_Good (G := G) (T := T) hD hF F hd
  by_cases k1 : a < 2 * F.sg
  · rw [if_pos k1] at h3
    by_cases k2 : b < 2 * F.sg
    · rw [if_pos k2] at h4
      by_cases k3 : c < 2 * F.sg
      · rw [if_pos k3] at h5
        by_cases k4 : d < 2 * F.sg
        · rw [if_pos k4] at h6
          rw [if_pos ⟨⟨k1, k2⟩, k3, k4⟩]
          repeat' (first | (simp (maxSteps := 1000000) only [evB, if_true, if_false, ne_eq, Nat.reduceEqDiff, Nat.reduceAdd, reduceCtorEq, Int.reduceLE, Int.reduceLT, Int.reduceEq, Int.reduceNeg, Int.reduceToNat, Int.reducePow, Int.reduceMod, Int.reduceDiv, Int.reduceSub, Int.reduceAdd, Int.reduceMul, Nat.reduceMul, Nat.reduceSub, Nat.reducePow, exB, resC_ptr, res_cell, nilb, nilf, faddr_p, c_ref10_Good, h1, gd_loop, c_ref10_Good_b1, i2_20, i2_21, fa_i, rp_0, rp_1, rp_2, rp_3, wr_1, wr1, wr_2, wr2, h3, h4, h5, h6]) | (simp (maxSteps := 1000000) (disch := first | with_reducible assumption | omega) only [dxB]) | (simp only [kI_d, kG_dt, kG_df]; split) | (simp only [kI_v, kG_vt, kG_vf]; split))
        · rw [if_neg k4] at h6
          rw [if_neg (fun h => k4 h.2.2)]
          repeat' (first | (simp (maxSteps := 1000000) only [evB, if_true, if_false, ne_eq, Nat.reduceEqDiff, Nat.reduceAdd, reduceCtorEq, Int.reduceLE, Int.reduceLT, Int.reduceEq, Int.reduceNeg, Int.reduceToNat, Int.reducePow, Int.reduceMod, Int.reduceDiv, Int.reduceSub, Int.reduceAdd, Int.reduceMul, Nat.reduceMul, Nat.reduceSub, Nat.reducePow, exB, resC_ptr, res_cell, nilb, nilf, faddr_p, c_ref10_Good, h1, gd_loop, c_ref10_Good_b1, i2_20, i2_21, fa_i, rp_0, rp_1, rp_2, rp_3, wr_1, wr1, wr_2, wr2, h3, h4, h5, h6]) | (simp (maxSteps := 1000000) (disch := first | with_reducible assumption | omega) only [dxB]) | (simp only [kI_d, kG_dt, kG_df]; split) | (simp only [kI_v, kG_vt, kG_vf]; split))
      · rw [if_neg k3] at h5
        rw [if_neg (fun h => k3 h.2.1)]
        repeat' (first | (simp (maxSteps := 1000000) only [evB, if_true, if_false, ne_eq, Nat.reduceEqDiff, Nat.reduceAdd, reduceCtorEq, Int.reduceLE, Int.reduceLT, Int.reduceEq, Int.reduceNeg, Int.reduceToNat, Int.reducePow, Int.reduceMod, Int.reduceDiv, Int.reduceSub, Int.reduceAdd, Int.reduceMul, Nat.reduceMul, Nat.reduceSub, Nat.reducePow, exB, resC_ptr, res_cell, nilb, nilf, faddr_p, c_ref10_Good, h1, gd_loop, c_ref10_Good_b1, i2_20, i2_21, fa_i, rp_0, rp_1, rp_2, rp_3, wr_1, wr1, wr_2, wr2, h3, h4, h5]) | (simp (maxSteps := 1000000) (disch := first | with_reducible assumption | omega) only [dxB]) | (simp only [kI_d, kG_dt, kG_df]; split) | (simp only [kI_v, kG_vt, kG_vf]; split))
    · rw [if_neg k2] at h4
      rw [if_neg (fun h => k2 h.1.2)]
      repeat' (first | (simp (maxSteps := 1000000) only [evB, if_true, if_false, ne_eq, Nat.reduceEqDiff, Nat.reduceAdd, reduceCtorEq, Int.reduceLE, Int.reduceLT, Int.reduceEq, Int.reduceNeg, Int.reduceToNat, Int.reducePow, Int.reduceMod, Int.reduceDiv, Int.reduceSub, Int.reduceAdd, Int.reduceMul, Nat.reduceMul, Nat.reduceSub, Nat.reducePow, exB, resC_ptr, res_cell, nilb, nilf, faddr_p, c_ref10_Good, h1, gd_loop, c_ref10_Good_b1, i2_20, i2_21, fa_i, rp_0, rp_1, rp_2, rp_3, wr_1, wr1, wr_2, wr2, h3, h4]) | (simp (maxSteps := 1000000) (disch := first | with_reducible assumption | omega) only [dxB]) | (simp only [kI_d, kG_dt, kG_df]; split) | (simp only [kI_v, kG_vt, kG_vf]; split))
  · rw [if_neg k1] at h3
    rw [if_neg (fun h => k1 h.1.1)]
    repeat' (first | (simp (maxSteps := 1000000) only [evB, if_true, if_false, ne_eq, Nat.reduceEqDiff, Nat.reduceAdd, reduceCtorEq, Int.reduceLE, Int.reduceLT, Int.reduceEq, Int.reduceNeg, Int.reduceToNat, Int.reducePow, Int.reduceMod, Int.reduceDiv, Int.reduceSub, Int.reduceAdd, Int.reduceMul, Nat.reduceMul, Nat.reduceSub, Nat.reducePow, exB, resC_ptr, res_cell, nilb, nilf, faddr_p, c_ref10_Good, h1, gd_loop, c_ref10_Good_b1, i2_20, i2_21, fa_i, rp_0, rp_1, rp_2, rp_3, wr_1, wr1, wr_2, wr2, h3]) | (simp (maxSteps := 1000000) (disch := first | with_reducible assumption | omega) only [dxB]) | (simp only [kI_d, kG_dt, kG_df]; split) | (simp only [kI_v, kG_vt, kG_vf]; split))

theorem law13_opens_no (hD : HasD g T) (hU : HasG g T) {f md : Int} (h : ¬ (f = 1 ∨ f = 2)) {v : AV} : run G T 167 [.int .u8 f, .int .u8 md, v] = some (.int .i64 4) := by
  rw [run_k G T hU.law13_opens]
  have h1 := ref05_Opens_no (G := G) (T := T) hD hU h (md := md) (v := .nil)
  repeat' (first | (simp (maxSteps := 1000000) only [evB, if_true, if_false, ne_eq, Nat.reduceEqDiff, Nat.reduceAdd, reduceCtorEq, Int.reduceLE, Int.reduceLT, Int.reduceEq, Int.reduceNeg, Int.reduceToNat, Int.reducePow, Int.reduceMod, Int.reduceDiv, Int.reduceSub, Int.reduceAdd, Int.reduceMul, Nat.reduceMul, Nat.reduceSub, Nat.reducePow, exB, resC_ptr, res_cell, nilb, nilf, faddr_p, c_law13_opens, h1]) | (simp (maxSteps := 1000000) (disch := first | with_reducible assumption | omega) only [dxB]) | (simp only [kI_d, kG_dt, kG_df]; split) | (simp only [kI_v, kG_vt, kG_vf]; split))
theorem law13_opens_mode (hD : HasD g T) (hE : HasE g T) (hU : HasG g T) (F : Fm) {md : Int} (h : ¬ (1 ≤ md ∧ md ≤ 5)) {v : AV} : run G T 167 [.int .u8 F.u, .int .u8 md, v] = some (.int .i64 5) := by
  rw [run_k G T hU.law13_opens]
  have h1 := ref05_Opens_mode (G := G) (T := T) hD hE hU F h (v := .nil)
  repeat' (first | (simp (maxSteps := 1000000) only [evB, if_true, if_false, ne_eq, Nat.reduceEqDiff, Nat.reduceAdd, reduceCtorEq, Int.reduceLE, Int.reduceLT, Int.reduceEq, Int.reduceNeg, Int.reduceToNat, Int.reducePow, Int.reduceMod, Int.reduceDiv, Int.reduceSub, Int.reduceAdd, Int.reduceMul, Nat.reduceMul, Nat.reduceSub, Nat.reducePow, exB, resC_ptr, res_cell, nilb, nilf, faddr_p, c_law13_opens, h1]) | (simp (maxSteps := 1000000) (disch := first | with_reducible assumption | omega) only [dxB]) | (simp only [kI_d, kG_dt, kG_df]; split) | (simp only [kI_v, kG_vt, kG_vf]; split))
theorem law13_opens_k (hD : HasD g T) (hE : HasE g T) (hU : HasG g T) (F : Fm) {md : Int} (h : 1 ≤ md ∧ md ≤ 5) {n : Nat} {cs : List AV} {e : Int} (h2 : run G T 185 [.int .u8 F.u, .imm n cs] = some (.int .i64 e)) : run G T 167 [.int .u8 F.u, .int .u8 md, .imm n cs] = some (.int .i64 e) := by
  rw [run_k G T hU.law13_opens]
  have h1 := ref05_Opens0 (G := G) (T := T) hD hE hU F h
  repeat' (first | (simp (maxSteps := 1000000) only [evB, if_true, if_false, ne_eq, Nat.reduceEqDiff, Nat.reduceAdd, reduceCtorEq, Int.reduceLE, Int.reduceLT, Int.reduceEq, Int.reduceNeg, Int.reduceToNat, Int.reducePow, Int.reduceMod, Int.reduceDiv, Int.reduceSub, Int.reduceAdd, Int.reduceMul, Nat.reduceMul, Nat.reduceSub, Nat.reducePow, exB, resC_ptr, res_cell, nilb, nilf, faddr_p, c_law13_opens, h1, h2]) | (simp (maxSteps := 1000000) (disch := first | with_reducible assumption | omega) only [dxB]) | (simp only [kI_d, kG_dt, kG_df]; split) | (simp only [kI_v, kG_vt, kG_vf]; split))
end Go.Cv

/-
  The statements on moduli.
-/
namespace Go.Cv
variable {G : Nat → Option (List AV)} {T : Tbl} {g : Nat}

/-- Either it is refused, by all alike, or all is good. -/
theorem zopens1 (hD : HasD g T) (hE : HasE g T) (hF : HasF g T) (hU : HasG g T) {f md : Int} {a b : Nat} (ha : a < 18446744073709551616) (hb : b < 18446744073709551616) :
    (∃ e, e ≠ 0 ∧ run G T 167 [.int .u8 f, .int .u8 md, .imm 1 [.int .u64 (a : Int), .int .u64 (b : Int)]] = some (.int .i64 e) ∧ ∀ k, run G T 186 [.int .u8 f, .int .u8 md, zA a b, .fn k []] = some (.tup [.int .u64 0, .int .u8 0, .int .i64 e])) ∨
    (∃ F, f = Fm.u F ∧ (1 ≤ md ∧ md ≤ 5) ∧ (a < 2 * F.sg ∧ b < 2 * F.sg) ∧ run G T 167 [.int .u8 f, .int .u8 md, .imm 1 [.int .u64 (a : Int), .int .u64 (b : Int)]] = some (.int .i64 0)) := by
  by_cases hf : f = 1 ∨ f = 2
  · obtain ⟨F, rfl⟩ := fm_of hf
    by_cases hm : 1 ≤ md ∧ md ≤ 5
    · have h1 := ref10_Good1 (G := G) (T := T) hD hF hU F ha hb
      by_cases k1 : a < 2 * F.sg ∧ b < 2 * F.sg
      · rw [if_pos k1] at h1
        exact Or.inr ⟨F, rfl, hm, k1, law13_opens_k hD hE hU F hm h1⟩
      · rw [if_neg k1] at h1
        exact Or.inl ⟨6, by decide, law13_opens_k hD hE hU F hm h1, fun k => modulus_told_bad hD hE hU F hm ha hb k1⟩
    · exact Or.inl ⟨5, by decide, law13_opens_mode hD hE hU F hm, fun k => modulus_told_mode hE hU F hm⟩
  · exact Or.inl ⟨4, by decide, law13_opens_no hD hU hf, fun k => modulus_told_no hE hU hf⟩

theorem law13_ModulusSizes (hA : HasA g T) (hB : HasB g T) (hC : HasC g T) (hG : Glob G g) (hD : HasD g T) (hE : HasE g T) (hF : HasF g T) (hU : HasG g T) (hV : HasH g T) (hK : run G T 168 [] = some (.bool true))
    {f m : Int} {a b : Nat} (ha : a < 18446744073709551616) (hb : b < 18446744073709551616) :
    run G T 215 [.int .u8 f, .int .u8 m, .agg [.int .u64 (a : Int), .int .u64 (b : Int)]] = some (.bool true) := by
  rw [run_k G T hV.law13_ModulusSizes]
  rcases zopens1 (G := G) (T := T) (f := f) (md := m) hD hE hF hU ha hb with ⟨e, he, o1, o2⟩ | ⟨F, rfl, hm, ⟨k1, k2⟩, o1⟩
  · have r1 := modulus_Abs_err (G := G) (T := T) hU (o2 _)
    have r2 := modulus_Norm_err (G := G) (T := T) hU (o2 _)
    clear o2
    simp only [zA] at *
    repeat' (first | (simp (maxSteps := 1000000) only [evB, if_true, if_false, ne_eq, Nat.reduceEqDiff, Nat.reduceAdd, reduceCtorEq, Int.reduceLE, Int.reduceLT, Int.reduceEq, Int.reduceNeg, Int.reduceToNat, Int.reducePow, Int.reduceMod, Int.reduceDiv, Int.reduceSub, Int.reduceAdd, Int.reduceMul, Nat.reduceMul, Nat.reduceSub, Nat.reducePow, exB, resC_ptr, res_cell, nilb, nilf, faddr_p, c_law13_ModulusSizes, st_bs2, o1, r1, r2, he, hK]) | (simp (maxSteps := 1000000) (disch := first | with_reducible assumption | omega) only [dxB]) | (simp only [kI_d, kG_dt, kG_df]; split) | (simp only [kI_v, kG_vt, kG_vf]; split))
  · have r1 := modulus_Abs (G := G) (T := T) hA hG hC hD hE hU F hm k1 k2
    have r2 := modulus_Norm (G := G) (T := T) hA hG hC hD hE hU F hm k1 k2
    have p1 := ref13_Abs (G := G) (T := T) hA hB hC hD hE hF hV F hm k1 k2
    have p2 := ref13_Norm (G := G) (T := T) hA hB hC hD hE hF hV F hm k1 k2
    generalize absZ F m a b = S1 at *
    generalize normZ F m a b = S2 at *
    simp only [zA] at *
    repeat' (first | (simp (maxSteps := 1000000) only [evB, if_true, if_false, ne_eq, Nat.reduceEqDiff, Nat.reduceAdd, reduceCtorEq, Int.reduceLE, Int.reduceLT, Int.reduceEq, Int.reduceNeg, Int.reduceToNat, Int.reducePow, Int.reduceMod, Int.reduceDiv, Int.reduceSub, Int.reduceAdd, Int.reduceMul, Nat.reduceMul, Nat.reduceSub, Nat.reducePow, exB, resC_ptr, res_cell, nilb, nilf, faddr_p, c_law13_ModulusSizes, st_bs2, o1, r1, r2, p1, p2, hK]) | (simp (maxSteps := 1000000) (disch := first | with_reducible assumption | omega) only [dxB]) | (simp only [kI_d, kG_dt, kG_df]; split) | (simp only [kI_v, kG_vt, kG_vf]; split))

theorem law13_ModulusOrders (hA : HasA g T) (hB : HasB g T) (hC : HasC g T) (hG : Glob G g) (hD : HasD g T) (hE : HasE g T) (hF : HasF g T) (hU : HasG g T) (hV : HasH g T) (hK : run G T 168 [] = some (.bool true))
    {f : Int} {a b c d : Nat} (ha : a < 18446744073709551616) (hb : b < 18446744073709551616) (hc : c < 18446744073709551616) (hd : d < 18446744073709551616) :
    run G T 216 [.int .u8 f, .agg [.int .u64 (a : Int), .int .u64 (b : Int)], .agg [.int .u64 (c : Int), .int .u64 (d : Int)]] = some (.bool true) := by
  rw [run_k G T hV.law13_ModulusOrders]
  by_cases hf : f = 1 ∨ f = 2
  · obtain ⟨F, rfl⟩ := fm_of hf
    have h1 := ref10_Good2 (G := G) (T := T) hD hF hU F ha hb hc hd
    by_cases k : (a < 2 * F.sg ∧ b < 2 * F.sg) ∧ (c < 2 * F.sg ∧ d < 2 * F.sg)
    · rw [if_pos k] at h1
      obtain ⟨⟨k1, k2⟩, k3, k4⟩ := k
      have r1 := modulus_Cmp (G := G) (T := T) hA hG hC hD hU F k1 k2 k3 k4
      have p1 := ref13_Cmp (G := G) (T := T) hA hB hC hD hF hV F k1 k2 k3 k4
      generalize cmpZ F a b c d = S1 at *
      simp only [zA] at *
      repeat' (first | (simp (maxSteps := 1000000) only [evB, if_true, if_false, ne_eq, Nat.reduceEqDiff, Nat.reduceAdd, reduceCtorEq, Int.reduceLE, Int.reduceLT, Int.reduceEq, Int.reduceNeg, Int.reduceToNat, Int.reducePow, Int.reduceMod, Int.reduceDiv, Int.reduceSub, Int.reduceAdd, Int.reduceMul, Nat.reduceMul, Nat.reduceSub, Nat.reducePow, exB, resC_ptr, res_cell, nilb, nilf, faddr_p, c_law13_ModulusOrders, st_bs2, repA_2, h1, r1, p1, hK]) | (simp (maxSteps := 1000000) (disch := first | with_reducible assumption | omega) only [dxB]) | (simp only [kI_d, kG_dt, kG_df]; split) | (simp only [kI_v, kG_vt, kG_vf]; split))
    · rw [if_neg k] at h1
      have r1 := modulus_Cmp_bad (G := G) (T := T) hD hU F ha hb hc hd k
      simp only [zA] at *
      repeat' (first | (simp (maxSteps := 1000000) only [evB, if_true, if_false, ne_eq, Nat.reduceEqDiff, Nat.reduceAdd, reduceCtorEq, Int.reduceLE, Int.reduceLT, Int.reduceEq, Int.reduceNeg, Int.reduceToNat, Int.reducePow, Int.reduceMod, Int.reduceDiv, Int.reduceSub, Int.reduceAdd, Int.reduceMul, Nat.reduceMul, Nat.reduceSub, Nat.reducePow, exB, resC_ptr, res_cell, nilb, nilf, faddr_p, c_law13_ModulusOrders, st_bs2, repA_2, h1, r1, hK]) | (simp (maxSteps := 1000000) (disch := first | with_reducible assumption | omega) only [dxB]) | (simp only [kI_d, kG_dt, kG_df]; split) | (simp only [kI_v, kG_vt, kG_vf]; split))
  · have h1 := ref10_Good_no (G := G) (T := T) hD hU hf (v := .imm 2 [.int .u64 (a : Int), .int .u64 (b : Int), .int .u64 (c : Int), .int .u64 (d : Int)])
    have r1 := modulus_Cmp_no (G := G) (T := T) hD hU hf (a := a) (b := b) (c := c) (d := d)
    simp only [zA] at *
    repeat' (first | (simp (maxSteps := 1000000) only [evB, if_true, if_false, ne_eq, Nat.reduceEqDiff, Nat.reduceAdd, reduceCtorEq, Int.reduceLE, Int.reduceLT, Int.reduceEq, Int.reduceNeg, Int.reduceToNat, Int.reducePow, Int.reduceMod, Int.reduceDiv, Int.reduceSub, Int.reduceAdd, Int.reduceMul, Nat.reduceMul, Nat.reduceSub, Nat.reducePow, exB, resC_ptr, res_cell, nilb, nilf, faddr_p, c_law13_ModulusOrders, st_bs2, repA_2, h1, r1, hK]) | (simp (maxSteps := 1000000) (disch := first | with_reducible assumption | omega) only [dxB]) | (simp only [kI_d, kG_dt, kG_df]; split) | (simp only [kI_v, kG_vt, kG_vf]; split))
end Go.Cv
