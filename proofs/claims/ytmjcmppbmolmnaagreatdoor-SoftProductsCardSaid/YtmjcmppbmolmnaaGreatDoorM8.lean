/-
  A part of the proof of the statements of this seat (texts that the law's own text leans on): no condition.
-/
import Derived.Test.YtmjcmppbmolmnaaGreatDoorM7
set_option linter.unusedVariables false
set_option linter.unusedSimpArgs false
/-
  The document's fused product and sum; what is refused ahead of all else.
-/
namespace Go.Cv
variable {G : Nat → Option (List AV)} {T : Tbl} {g : Nat}

theorem op5_loop (e : Env) (h : Heap) : evL G T c_ref05_Opens_l1 e h = kS G T (evL G T c_ref05_Opens_b1 (keepE [0, 2, 7] e) h) c_ref05_Opens_l1 := s_loopc G T rfl e h
theorem ref05_Opens_no (hD : HasD g T) (hU : HasG g T) {f md : Int} (h : ¬ (f = 1 ∨ f = 2)) {v : AV} : run G T 162 [.int .u8 f, .int .u8 md, v] = some (.int .i64 4) := by
  rw [run_k G T hU.ref05_Opens]
  have h1 := ref03_Is (G := G) (T := T) hD (f := f)
  rw [decide_eq_false h] at h1
  repeat' (first | (simp (maxSteps := 1000000) only [evB, if_true, if_false, ne_eq, Nat.reduceEqDiff, Nat.reduceAdd, reduceCtorEq, Int.reduceLE, Int.reduceLT, Int.reduceEq, Int.reduceNeg, Int.reduceToNat, Int.reducePow, Int.reduceMod, Int.reduceDiv, Int.reduceSub, Int.reduceAdd, Int.reduceMul, Nat.reduceMul, Nat.reduceSub, Nat.reducePow, exB, resC_ptr, res_cell, nilb, nilf, faddr_p, c_ref05_Opens, h1]) | (simp (maxSteps := 1000000) (disch := first | with_reducible assumption | omega) only [dxB]) | (simp only [kI_d, kG_dt, kG_df]; split) | (simp only [kI_v, kG_vt, kG_vf]; split))
theorem ref05_Opens_mode (hD : HasD g T) (hE : HasE g T) (hU : HasG g T) (F : Fm) {md : Int} (h : ¬ (1 ≤ md ∧ md ≤ 5)) {v : AV} : run G T 162 [.int .u8 F.u, .int .u8 md, v] = some (.int .i64 5) := by
  rw [run_k G T hU.ref05_Opens]
  have h1 := ref03_IsF (G := G) (T := T) hD F
  have h2 := ref04_Is (G := G) (T := T) hE (m := md)
  rw [decide_eq_false h] at h2
  repeat' (first | (simp (maxSteps := 1000000) only [evB, if_true, if_false, ne_eq, Nat.reduceEqDiff, Nat.reduceAdd, reduceCtorEq, Int.reduceLE, Int.reduceLT, Int.reduceEq, Int.reduceNeg, Int.reduceToNat, Int.reducePow, Int.reduceMod, Int.reduceDiv, Int.reduceSub, Int.reduceAdd, Int.reduceMul, Nat.reduceMul, Nat.reduceSub, Nat.reducePow, exB, resC_ptr, res_cell, nilb, nilf, faddr_p, c_ref05_Opens, h1, h2]) | (simp (maxSteps := 1000000) (disch := first | with_reducible assumption | omega) only [dxB]) | (simp only [kI_d, kG_dt, kG_df]; split) | (simp only [kI_v, kG_vt, kG_vf]; split))
theorem ref05_Opens2 (hD : HasD g T) (hE : HasE g T) (hF : HasF g T) (hU : HasG g T) (F : Fm) {md : Int} (hm : 1 ≤ md ∧ md ≤ 5) {a b : Nat} (ha : a < 18446744073709551616) (hb : b < 18446744073709551616) :
    run G T 162 [.int .u8 F.u, .int .u8 md, .imm 2 [.int .u64 (a : Int), .int .u64 (b : Int)]] = some (.int .i64 (if a < 2 * F.sg ∧ b < 2 * F.sg then 0 else 6)) := by
  rw [run_k G T hU.ref05_Opens]
  have h1 := ref03_IsF (G := G) (T := T) hD F
  have h2 := ref04_Is (G := G) (T := T) hE (m := md)
  rw [decide_eq_true hm] at h2
  have h3 := ref03_Good (G := G) (T := T) hD hF F ha
  have h4 := ref03_Good (G := G) (T := T) hD hF F hb
  by_cases k1 : a < 2 * F.sg
  · rw [if_pos k1] at h3
    by_cases k2 : b < 2 * F.sg
    · rw [if_pos k2] at h4
      rw [if_pos ⟨k1, k2⟩]
      repeat' (first | (simp (maxSteps := 1000000) only [evB, if_true, if_false, ne_eq, Nat.reduceEqDiff, Nat.reduceAdd, reduceCtorEq, Int.reduceLE, Int.reduceLT, Int.reduceEq, Int.reduceNeg, Int.reduceToNat, Int.reducePow, Int.reduceMod, Int.reduceDiv, Int.reduceSub, Int.reduceAdd, Int.reduceMul, Nat.reduceMul, Nat.reduceSub, Nat.reducePow, exB, resC_ptr, res_cell, nilb, nilf, faddr_p, c_ref05_Opens, h1, h2, op5_loop, c_ref05_Opens_b1, iw20, iw21, rp_0, rp_1, wr_1, wr1, wr_2, wr2, h3, h4]) | (simp (maxSteps := 1000000) (disch := first | with_reducible assumption | omega) only [dxB]) | (simp only [kI_d, kG_dt, kG_df]; split) | (simp only [kI_v, kG_vt, kG_vf]; split))
    · rw [if_neg k2] at h4
      rw [if_neg (fun h => k2 h.2)]
      repeat' (first | (simp (maxSteps := 1000000) only [evB, if_true, if_false, ne_eq, Nat.reduceEqDiff, Nat.reduceAdd, reduceCtorEq, Int.reduceLE, Int.reduceLT, Int.reduceEq, Int.reduceNeg, Int.reduceToNat, Int.reducePow, Int.reduceMod, Int.reduceDiv, Int.reduceSub, Int.reduceAdd, Int.reduceMul, Nat.reduceMul, Nat.reduceSub, Nat.reducePow, exB, resC_ptr, res_cell, nilb, nilf, faddr_p, c_ref05_Opens, h1, h2, op5_loop, c_ref05_Opens_b1, iw20, iw21, rp_0, rp_1, wr_1, wr1, wr_2, wr2, h3, h4]) | (simp (maxSteps := 1000000) (disch := first | with_reducible assumption | omega) only [dxB]) | (simp only [kI_d, kG_dt, kG_df]; split) | (simp only [kI_v, kG_vt, kG_vf]; split))
  · rw [if_neg k1] at h3
    rw [if_neg (fun h => k1 h.1)]
    repeat' (first | (simp (maxSteps := 1000000) only [evB, if_true, if_false, ne_eq, Nat.reduceEqDiff, Nat.reduceAdd, reduceCtorEq, Int.reduceLE, Int.reduceLT, Int.reduceEq, Int.reduceNeg, Int.reduceToNat, Int.reducePow, Int.reduceMod, Int.reduceDiv, Int.reduceSub, Int.reduceAdd, Int.reduceMul, Nat.reduceMul, Nat.reduceSub, Nat.reducePow, exB, resC_ptr, res_cell, nilb, nilf, faddr_p, c_ref05_Opens, h1, h2, op5_loop, c_ref05_Opens_b1, iw20, iw21, rp_0, rp_1, wr_1, wr1, wr_2, wr2, h3]) | (simp (maxSteps := 1000000) (disch := first | with_reducible assumption | omega) only [dxB]) | (simp only [kI_d, kG_dt, kG_df]; split) | (simp only [kI_v, kG_vt, kG_vf]; split))
theorem opens2 (hA : HasA g T) (hG : Glob G g) (hC : HasC g T) (hD : HasD g T) (hE : HasE g T) (hF : HasF g T) (hU : HasG g T) {f md : Int} {a b : Nat} (ha : a < 18446744073709551616) (hb : b < 18446744073709551616) :
    (∃ e, e ≠ 0 ∧ run G T 162 [.int .u8 f, .int .u8 md, .imm 2 [.int .u64 (a : Int), .int .u64 (b : Int)]] = some (.int .i64 e) ∧ run G T 176 [.int .u8 f, .int .u8 md, .imm 2 [.int .u64 (a : Int), .int .u64 (b : Int)]] = some (.tup [.nil, .int .i64 e])) ∨
    (∃ F, f = Fm.u F ∧ (1 ≤ md ∧ md ≤ 5) ∧ (a < 2 * F.sg ∧ b < 2 * F.sg) ∧ run G T 162 [.int .u8 f, .int .u8 md, .imm 2 [.int .u64 (a : Int), .int .u64 (b : Int)]] = some (.int .i64 0)) := by
  by_cases hf : f = 1 ∨ f = 2
  · obtain ⟨F, rfl⟩ := fm_of hf
    by_cases hm : 1 ≤ md ∧ md ≤ 5
    · have h1 := ref05_Opens2 (G := G) (T := T) hD hE hF hU F hm ha hb
      by_cases k1 : a < 2 * F.sg
      · by_cases k2 : b < 2 * F.sg
        · rw [if_pos ⟨k1, k2⟩] at h1
          exact Or.inr ⟨F, rfl, hm, ⟨k1, k2⟩, h1⟩
        · rw [if_neg (fun h => k2 h.2)] at h1
          exact Or.inl ⟨6, by decide, h1, soft_open2_bad2 (G := G) (T := T) hA hG hC hD hE hU F hm k1 hb k2⟩
      · rw [if_neg (fun h => k1 h.1)] at h1
        exact Or.inl ⟨6, by decide, h1, soft_open2_bad1 (G := G) (T := T) hA hG hC hD hE hU F hm ha k1⟩
    · exact Or.inl ⟨5, by decide, ref05_Opens_mode hD hE hU F hm, soft_open_mode hE hU F (by omega)⟩
  · exact Or.inl ⟨4, by decide, ref05_Opens_no hD hU hf, soft_open_no hE hU hf⟩
section
variable {f md a b c e : Int}
theorem soft_Mul_err (hU : HasG g T) (he : e ≠ 0) (h : run G T 176 [.int .u8 f, .int .u8 md, .imm 2 [.int .u64 a, .int .u64 b]] = some (.tup [.nil, .int .i64 e])) :
    run G T 165 [.int .u8 f, .int .u8 md, .int .u64 a, .int .u64 b] = some (.tup [.int .u64 0, .int .u8 0, .int .i64 e]) := by
  rw [run_k G T hU.soft_Mul]
  repeat' (first | (simp (maxSteps := 1000000) only [evB, if_true, if_false, ne_eq, Nat.reduceEqDiff, Nat.reduceAdd, reduceCtorEq, Int.reduceLE, Int.reduceLT, Int.reduceEq, Int.reduceNeg, Int.reduceToNat, Int.reducePow, Int.reduceMod, Int.reduceDiv, Int.reduceSub, Int.reduceAdd, Int.reduceMul, Nat.reduceMul, Nat.reduceSub, Nat.reducePow, exB, resC_ptr, res_cell, nilb, nilf, faddr_p, c_soft_Mul, h, he]) | (simp (maxSteps := 1000000) (disch := first | with_reducible assumption | omega) only [dxB]) | (simp only [kI_d, kG_dt, kG_df]; split) | (simp only [kI_v, kG_vt, kG_vf]; split))
theorem soft_Div_err (hV : HasH g T) (he : e ≠ 0) (h : run G T 176 [.int .u8 f, .int .u8 md, .imm 2 [.int .u64 a, .int .u64 b]] = some (.tup [.nil, .int .i64 e])) :
    run G T 221 [.int .u8 f, .int .u8 md, .int .u64 a, .int .u64 b] = some (.tup [.int .u64 0, .int .u8 0, .int .i64 e]) := by
  rw [run_k G T hV.soft_Div]
  repeat' (first | (simp (maxSteps := 1000000) only [evB, if_true, if_false, ne_eq, Nat.reduceEqDiff, Nat.reduceAdd, reduceCtorEq, Int.reduceLE, Int.reduceLT, Int.reduceEq, Int.reduceNeg, Int.reduceToNat, Int.reducePow, Int.reduceMod, Int.reduceDiv, Int.reduceSub, Int.reduceAdd, Int.reduceMul, Nat.reduceMul, Nat.reduceSub, Nat.reducePow, exB, resC_ptr, res_cell, nilb, nilf, faddr_p, c_soft_Div, h, he]) | (simp (maxSteps := 1000000) (disch := first | with_reducible assumption | omega) only [dxB]) | (simp only [kI_d, kG_dt, kG_df]; split) | (simp only [kI_v, kG_vt, kG_vf]; split))
theorem law05_is_no (hV : HasH g T) (he : e ≠ 0) : run G T 217 [.int .u64 0, .int .u8 0, .int .i64 e, .int .u64 0, .int .u8 0, .int .i64 e] = some (.bool true) := by
  rw [run_k G T hV.law05_is]
  repeat' (first | (simp (maxSteps := 1000000) only [evB, if_true, if_false, ne_eq, Nat.reduceEqDiff, Nat.reduceAdd, reduceCtorEq, Int.reduceLE, Int.reduceLT, Int.reduceEq, Int.reduceNeg, Int.reduceToNat, Int.reducePow, Int.reduceMod, Int.reduceDiv, Int.reduceSub, Int.reduceAdd, Int.reduceMul, Nat.reduceMul, Nat.reduceSub, Nat.reducePow, exB, resC_ptr, res_cell, nilb, nilf, faddr_p, c_law05_is, he]) | (simp (maxSteps := 1000000) (disch := first | with_reducible assumption | omega) only [dxB]) | (simp only [kI_d, kG_dt, kG_df]; split) | (simp only [kI_v, kG_vt, kG_vf]; split))
theorem law05_is_ok (hV : HasH g T) {w x : Int} : run G T 217 [.int .u64 w, .int .u8 x, .int .i64 0, .int .u64 w, .int .u8 x, .int .i64 0] = some (.bool true) := by
  rw [run_k G T hV.law05_is]
  repeat' (first | (simp (maxSteps := 1000000) only [evB, if_true, if_false, ne_eq, Nat.reduceEqDiff, Nat.reduceAdd, reduceCtorEq, Int.reduceLE, Int.reduceLT, Int.reduceEq, Int.reduceNeg, Int.reduceToNat, Int.reducePow, Int.reduceMod, Int.reduceDiv, Int.reduceSub, Int.reduceAdd, Int.reduceMul, Nat.reduceMul, Nat.reduceSub, Nat.reducePow, exB, resC_ptr, res_cell, nilb, nilf, faddr_p, c_law05_is]) | (simp (maxSteps := 1000000) (disch := first | with_reducible assumption | omega) only [dxB]) | (simp only [kI_d, kG_dt, kG_df]; split) | (simp only [kI_v, kG_vt, kG_vf]; split))
end
end Go.Cv

/-
  The statements on sums, products, roots of words.
-/
namespace Go.Cv
variable {G : Nat → Option (List AV)} {T : Tbl} {g : Nat}

theorem law05_SoftProducts (hA : HasA g T) (hB : HasB g T) (hC : HasC g T) (hG : Glob G g) (hD : HasD g T) (hE : HasE g T) (hF : HasF g T) (hU : HasG g T) (hV : HasH g T) (hK : run G T 163 [] = some (.bool true))
    {f m : Int} {a b : Nat} (ha : a < 18446744073709551616) (hb : b < 18446744073709551616) :
    run G T 212 [.int .u8 f, .int .u8 m, .int .u64 (a : Int), .int .u64 (b : Int)] = some (.bool true) := by
  rw [run_k G T hV.law05_SoftProducts]
  rcases opens2 (G := G) (T := T) (f := f) (md := m) hA hG hC hD hE hF hU ha hb with ⟨e, he, o1, o2⟩ | ⟨F, rfl, hm, ⟨k1, k2⟩, o1⟩
  · have r1 := soft_Mul_err (G := G) (T := T) hU he o2
    have r2 := soft_Div_err (G := G) (T := T) hV he o2
    have q := law05_is_no (G := G) (T := T) hV he
    repeat' (first | (simp (maxSteps := 1000000) only [evB, if_true, if_false, ne_eq, Nat.reduceEqDiff, Nat.reduceAdd, reduceCtorEq, Int.reduceLE, Int.reduceLT, Int.reduceEq, Int.reduceNeg, Int.reduceToNat, Int.reducePow, Int.reduceMod, Int.reduceDiv, Int.reduceSub, Int.reduceAdd, Int.reduceMul, Nat.reduceMul, Nat.reduceSub, Nat.reducePow, exB, resC_ptr, res_cell, nilb, nilf, faddr_p, c_law05_SoftProducts, r1, r2, o1, he, q, hK]) | (simp (maxSteps := 1000000) (disch := first | with_reducible assumption | omega) only [dxB]) | (simp only [kI_d, kG_dt, kG_df]; split) | (simp only [kI_v, kG_vt, kG_vf]; split))
  · have r1 := soft_Mul (G := G) (T := T) hA hG hC hD hE hU F hm k1 k2
    have r2 := soft_Div (G := G) (T := T) hA hG hC hD hE hU hV F hm k1 k2
    have p1 := ref05_Mul (G := G) (T := T) hA hB hC hD hE hF hV F hm k1 k2
    have p2 := ref05_Div (G := G) (T := T) hA hB hC hD hE hF hV F hm k1 k2
    have q := fun w x => law05_is_ok (G := G) (T := T) hV (w := w) (x := x)
    generalize mulW2 F m a b = S1 at *
    generalize divW2 F m a b = S2 at *
    repeat' (first | (simp (maxSteps := 1000000) only [evB, if_true, if_false, ne_eq, Nat.reduceEqDiff, Nat.reduceAdd, reduceCtorEq, Int.reduceLE, Int.reduceLT, Int.reduceEq, Int.reduceNeg, Int.reduceToNat, Int.reducePow, Int.reduceMod, Int.reduceDiv, Int.reduceSub, Int.reduceAdd, Int.reduceMul, Nat.reduceMul, Nat.reduceSub, Nat.reducePow, exB, resC_ptr, res_cell, nilb, nilf, faddr_p, c_law05_SoftProducts, r1, r2, o1, p1, p2, q, hK]) | (simp (maxSteps := 1000000) (disch := first | with_reducible assumption | omega) only [dxB]) | (simp only [kI_d, kG_dt, kG_df]; split) | (simp only [kI_v, kG_vt, kG_vf]; split))

end Go.Cv
