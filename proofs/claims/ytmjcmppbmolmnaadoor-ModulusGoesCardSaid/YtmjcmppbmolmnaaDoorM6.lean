/-
  A part of the proof of the statements of this seat (texts that the law's own text leans on): no condition.
-/
import Derived.Test.YtmjcmppbmolmnaaDoorM5
import Derived.Test.YtmjcmppbmolmnaaDoorM3
set_option linter.unusedVariables false
set_option linter.unusedSimpArgs false
/-
  The program's words: fields, classes, values.
-/
namespace Go.Cv
variable {G : Nat → Option (List AV)} {T : Tbl} {g : Nat}

theorem andn_nat {w k : Nat} (hk : k < 64) (hw : w < 2 ^ (k + 1)) : w &&& (2 ^ 64 - (2 ^ k + 1)) = w % 2 ^ k := by
  apply Nat.eq_of_testBit_eq
  intro i
  have hp : (2 : Nat) ^ k < 2 ^ 64 := Nat.pow_lt_pow_right (by decide) hk
  rw [Nat.testBit_and, Nat.testBit_mod_two_pow, Nat.testBit_two_pow_sub_succ hp, Nat.testBit_two_pow]
  by_cases h1 : i < k
  · rw [decide_eq_true h1, decide_eq_true (show i < 64 by omega), decide_eq_false (show ¬ k = i by omega)]; simp
  · rw [decide_eq_false h1]
    by_cases h2 : i = k
    · rw [decide_eq_true h2.symm]; simp
    · have : w.testBit i = false := Nat.testBit_lt_two_pow (Nat.lt_of_lt_of_le hw (Nat.pow_le_pow_right (by decide) (by omega)))
      rw [this]; simp
theorem andn64 {w k : Nat} (hk : k < 64) (hw : w < 2 ^ (k + 1)) : andNotI .u64 (w : Int) ((2 ^ k : Nat) : Int) = ((w % 2 ^ k : Nat) : Int) := by
  have hp : (2 : Nat) ^ k < 2 ^ 64 := Nat.pow_lt_pow_right (by decide) hk
  have hw2 : w < 2 ^ 64 := Nat.lt_of_lt_of_le hw (Nat.pow_le_pow_right (by decide) (by omega))
  have hlt : w % 2 ^ k < 2 ^ k := Nat.mod_lt _ (Nat.two_pow_pos k)
  rw [andNotI_eq]
  show IntKind.u64.wrap ((BitVec.ofInt 64 (w : Int) &&& ~~~BitVec.ofInt 64 ((2 ^ k : Nat) : Int)).toNat : Int) = _
  rw [show BitVec.ofInt 64 (w : Int) = BitVec.ofNat 64 w from rfl, show BitVec.ofInt 64 ((2 ^ k : Nat) : Int) = BitVec.ofNat 64 (2 ^ k) from rfl, BitVec.toNat_and, BitVec.toNat_not, BitVec.toNat_ofNat, BitVec.toNat_ofNat, Nat.mod_eq_of_lt hw2, Nat.mod_eq_of_lt hp,
    show 2 ^ 64 - 1 - 2 ^ k = 2 ^ 64 - (2 ^ k + 1) by omega, andn_nat hk hw, wrap_u64]
  omega
theorem andn_s {w : Nat} (h : w < 4294967296) : andNotI .u64 (w : Int) 2147483648 = ((w % 2147483648 : Nat) : Int) := andn64 (k := 31) (by decide) h
theorem andn_d {w : Nat} (h : w < 18446744073709551616) : andNotI .u64 (w : Int) 9223372036854775808 = ((w % 9223372036854775808 : Nat) : Int) := andn64 (k := 63) (by decide) h
theorem and_pow_lo {w k : Nat} (hw : w < 2 ^ k) : w &&& 2 ^ k = 0 := by
  apply Nat.eq_of_testBit_eq
  intro i
  rw [Nat.testBit_and, Nat.testBit_two_pow, Nat.zero_testBit]
  by_cases h : k = i
  · subst h; rw [Nat.testBit_lt_two_pow hw]; rfl
  · rw [decide_eq_false h, Bool.and_false]
theorem and_pow_hi {w k : Nat} (h1 : 2 ^ k ≤ w) (hw : w < 2 ^ (k + 1)) : w &&& 2 ^ k = 2 ^ k := by
  apply Nat.eq_of_testBit_eq
  intro i
  rw [Nat.testBit_and, Nat.testBit_two_pow]
  rw [Nat.pow_succ] at hw
  by_cases h : k = i
  · subst h
    have : w / 2 ^ k = 1 := Nat.div_eq_of_lt_le (by omega) (by omega)
    rw [Nat.testBit_eq_decide_div_mod_eq, this]; rfl
  · rw [decide_eq_false h, Bool.and_false]
theorem and_bit {w k : Nat} (hk : k < 64) (hw : w < 2 ^ (k + 1)) : andI .u64 (w : Int) ((2 ^ k : Nat) : Int) = if 2 ^ k ≤ w then ((2 ^ k : Nat) : Int) else 0 := by
  have hp : (2 : Nat) ^ k < 2 ^ 64 := Nat.pow_lt_pow_right (by decide) hk
  have hw2 : w < 2 ^ 64 := Nat.lt_of_lt_of_le hw (Nat.pow_le_pow_right (by decide) (by omega))
  rw [and64 (by omega) (by omega)]
  by_cases h : 2 ^ k ≤ w
  · rw [if_pos h, and_pow_hi h hw]
  · rw [if_neg h, and_pow_lo (by omega)]; rfl
theorem and_s {w : Nat} (h : w < 4294967296) : andI .u64 (w : Int) 2147483648 = if 2147483648 ≤ w then 2147483648 else 0 := and_bit (k := 31) (by decide) h
theorem and_d {w : Nat} (h : w < 18446744073709551616) : andI .u64 (w : Int) 9223372036854775808 = if 9223372036854775808 ≤ w then 9223372036854775808 else 0 := and_bit (k := 63) (by decide) h
theorem and_ms {w : Nat} (h : w < 18446744073709551616) : andI .u64 (w : Int) 8388607 = ((w % 8388608 : Nat) : Int) := and_mask (j := 23) h (by decide)
theorem and_md {w : Nat} (h : w < 18446744073709551616) : andI .u64 (w : Int) 4503599627370495 = ((w % 4503599627370496 : Nat) : Int) := and_mask (j := 52) h (by decide)
theorem or_s : orI .u64 2147483648 2147483647 = 4294967295 := by rw [orI_eq]; rfl
theorem or_d : orI .u64 9223372036854775808 9223372036854775807 = 18446744073709551615 := by rw [orI_eq]; rfl
theorem or_ns : orI .u64 2139095040 4194304 = 2143289344 := by rw [orI_eq]; rfl
theorem or_nd : orI .u64 9218868437227405312 2251799813685248 = 9221120237041090560 := by rw [orI_eq]; rfl

theorem wop_loop (e : Env) (h : Heap) : evL G T c_word_open_l1 e h = kS G T (evL G T c_word_open_b1 (keepE [4, 6, 18, 19, 20] e) h) c_word_open_l1 := s_loopc G T rfl e h
theorem ia11 (x : AV) (k : IntKind) : iaddrV 1 (.imm 1 [x]) (.int k 0) = some (.iptr [x] 0) := rfl
theorem rd11 (h : Mem) (x : AV) : rdAt G h 1 (.iptr [x] 0) = some [x] := rfl

theorem word_open1 (hT : HasD g T) (F : Fm) {w : Nat} (hw : w < 18446744073709551616) : run G T 95 [.int .u8 F.u, .imm 1 [.int .u64 (w : Int)]] = some (.tup [shA F, .int .i64 (if w < 2 * F.sg then 0 else 6)]) := by
  rw [run_k G T hT.word_open]
  have h1 := word_shapeOf (G := G) hT F
  have wr : IntKind.i64.wrap 1 = 1 := rfl
  by_cases hk : w < 2 * F.sg
  · rw [if_pos hk]
    cases F
    · simp only [shA, Fm.u, Fm.fr, Fm.sg, Fm.most, Int.cast_ofNat_Int, Nat.reduceMul] at *
      have c1 : ¬ (4294967295 : Int) < (w : Int) := by omega
      repeat' (first | (simp (maxSteps := 1000000) only [evB, if_true, if_false, ne_eq, Nat.reduceEqDiff, Nat.reduceAdd, reduceCtorEq, Int.reduceLE, Int.reduceLT, Int.reduceEq, Int.reduceNeg, Int.reduceToNat, Int.reducePow, Int.reduceMod, Int.reduceDiv, Int.reduceSub, Int.reduceAdd, Int.reduceMul, Nat.reduceMul, Nat.reduceSub, Nat.reducePow, exB, resC_ptr, res_cell, nilb, nilf, faddr_p, c_word_open, h1, wop_loop, c_word_open_b1, ia11, rd11, or_s, or_d, c1, wr]) | (simp (maxSteps := 1000000) (disch := first | with_reducible assumption | omega) only [dxB]) | (simp only [kI_d, kG_dt, kG_df]; split) | (simp only [kI_v, kG_vt, kG_vf]; split))
    · simp only [shA, Fm.u, Fm.fr, Fm.sg, Fm.most, Int.cast_ofNat_Int, Nat.reduceMul] at *
      have c1 : ¬ (18446744073709551615 : Int) < (w : Int) := by omega
      repeat' (first | (simp (maxSteps := 1000000) only [evB, if_true, if_false, ne_eq, Nat.reduceEqDiff, Nat.reduceAdd, reduceCtorEq, Int.reduceLE, Int.reduceLT, Int.reduceEq, Int.reduceNeg, Int.reduceToNat, Int.reducePow, Int.reduceMod, Int.reduceDiv, Int.reduceSub, Int.reduceAdd, Int.reduceMul, Nat.reduceMul, Nat.reduceSub, Nat.reducePow, exB, resC_ptr, res_cell, nilb, nilf, faddr_p, c_word_open, h1, wop_loop, c_word_open_b1, ia11, rd11, or_s, or_d, c1, wr]) | (simp (maxSteps := 1000000) (disch := first | with_reducible assumption | omega) only [dxB]) | (simp only [kI_d, kG_dt, kG_df]; split) | (simp only [kI_v, kG_vt, kG_vf]; split))
  · rw [if_neg hk]
    cases F
    · simp only [shA, Fm.u, Fm.fr, Fm.sg, Fm.most, Int.cast_ofNat_Int, Nat.reduceMul] at *
      have c1 : (4294967295 : Int) < (w : Int) := by omega
      repeat' (first | (simp (maxSteps := 1000000) only [evB, if_true, if_false, ne_eq, Nat.reduceEqDiff, Nat.reduceAdd, reduceCtorEq, Int.reduceLE, Int.reduceLT, Int.reduceEq, Int.reduceNeg, Int.reduceToNat, Int.reducePow, Int.reduceMod, Int.reduceDiv, Int.reduceSub, Int.reduceAdd, Int.reduceMul, Nat.reduceMul, Nat.reduceSub, Nat.reducePow, exB, resC_ptr, res_cell, nilb, nilf, faddr_p, c_word_open, h1, wop_loop, c_word_open_b1, ia11, rd11, or_s, or_d, c1, wr]) | (simp (maxSteps := 1000000) (disch := first | with_reducible assumption | omega) only [dxB]) | (simp only [kI_d, kG_dt, kG_df]; split) | (simp only [kI_v, kG_vt, kG_vf]; split))
    · simp only [Fm.sg] at hk; omega

theorem cls_spec (F : Fm) (w : Nat) : (F.ex w = 0 ∧ F.fc w = 0 ∧ F.cls w = 1) ∨ (F.ex w = 0 ∧ F.fc w ≠ 0 ∧ F.cls w = 2) ∨ (F.ex w ≠ 0 ∧ F.ex w < F.most ∧ F.cls w = 3) ∨ (F.ex w ≠ 0 ∧ ¬ F.ex w < F.most ∧ F.fc w = 0 ∧ F.cls w = 4) ∨ (F.ex w ≠ 0 ∧ ¬ F.ex w < F.most ∧ F.fc w ≠ 0 ∧ F.cls w = 5) := by
  unfold Fm.cls
  generalize F.ex w = x
  generalize F.fc w = y
  repeat' split
  all_goals omega
theorem ng_spec (F : Fm) (w : Nat) : (F.ng w = true ∧ F.sg ≤ w) ∨ (F.ng w = false ∧ w < F.sg) := by
  unfold Fm.ng
  by_cases h : F.sg ≤ w
  · left; exact ⟨decide_eq_true h, h⟩
  · right; exact ⟨decide_eq_false h, by omega⟩

theorem word_class (hD : HasD g T) (hU : HasG g T) (F : Fm) {w : Nat} (hw : w < 2 * F.sg) : run G T 201 [shA F, .int .u64 (w : Int)] = some (.int .u8 (F.cls w)) := by
  rw [run_k G T hU.word_shape_class]
  obtain ⟨q1, q2, q3, q4⟩ := w_split hw
  have hc := cls_spec F w
  have hlt : w % F.sg < F.sg := Nat.mod_lt _ (by cases F <;> decide)
  clear q1
  generalize F.cls w = c at *
  generalize F.ex w = x at *
  generalize F.fc w = y at *
  cases F
  · have h2 := andn_s (w := w) hw
    have hi := word_inf (G := G) (T := T) hD .s
    simp only [shA, Fm.u, Fm.fr, Fm.sg, Fm.most, Int.cast_ofNat_Int, Nat.reducePow, Nat.reduceMul] at *
    generalize w % 2147483648 = s at *
    repeat' (first | (simp (maxSteps := 1000000) only [evB, if_true, if_false, ne_eq, Nat.reduceEqDiff, Nat.reduceAdd, reduceCtorEq, Int.reduceLE, Int.reduceLT, Int.reduceEq, Int.reduceNeg, Int.reduceToNat, Int.reducePow, Int.reduceMod, Int.reduceDiv, Int.reduceSub, Int.reduceAdd, Int.reduceMul, Nat.reduceMul, Nat.reduceSub, Nat.reducePow, exB, resC_ptr, res_cell, nilb, nilf, faddr_p, c_word_shape_class, h2, hi]) | (simp (maxSteps := 1000000) (disch := first | with_reducible assumption | omega) only [dxB]) | (simp only [kI_d, kG_dt, kG_df]; split) | (simp only [kI_v, kG_vt, kG_vf]; split))
    all_goals (refine some_int ?_; omega)
  · have h2 := andn_d (w := w) hw
    have hi := word_inf (G := G) (T := T) hD .d
    simp only [shA, Fm.u, Fm.fr, Fm.sg, Fm.most, Int.cast_ofNat_Int, Nat.reducePow, Nat.reduceMul] at *
    generalize w % 9223372036854775808 = s at *
    repeat' (first | (simp (maxSteps := 1000000) only [evB, if_true, if_false, ne_eq, Nat.reduceEqDiff, Nat.reduceAdd, reduceCtorEq, Int.reduceLE, Int.reduceLT, Int.reduceEq, Int.reduceNeg, Int.reduceToNat, Int.reducePow, Int.reduceMod, Int.reduceDiv, Int.reduceSub, Int.reduceAdd, Int.reduceMul, Nat.reduceMul, Nat.reduceSub, Nat.reducePow, exB, resC_ptr, res_cell, nilb, nilf, faddr_p, c_word_shape_class, h2, hi]) | (simp (maxSteps := 1000000) (disch := first | with_reducible assumption | omega) only [dxB]) | (simp only [kI_d, kG_dt, kG_df]; split) | (simp only [kI_v, kG_vt, kG_vf]; split))
    all_goals (refine some_int ?_; omega)

theorem word_split (hU : HasG g T) (F : Fm) {w : Nat} (hw : w < 2 * F.sg) : run G T 200 [shA F, .int .u64 (w : Int)] = some (fldA (F.ng w) (F.ex w) (F.fc w)) := by
  rw [run_k G T hU.word_shape_split]
  have hlt : w % F.sg < F.sg := Nat.mod_lt _ (by cases F <;> decide)
  have hn := ng_spec F w
  have e2 : w % F.sg / 2 ^ F.fr = F.ex w := rfl
  have e3 : w % F.sg % 2 ^ F.fr = F.fc w := rfl
  have q4 := (w_split hw).2.2.2
  generalize F.ng w = n at *
  generalize F.ex w = x at *
  generalize F.fc w = y at *
  cases F
  · have h2 := andn_s (w := w) hw
    have h4 := and_s (w := w) hw
    simp only [shA, Fm.u, Fm.fr, Fm.sg, Fm.most, fldA, Int.cast_ofNat_Int, Nat.reducePow] at *
    generalize w % 2147483648 = s at *
    have h5 := and_ms (w := s) (by omega)
    rw [e3] at h5
    have w1 : (s : Int) / 8388608 = (x : Int) := by omega
    rcases hn with ⟨rfl, hn⟩ | ⟨rfl, hn⟩
    · rw [if_pos hn] at h4
      repeat' (first | (simp (maxSteps := 1000000) only [evB, if_true, if_false, ne_eq, Nat.reduceEqDiff, Nat.reduceAdd, reduceCtorEq, Int.reduceLE, Int.reduceLT, Int.reduceEq, Int.reduceNeg, Int.reduceToNat, Int.reducePow, Int.reduceMod, Int.reduceDiv, Int.reduceSub, Int.reduceAdd, Int.reduceMul, Nat.reduceMul, Nat.reduceSub, Nat.reducePow, exB, resC_ptr, res_cell, nilb, nilf, faddr_p, c_word_shape_split, h2, h4, h5, w1]) | (simp (maxSteps := 1000000) (disch := first | with_reducible assumption | omega) only [dxB]) | (simp only [kI_d, kG_dt, kG_df]; split) | (simp only [kI_v, kG_vt, kG_vf]; split))
    · rw [if_neg (by omega)] at h4
      repeat' (first | (simp (maxSteps := 1000000) only [evB, if_true, if_false, ne_eq, Nat.reduceEqDiff, Nat.reduceAdd, reduceCtorEq, Int.reduceLE, Int.reduceLT, Int.reduceEq, Int.reduceNeg, Int.reduceToNat, Int.reducePow, Int.reduceMod, Int.reduceDiv, Int.reduceSub, Int.reduceAdd, Int.reduceMul, Nat.reduceMul, Nat.reduceSub, Nat.reducePow, exB, resC_ptr, res_cell, nilb, nilf, faddr_p, c_word_shape_split, h2, h4, h5, w1]) | (simp (maxSteps := 1000000) (disch := first | with_reducible assumption | omega) only [dxB]) | (simp only [kI_d, kG_dt, kG_df]; split) | (simp only [kI_v, kG_vt, kG_vf]; split))
  · have h2 := andn_d (w := w) hw
    have h4 := and_d (w := w) hw
    simp only [shA, Fm.u, Fm.fr, Fm.sg, Fm.most, fldA, Int.cast_ofNat_Int, Nat.reducePow] at *
    generalize w % 9223372036854775808 = s at *
    have h5 := and_md (w := s) (by omega)
    rw [e3] at h5
    have w1 : (s : Int) / 4503599627370496 = (x : Int) := by omega
    rcases hn with ⟨rfl, hn⟩ | ⟨rfl, hn⟩
    · rw [if_pos hn] at h4
      repeat' (first | (simp (maxSteps := 1000000) only [evB, if_true, if_false, ne_eq, Nat.reduceEqDiff, Nat.reduceAdd, reduceCtorEq, Int.reduceLE, Int.reduceLT, Int.reduceEq, Int.reduceNeg, Int.reduceToNat, Int.reducePow, Int.reduceMod, Int.reduceDiv, Int.reduceSub, Int.reduceAdd, Int.reduceMul, Nat.reduceMul, Nat.reduceSub, Nat.reducePow, exB, resC_ptr, res_cell, nilb, nilf, faddr_p, c_word_shape_split, h2, h4, h5, w1]) | (simp (maxSteps := 1000000) (disch := first | with_reducible assumption | omega) only [dxB]) | (simp only [kI_d, kG_dt, kG_df]; split) | (simp only [kI_v, kG_vt, kG_vf]; split))
    · rw [if_neg (by omega)] at h4
      repeat' (first | (simp (maxSteps := 1000000) only [evB, if_true, if_false, ne_eq, Nat.reduceEqDiff, Nat.reduceAdd, reduceCtorEq, Int.reduceLE, Int.reduceLT, Int.reduceEq, Int.reduceNeg, Int.reduceToNat, Int.reducePow, Int.reduceMod, Int.reduceDiv, Int.reduceSub, Int.reduceAdd, Int.reduceMul, Nat.reduceMul, Nat.reduceSub, Nat.reducePow, exB, resC_ptr, res_cell, nilb, nilf, faddr_p, c_word_shape_split, h2, h4, h5, w1]) | (simp (maxSteps := 1000000) (disch := first | with_reducible assumption | omega) only [dxB]) | (simp only [kI_d, kG_dt, kG_df]; split) | (simp only [kI_v, kG_vt, kG_vf]; split))

theorem sg_64 {F : Fm} {w : Nat} (h : w < 2 * F.sg) : w < 18446744073709551616 := by
  have : 2 * F.sg ≤ 18446744073709551616 := by cases F <;> decide
  omega

theorem word_Class (hD : HasD g T) (hU : HasG g T) (F : Fm) {w : Nat} (hw : w < 2 * F.sg) : run G T 193 [.int .u8 F.u, .int .u64 (w : Int)] = some (.tup [.int .u8 (F.cls w), .int .i64 0]) := by
  rw [run_k G T hU.word_Class]
  have h1 := word_open1 (G := G) (T := T) hD F (sg_64 hw)
  rw [if_pos hw] at h1
  have h2 := word_class (G := G) (T := T) hD hU F hw
  generalize F.cls w = c at *
  simp only [shA] at *
  repeat' (first | (simp (maxSteps := 1000000) only [evB, if_true, if_false, ne_eq, Nat.reduceEqDiff, Nat.reduceAdd, reduceCtorEq, Int.reduceLE, Int.reduceLT, Int.reduceEq, Int.reduceNeg, Int.reduceToNat, Int.reducePow, Int.reduceMod, Int.reduceDiv, Int.reduceSub, Int.reduceAdd, Int.reduceMul, Nat.reduceMul, Nat.reduceSub, Nat.reducePow, exB, resC_ptr, res_cell, nilb, nilf, faddr_p, c_word_Class, h1, h2]) | (simp (maxSteps := 1000000) (disch := first | with_reducible assumption | omega) only [dxB]) | (simp only [kI_d, kG_dt, kG_df]; split) | (simp only [kI_v, kG_vt, kG_vf]; split))

theorem word_finite (hD : HasD g T) (hU : HasG g T) (F : Fm) {w : Nat} (hw : w < 2 * F.sg) : run G T 202 [.int .u8 F.u, .int .u64 (w : Int)] = some (.tup [shA F, .int .i64 (if F.fin w then 0 else 7)]) := by
  rw [run_k G T hU.word_finite]
  have h1 := word_open1 (G := G) (T := T) hD F (sg_64 hw)
  rw [if_pos hw] at h1
  have h2 := word_class (G := G) (T := T) hD hU F hw
  have h3 := fin_iff (F := F) (w := w)
  have h4 := cls_range F w
  by_cases hf : F.fin w
  · rw [if_pos hf]
    have h5 := h3.1 hf
    clear h3
    generalize F.cls w = c at *
    have c1 : ¬ (4 : Int) ≤ c := by omega
    simp only [shA] at *
    repeat' (first | (simp (maxSteps := 1000000) only [evB, if_true, if_false, ne_eq, Nat.reduceEqDiff, Nat.reduceAdd, reduceCtorEq, Int.reduceLE, Int.reduceLT, Int.reduceEq, Int.reduceNeg, Int.reduceToNat, Int.reducePow, Int.reduceMod, Int.reduceDiv, Int.reduceSub, Int.reduceAdd, Int.reduceMul, Nat.reduceMul, Nat.reduceSub, Nat.reducePow, exB, resC_ptr, res_cell, nilb, nilf, faddr_p, c_word_finite, h1, h2, c1]) | (simp (maxSteps := 1000000) (disch := first | with_reducible assumption | omega) only [dxB]) | (simp only [kI_d, kG_dt, kG_df]; split) | (simp only [kI_v, kG_vt, kG_vf]; split))
  · rw [if_neg hf]
    have h5 : ¬ (F.cls w = 1 ∨ F.cls w = 2 ∨ F.cls w = 3) := fun h => hf (h3.2 h)
    clear h3
    generalize F.cls w = c at *
    have c1 : (4 : Int) ≤ c := by omega
    simp only [shA] at *
    repeat' (first | (simp (maxSteps := 1000000) only [evB, if_true, if_false, ne_eq, Nat.reduceEqDiff, Nat.reduceAdd, reduceCtorEq, Int.reduceLE, Int.reduceLT, Int.reduceEq, Int.reduceNeg, Int.reduceToNat, Int.reducePow, Int.reduceMod, Int.reduceDiv, Int.reduceSub, Int.reduceAdd, Int.reduceMul, Nat.reduceMul, Nat.reduceSub, Nat.reducePow, exB, resC_ptr, res_cell, nilb, nilf, faddr_p, c_word_finite, h1, h2, c1]) | (simp (maxSteps := 1000000) (disch := first | with_reducible assumption | omega) only [dxB]) | (simp only [kI_d, kG_dt, kG_df]; split) | (simp only [kI_v, kG_vt, kG_vf]; split))

theorem or_fr {y k : Nat} (h : y < 2 ^ k) (hk : k < 63) : orI .u64 (y : Int) ((2 ^ k : Nat) : Int) = ((2 ^ k + y : Nat) : Int) := by
  have hp : (2 : Nat) ^ k < 2 ^ 64 := Nat.pow_lt_pow_right (by decide) (by omega)
  have e := or_add (c := y) (x := 1) (s := k) h
  rw [Nat.one_mul] at e
  rw [or64 (by omega) (by omega), e, Nat.add_comm]

theorem word_Value (hA : HasA g T) (hG : Glob G g) (hC : HasC g T) (hD : HasD g T) (hU : HasG g T) (F : Fm) {w : Nat} (hw : w < 2 * F.sg) :
    ∃ z k, run G T 194 [.int .u8 F.u, .int .u64 (w : Int)] = some (.tup [DyA z (F.vl w), .int .i64 k]) := by
  have h1 := word_finite (G := G) (T := T) hD hU F hw
  by_cases hf : F.fin w
  · rw [if_pos hf] at h1
    have h2 := word_split (G := G) (T := T) hU F hw
    have h3 := word_low (G := G) (T := T) hD F
    have hy : F.fc w < 2 ^ F.fr := Nat.mod_lt _ (Nat.two_pow_pos _)
    have hp : 2 ^ F.fr ≤ 4503599627370496 := by cases F <;> decide
    have hF := fm_facts F
    have hm : F.most ≤ 2047 := by cases F <;> decide
    have hvl : F.vl w = F.val w := if_pos hf
    rw [hvl]
    unfold Fm.fin at hf
    unfold Fm.val
    have hor := or_fr hy (by omega)
    generalize F.ex w = x at *
    generalize F.fc w = y at *
    generalize F.ng w = n at *
    have hb1 : blen y ≤ 53 := blen_le.2 (by omega)
    have hb2 : blen (2 ^ F.fr + y) ≤ 53 := blen_le.2 (by omega)
    have hmin : min F.fr 64 = F.fr := by omega
    have hp0 := Nat.two_pow_pos F.fr
    by_cases h0 : x = 0
    · subst h0
      obtain ⟨z1, o1⟩ := nat_Of (G := G) (T := T) hA (n := y) (by omega)
      obtain ⟨z2, o2⟩ := dyad_Make (G := G) (T := T) hA hG hC (n := n) (z := z1) (a := y) (e := F.low) (mayL_small (by omega)) (mk_rng (by omega) (by omega)) (by omega)
      have w1 : max (0 : Int) 1 = 1 := by decide
      have w2 : IntKind.i64.wrap (1 - 1) = 0 := rfl
      have w3 : IntKind.i64.wrap (0 + F.low) = F.low := by rw [Int.zero_add]; exact wrap_i64 (by omega)
      have w4 : IntKind.i64.wrap F.low = F.low := wrap_i64 (by omega)
      refine ⟨z2, 0, ?_⟩
      rw [if_pos rfl, run_k G T hU.word_Value]
      simp only [shA, fldA, cast0, DyA, A3] at *
      repeat' (first | (simp (maxSteps := 1000000) only [evB, if_true, if_false, ne_eq, Nat.reduceEqDiff, Nat.reduceAdd, reduceCtorEq, Int.reduceLE, Int.reduceLT, Int.reduceEq, Int.reduceNeg, Int.reduceToNat, Int.reducePow, Int.reduceMod, Int.reduceDiv, Int.reduceSub, Int.reduceAdd, Int.reduceMul, Nat.reduceMul, Nat.reduceSub, Nat.reducePow, exB, resC_ptr, res_cell, nilb, nilf, faddr_p, c_word_Value, h1, h2, h3, o1, w1, w2, w3, w4, mm_max2, o2, Int.zero_add]) | (simp (maxSteps := 1000000) (disch := first | with_reducible assumption | omega) only [dxB]) | (simp only [kI_d, kG_dt, kG_df]; split) | (simp only [kI_v, kG_vt, kG_vf]; split))
    · obtain ⟨z1, o1⟩ := nat_Of (G := G) (T := T) hA (n := 2 ^ F.fr + y) (by omega)
      obtain ⟨z2, o2⟩ := dyad_Make (G := G) (T := T) hA hG hC (n := n) (z := z1) (a := 2 ^ F.fr + y) (e := x - 1 + F.low) (mayL_small (by omega)) (mk_rng (by omega) (by omega)) (by omega)
      have c0 : (0 : Int) < (x : Int) := by omega
      have w1 : max (x : Int) 1 = x := by omega
      have w2 : IntKind.i64.wrap ((x : Int) - 1) = x - 1 := wrap_i64 (by omega)
      have w3 : IntKind.i64.wrap ((x : Int) - 1 + F.low) = x - 1 + F.low := wrap_i64 (by omega)
      have w5 : (1 * (2 : Int) ^ F.fr) % 18446744073709551616 = ((2 ^ F.fr : Nat) : Int) := by rw [pow_cast]; omega
      have w6 : ((2 : Int) ^ F.fr) % 18446744073709551616 = ((2 ^ F.fr : Nat) : Int) := by rw [pow_cast]; omega
      refine ⟨z2, 0, ?_⟩
      rw [if_neg h0, run_k G T hU.word_Value]
      simp only [shA, fldA, DyA, A3] at *
      repeat' (first | (simp (maxSteps := 1000000) only [evB, if_true, if_false, ne_eq, Nat.reduceEqDiff, Nat.reduceAdd, reduceCtorEq, Int.reduceLE, Int.reduceLT, Int.reduceEq, Int.reduceNeg, Int.reduceToNat, Int.reducePow, Int.reduceMod, Int.reduceDiv, Int.reduceSub, Int.reduceAdd, Int.reduceMul, Nat.reduceMul, Nat.reduceSub, Nat.reducePow, exB, resC_ptr, res_cell, nilb, nilf, faddr_p, c_word_Value, h1, h2, h3, c0, hmin, w5, w6, hor, o1, w1, w2, w3, mm_max2, o2]) | (simp (maxSteps := 1000000) (disch := first | with_reducible assumption | omega) only [dxB]) | (simp only [kI_d, kG_dt, kG_df]; split) | (simp only [kI_v, kG_vt, kG_vf]; split))
  · rw [if_neg hf] at h1
    refine ⟨true, 7, ?_⟩
    have hvl : F.vl w = ⟨false, 0, 0⟩ := if_neg hf
    rw [hvl, run_k G T hU.word_Value]
    simp only [shA, DyA, A3, dl_zero] at *
    repeat' (first | (simp (maxSteps := 1000000) only [evB, if_true, if_false, ne_eq, Nat.reduceEqDiff, Nat.reduceAdd, reduceCtorEq, Int.reduceLE, Int.reduceLT, Int.reduceEq, Int.reduceNeg, Int.reduceToNat, Int.reducePow, Int.reduceMod, Int.reduceDiv, Int.reduceSub, Int.reduceAdd, Int.reduceMul, Nat.reduceMul, Nat.reduceSub, Nat.reducePow, exB, resC_ptr, res_cell, nilb, nilf, faddr_p, c_word_Value, h1]) | (simp (maxSteps := 1000000) (disch := first | with_reducible assumption | omega) only [dxB]) | (simp only [kI_d, kG_dt, kG_df]; split) | (simp only [kI_v, kG_vt, kG_vf]; split))
    all_goals try rfl

theorem word_none (hU : HasG g T) (hD : HasD g T) (F : Fm) : run G T 204 [shA F] = some (.int .u64 (F.nan : Int)) := by
  rw [run_k G T hU.word_shape_none]
  have h := word_inf (G := G) hD F
  cases F <;> (
    simp only [shA, Fm.u, Fm.fr, Fm.sg, Fm.most, Fm.nan, Int.cast_ofNat_Int, Nat.reducePow, Nat.reduceMul, Nat.reduceSub, Nat.reduceAdd] at *
    repeat' (first | (simp (maxSteps := 1000000) only [evB, if_true, if_false, ne_eq, Nat.reduceEqDiff, Nat.reduceAdd, reduceCtorEq, Int.reduceLE, Int.reduceLT, Int.reduceEq, Int.reduceNeg, Int.reduceToNat, Int.reducePow, Int.reduceMod, Int.reduceDiv, Int.reduceSub, Int.reduceAdd, Int.reduceMul, Nat.reduceMul, Nat.reduceSub, Nat.reducePow, exB, resC_ptr, res_cell, nilb, nilf, faddr_p, c_word_shape_none, h, or_ns, or_nd]) | (simp (maxSteps := 1000000) (disch := first | with_reducible assumption | omega) only [dxB]) | (simp only [kI_d, kG_dt, kG_df]; split) | (simp only [kI_v, kG_vt, kG_vf]; split)))
theorem word_None (hU : HasG g T) (hD : HasD g T) (F : Fm) : run G T 196 [.int .u8 F.u] = some (.tup [.int .u64 (F.nan : Int), .int .i64 0]) := by
  rw [run_k G T hU.word_None]
  have h := word_named (G := G) hD F (n := false) (k := 204) (word_none hU hD F) (by cases F <;> decide)
  rw [show F.nan + F.sgn false = F.nan from rfl] at h
  repeat' (first | (simp (maxSteps := 1000000) only [evB, if_true, if_false, ne_eq, Nat.reduceEqDiff, Nat.reduceAdd, reduceCtorEq, Int.reduceLE, Int.reduceLT, Int.reduceEq, Int.reduceNeg, Int.reduceToNat, Int.reducePow, Int.reduceMod, Int.reduceDiv, Int.reduceSub, Int.reduceAdd, Int.reduceMul, Nat.reduceMul, Nat.reduceSub, Nat.reducePow, exB, resC_ptr, res_cell, nilb, nilf, faddr_p, c_word_None, h]) | (simp (maxSteps := 1000000) (disch := first | with_reducible assumption | omega) only [dxB]) | (simp only [kI_d, kG_dt, kG_df]; split) | (simp only [kI_v, kG_vt, kG_vf]; split))
end Go.Cv

/-
  The document's sums, products, quotients, roots of words.
-/
namespace Go.Cv
variable {G : Nat → Option (List AV)} {T : Tbl} {g : Nat}

theorem Nz_mul (a b : Dy) : Nz (mulD a b) := Nz_mk _ _ _
theorem Bd_mul {a b : Dy} {K : Nat} (ha : Bd a K) (hb : Bd b K) : Bd (mulD a b) (4 * K) := by
  obtain ⟨a1, a2, a3⟩ := ha
  obtain ⟨b1, b2, b3⟩ := hb
  have hb : blen (a.m * b.m) ≤ 2 * K := by
    refine blen_le.2 ?_
    rw [show 2 * K = K + K by omega, Nat.pow_add]
    exact Nat.mul_lt_mul_of_lt_of_lt (blen_le.1 a1) (blen_le.1 b1)
  exact Bd_mk (by omega) (by omega) (by omega)
theorem mayD_nzb {d : Dy} (h : Nz d) (b : Bd d 131072) : mayD d.n (dl d.m) d.e = true := by
  obtain ⟨b1, b2, b3⟩ := b
  have hm : mayL (dl d.m) = true := mayL_small b1
  simp only [mayD, hm, Bool.true_and]
  by_cases h0 : d.m = 0
  · rw [h.1 h0, dl_zero]; rfl
  · have h1 : ¬ (dl d.m).length = 0 := fun hc => h0 (dl_len0.1 hc)
    rw [if_neg h1, dg0]
    have h2 := h.2 h0
    simp only [Bool.and_eq_true, decide_eq_true_eq]
    exact ⟨h2, by omega, by omega⟩
theorem sgnD_zero {d : Dy} : sgnD d = 0 ↔ d.m = 0 := by
  unfold sgnD
  by_cases h : d.m = 0
  · rw [if_pos h]; exact ⟨fun _ => h, fun _ => rfl⟩
  · rw [if_neg h]
    constructor
    · intro hc; split at hc <;> omega
    · intro hc; exact absurd hc h

theorem ref03_None (hD : HasD g T) (hT : HasF g T) (F : Fm) : run G T 157 [.int .u8 F.u] = some (.int .u64 (F.nan : Int)) := by
  rw [run_k G T hT.ref03_None]
  have h1 := ref03_Most (G := G) (T := T) hD F
  have h2 := ref03_Frac (G := G) (T := T) hD F
  cases F
  · have h4 := ref03_Join (G := G) (T := T) hD .s (n := false) (x := 255) (w := 4194304) (by decide) (Or.inl (by decide))
    simp only [fldA, Fm.u, Fm.fr, Fm.most, Fm.nan, Fm.inf, Fm.sgn, Fm.sg, Int.cast_ofNat_Int, Nat.reducePow, Nat.reduceMul, Nat.reduceSub, Nat.reduceAdd, Bool.false_eq_true, if_false] at *
    repeat' (first | (simp (maxSteps := 1000000) only [evB, if_true, if_false, ne_eq, Nat.reduceEqDiff, Nat.reduceAdd, reduceCtorEq, Int.reduceLE, Int.reduceLT, Int.reduceEq, Int.reduceNeg, Int.reduceToNat, Int.reducePow, Int.reduceMod, Int.reduceDiv, Int.reduceSub, Int.reduceAdd, Int.reduceMul, Nat.reduceMul, Nat.reduceSub, Nat.reducePow, exB, resC_ptr, res_cell, nilb, nilf, faddr_p, c_ref03_None, h1, h2, h4]) | (simp (maxSteps := 1000000) (disch := first | with_reducible assumption | omega) only [dxB]) | (simp only [kI_d, kG_dt, kG_df]; split) | (simp only [kI_v, kG_vt, kG_vf]; split))
  · have h4 := ref03_Join (G := G) (T := T) hD .d (n := false) (x := 2047) (w := 2251799813685248) (by decide) (Or.inl (by decide))
    simp only [fldA, Fm.u, Fm.fr, Fm.most, Fm.nan, Fm.inf, Fm.sgn, Fm.sg, Int.cast_ofNat_Int, Nat.reducePow, Nat.reduceMul, Nat.reduceSub, Nat.reduceAdd, Bool.false_eq_true, if_false] at *
    repeat' (first | (simp (maxSteps := 1000000) only [evB, if_true, if_false, ne_eq, Nat.reduceEqDiff, Nat.reduceAdd, reduceCtorEq, Int.reduceLE, Int.reduceLT, Int.reduceEq, Int.reduceNeg, Int.reduceToNat, Int.reducePow, Int.reduceMod, Int.reduceDiv, Int.reduceSub, Int.reduceAdd, Int.reduceMul, Nat.reduceMul, Nat.reduceSub, Nat.reducePow, exB, resC_ptr, res_cell, nilb, nilf, faddr_p, c_ref03_None, h1, h2, h4]) | (simp (maxSteps := 1000000) (disch := first | with_reducible assumption | omega) only [dxB]) | (simp only [kI_d, kG_dt, kG_df]; split) | (simp only [kI_v, kG_vt, kG_vf]; split))

theorem vl_val {F : Fm} {w : Nat} (h : F.fin w) : F.vl w = F.val w := if_pos h

end Go.Cv

/-
  The document's products, quotients, roots of words.
-/
namespace Go.Cv
variable {G : Nat → Option (List AV)} {T : Tbl} {g : Nat}

end Go.Cv

/-
  The program's words, taken apart for a sum, a product, a quotient.
-/
namespace Go.Cv
variable {G : Nat → Option (List AV)} {T : Tbl} {g : Nat}

theorem rp_0 (h : Mem) (x : AV) (l : List AV) : rdAt G h 1 (.iptr (x :: l) 0) = some [x] := by simp [rdAt]
theorem rp_1 (h : Mem) (x y : AV) (l : List AV) : rdAt G h 1 (.iptr (x :: y :: l) 1) = some [y] := by simp [rdAt]
theorem rp_2 (h : Mem) (x y z : AV) (l : List AV) : rdAt G h 1 (.iptr (x :: y :: z :: l) 2) = some [z] := by simp [rdAt]
theorem wr_1 : IntKind.i64.wrap (0 + 1) = 1 := rfl
theorem wr_2 : IntKind.i64.wrap (1 + 1) = 2 := rfl
theorem wr1 : IntKind.i64.wrap 1 = 1 := rfl
theorem wr2 : IntKind.i64.wrap 2 = 2 := rfl
end Go.Cv

/-
  The program's sums of parts.
-/
namespace Go.Cv
variable {G : Nat → Option (List AV)} {T : Tbl} {g : Nat}

section
variable (a1 a2 a3 a4 a5 b1 b2 b3 b4 b5 c1 c2 c3 c4 c5 : AV) (k : IntKind)
end

end Go.Cv

/-
  The program's sums, differences, products, quotients, roots of words.
-/
namespace Go.Cv
variable {G : Nat → Option (List AV)} {T : Tbl} {g : Nat}

end Go.Cv

/-
  The program's quotients, roots, fused products of words.
-/
namespace Go.Cv
variable {G : Nat → Option (List AV)} {T : Tbl} {g : Nat}

end Go.Cv

/-
  The program's fused product and sum of words.
-/
namespace Go.Cv
variable {G : Nat → Option (List AV)} {T : Tbl} {g : Nat}

end Go.Cv

/-
  The document's fused product and sum; what is refused ahead of all else.
-/
namespace Go.Cv
variable {G : Nat → Option (List AV)} {T : Tbl} {g : Nat}

theorem op5_loop (e : Env) (h : Heap) : evL G T c_ref05_Opens_l1 e h = kS G T (evL G T c_ref05_Opens_b1 (keepE [0, 2, 7] e) h) c_ref05_Opens_l1 := s_loopc G T rfl e h
theorem ref05_Opens_no (hD : HasD g T) (hU : HasG g T) {f md : Int} (h : ¬ (f = 1 ∨ f = 2)) {v : AV} : run G T 162 [.int .u8 f, .int .u8 md, v] = some (.int .i64 4) := by
  rw [run_k G T hU.ref05_Opens]
  have h1 := ref03_Is (G := G) (T := T) hD (f := f)
  rw [decide_eq_false h] at h1
  repeat' (first | (simp (maxSteps := 1000000) only [evB, if_true, if_false, ne_eq, Nat.reduceEqDiff, Nat.reduceAdd, reduceCtorEq, Int.reduceLE, Int.reduceLT, Int.reduceEq, Int.reduceNeg, Int.reduceToNat, Int.reducePow, Int.reduceMod, Int.reduceDiv, Int.reduceSub, Int.reduceAdd, Int.reduceMul, Nat.reduceMul, Nat.reduceSub, Nat.reducePow, exB, resC_ptr, res_cell, nilb, nilf, faddr_p, c_ref05_Opens, h1]) | (simp (maxSteps := 1000000) (disch := first | with_reducible assumption | omega) only [dxB]) | (simp only [kI_d, kG_dt, kG_df]; split) | (simp only [kI_v, kG_vt, kG_vf]; split))
theorem ref05_Opens_mode (hD : HasD g T) (hE : HasE g T) (hU : HasG g T) (F : Fm) {md : Int} (h : ¬ (1 ≤ md ∧ md ≤ 5)) {v : AV} : run G T 162 [.int .u8 F.u, .int .u8 md, v] = some (.int .i64 5) := by
  rw [run_k G T hU.ref05_Opens]
  have h1 := ref03_IsF (G := G) (T := T) hD F
  have h2 := ref04_Is (G := G) (T := T) hE (m := md)
  rw [decide_eq_false h] at h2
  repeat' (first | (simp (maxSteps := 1000000) only [evB, if_true, if_false, ne_eq, Nat.reduceEqDiff, Nat.reduceAdd, reduceCtorEq, Int.reduceLE, Int.reduceLT, Int.reduceEq, Int.reduceNeg, Int.reduceToNat, Int.reducePow, Int.reduceMod, Int.reduceDiv, Int.reduceSub, Int.reduceAdd, Int.reduceMul, Nat.reduceMul, Nat.reduceSub, Nat.reducePow, exB, resC_ptr, res_cell, nilb, nilf, faddr_p, c_ref05_Opens, h1, h2]) | (simp (maxSteps := 1000000) (disch := first | with_reducible assumption | omega) only [dxB]) | (simp only [kI_d, kG_dt, kG_df]; split) | (simp only [kI_v, kG_vt, kG_vf]; split))
theorem ref05_Opens0 (hD : HasD g T) (hE : HasE g T) (hU : HasG g T) (F : Fm) {md : Int} (hm : 1 ≤ md ∧ md ≤ 5) : run G T 162 [.int .u8 F.u, .int .u8 md, .nil] = some (.int .i64 0) := by
  rw [run_k G T hU.ref05_Opens]
  have h1 := ref03_IsF (G := G) (T := T) hD F
  have h2 := ref04_Is (G := G) (T := T) hE (m := md)
  rw [decide_eq_true hm] at h2
  repeat' (first | (simp (maxSteps := 1000000) only [evB, if_true, if_false, ne_eq, Nat.reduceEqDiff, Nat.reduceAdd, reduceCtorEq, Int.reduceLE, Int.reduceLT, Int.reduceEq, Int.reduceNeg, Int.reduceToNat, Int.reducePow, Int.reduceMod, Int.reduceDiv, Int.reduceSub, Int.reduceAdd, Int.reduceMul, Nat.reduceMul, Nat.reduceSub, Nat.reducePow, exB, resC_ptr, res_cell, nilb, nilf, faddr_p, c_ref05_Opens, h1, h2, op5_loop, c_ref05_Opens_b1]) | (simp (maxSteps := 1000000) (disch := first | with_reducible assumption | omega) only [dxB]) | (simp only [kI_d, kG_dt, kG_df]; split) | (simp only [kI_v, kG_vt, kG_vf]; split))
section
variable {f md a b c e : Int}
end
end Go.Cv

/-
  The program's comparison of dyadic numbers.
-/
namespace Go.Cv
variable {G : Nat → Option (List AV)} {T : Tbl} {g : Nat}

theorem dyad_Top (hA : HasA g T) (hC : HasC g T) (hU : HasG g T) {z : Bool} {d : Dy} (hd : mayD d.n (dl d.m) d.e = true) : run G T 206 [DyA z d] = some (.int .i64 (topD d)) := by
  rw [run_k G T hU.dyad_Top]
  have h1 := dyad_May (G := G) (T := T) hA hC d.n z (Dg_dl d.m) d.e
  rw [hd] at h1
  obtain ⟨f1, f2, f3, f4, f5⟩ := mayD_facts hd
  have l1 := nat_Len (G := G) (T := T) hA (z := z) f1
  have hb := may_blen f1
  unfold topD
  obtain ⟨n, m, e⟩ := d
  simp only at *
  by_cases h0 : m = 0
  · have c1 : ((dl m).length : Int) = 0 := by have := dl_len0.2 h0; omega
    rw [if_pos h0]
    simp only [DyA, A3] at *
    repeat' (first | (simp (maxSteps := 1000000) only [evB, if_true, if_false, ne_eq, Nat.reduceEqDiff, Nat.reduceAdd, reduceCtorEq, Int.reduceLE, Int.reduceLT, Int.reduceEq, Int.reduceNeg, Int.reduceToNat, Int.reducePow, Int.reduceMod, Int.reduceDiv, Int.reduceSub, Int.reduceAdd, Int.reduceMul, Nat.reduceMul, Nat.reduceSub, Nat.reducePow, exB, resC_ptr, res_cell, nilb, nilf, faddr_p, c_dyad_Top, h1, c1]) | (simp (maxSteps := 1000000) (disch := first | with_reducible assumption | omega) only [dxB]) | (simp only [kI_d, kG_dt, kG_df]; split) | (simp only [kI_v, kG_vt, kG_vf]; split))
  · have c1 : ¬ ((dl m).length : Int) = 0 := fun hc => h0 (dl_len0.1 (by omega))
    have w1 : IntKind.i64.wrap (e + (blen m : Int)) = e + blen m := wrap_i64 (by omega)
    rw [if_neg h0]
    simp only [DyA, A3] at *
    repeat' (first | (simp (maxSteps := 1000000) only [evB, if_true, if_false, ne_eq, Nat.reduceEqDiff, Nat.reduceAdd, reduceCtorEq, Int.reduceLE, Int.reduceLT, Int.reduceEq, Int.reduceNeg, Int.reduceToNat, Int.reducePow, Int.reduceMod, Int.reduceDiv, Int.reduceSub, Int.reduceAdd, Int.reduceMul, Nat.reduceMul, Nat.reduceSub, Nat.reducePow, exB, resC_ptr, res_cell, nilb, nilf, faddr_p, c_dyad_Top, h1, c1, l1, w1]) | (simp (maxSteps := 1000000) (disch := first | with_reducible assumption | omega) only [dxB]) | (simp only [kI_d, kG_dt, kG_df]; split) | (simp only [kI_v, kG_vt, kG_vf]; split))

/-- Which of two sizes is greater. -/
def szD (a b : Dy) : Int := if topD a < topD b then -1 else if topD b < topD a then 1 else cmpN (a.m * 2 ^ (blen b.m - blen a.m)) (b.m * 2 ^ (blen a.m - blen b.m))

theorem dyad_sizes (hA : HasA g T) (hC : HasC g T) (hU : HasG g T) {z y : Bool} {a b : Dy} (za : Nz a) (zb : Nz b) (ha : Bd a 65537) (hb : Bd b 65537) (h0 : a.m = 0 ↔ b.m = 0) :
    run G T 199 [DyA z a, DyA y b] = some (.int .i64 (szD a b)) := by
  rw [run_k G T hU.dyad_sizes]
  have ma := mayD_nzb za (ha.mono (by decide))
  have mb := mayD_nzb zb (hb.mono (by decide))
  have t1 := dyad_Top (G := G) (T := T) hA hC hU (z := z) ma
  have t2 := dyad_Top (G := G) (T := T) hA hC hU (z := y) mb
  have f1 := (mayD_facts ma).1
  have f2 := (mayD_facts mb).1
  have l1 := nat_Len (G := G) (T := T) hA (z := z) f1
  have l2 := nat_Len (G := G) (T := T) hA (z := y) f2
  have b1 := ha.bl
  have b2 := hb.bl
  unfold szD
  by_cases c1 : topD a < topD b
  · rw [if_pos c1]
    simp only [DyA, A3] at *
    repeat' (first | (simp (maxSteps := 1000000) only [evB, if_true, if_false, ne_eq, Nat.reduceEqDiff, Nat.reduceAdd, reduceCtorEq, Int.reduceLE, Int.reduceLT, Int.reduceEq, Int.reduceNeg, Int.reduceToNat, Int.reducePow, Int.reduceMod, Int.reduceDiv, Int.reduceSub, Int.reduceAdd, Int.reduceMul, Nat.reduceMul, Nat.reduceSub, Nat.reducePow, exB, resC_ptr, res_cell, nilb, nilf, faddr_p, c_dyad_sizes, t1, t2, c1]) | (simp (maxSteps := 1000000) (disch := first | with_reducible assumption | omega) only [dxB]) | (simp only [kI_d, kG_dt, kG_df]; split) | (simp only [kI_v, kG_vt, kG_vf]; split))
  · rw [if_neg c1]
    by_cases c2 : topD b < topD a
    · rw [if_pos c2]
      simp only [DyA, A3] at *
      repeat' (first | (simp (maxSteps := 1000000) only [evB, if_true, if_false, ne_eq, Nat.reduceEqDiff, Nat.reduceAdd, reduceCtorEq, Int.reduceLE, Int.reduceLT, Int.reduceEq, Int.reduceNeg, Int.reduceToNat, Int.reducePow, Int.reduceMod, Int.reduceDiv, Int.reduceSub, Int.reduceAdd, Int.reduceMul, Nat.reduceMul, Nat.reduceSub, Nat.reducePow, exB, resC_ptr, res_cell, nilb, nilf, faddr_p, c_dyad_sizes, t1, t2, c1, c2]) | (simp (maxSteps := 1000000) (disch := first | with_reducible assumption | omega) only [dxB]) | (simp only [kI_d, kG_dt, kG_df]; split) | (simp only [kI_v, kG_vt, kG_vf]; split))
    · rw [if_neg c2]
      have w1 : IntKind.i64.wrap ((blen a.m : Int) - (blen b.m : Int)) = (blen a.m : Int) - (blen b.m : Int) := wrap_i64 (by omega)
      by_cases c3 : (0 : Int) < (blen a.m : Int) - (blen b.m : Int)
      · obtain ⟨z1, s1⟩ := nat_Shift_up (G := G) (T := T) hA (z := y) (a := b.m) (n := blen a.m - blen b.m) f2 (Or.inr (by omega)) (by omega)
        rw [show ((blen a.m - blen b.m : Nat) : Int) = (blen a.m : Int) - (blen b.m : Int) by omega] at s1
        have hbm : blen (b.m * 2 ^ (blen a.m - blen b.m)) ≤ 131072 := by
          have := blen_mul_le b.m (blen a.m - blen b.m); omega
        have k1 := nat_Cmp (G := G) (T := T) hA (z := z) (y := z1) f1 (mayL_small hbm)
        rw [show blen b.m - blen a.m = 0 by omega, Nat.pow_zero, Nat.mul_one]
        clear hbm ma mb za zb ha hb h0 b1 b2 f1 f2
        generalize topD a = ta at *
        generalize topD b = tb at *
        simp only [DyA, A3] at *
        repeat' (first | (simp (maxSteps := 1000000) only [evB, if_true, if_false, ne_eq, Nat.reduceEqDiff, Nat.reduceAdd, reduceCtorEq, Int.reduceLE, Int.reduceLT, Int.reduceEq, Int.reduceNeg, Int.reduceToNat, Int.reducePow, Int.reduceMod, Int.reduceDiv, Int.reduceSub, Int.reduceAdd, Int.reduceMul, Nat.reduceMul, Nat.reduceSub, Nat.reducePow, exB, resC_ptr, res_cell, nilb, nilf, faddr_p, c_dyad_sizes, t1, t2, c1, c2, l1, l2, w1, c3, s1, k1]) | (simp (maxSteps := 1000000) (disch := first | with_reducible assumption | omega) only [dxB]) | (simp only [kI_d, kG_dt, kG_df]; split) | (simp only [kI_v, kG_vt, kG_vf]; split))
      · obtain ⟨z1, s1⟩ := nat_Shift_up (G := G) (T := T) hA (z := z) (a := a.m) (n := blen b.m - blen a.m) f1 (Or.inr (by omega)) (by omega)
        rw [show ((blen b.m - blen a.m : Nat) : Int) = 0 - ((blen a.m : Int) - (blen b.m : Int)) by omega] at s1
        have hbm : blen (a.m * 2 ^ (blen b.m - blen a.m)) ≤ 131072 := by
          have := blen_mul_le a.m (blen b.m - blen a.m); omega
        have k1 := nat_Cmp (G := G) (T := T) hA (z := z1) (y := y) (mayL_small hbm) f2
        have w2 : IntKind.i64.wrap (0 - ((blen a.m : Int) - (blen b.m : Int))) = 0 - ((blen a.m : Int) - (blen b.m : Int)) := wrap_i64 (by omega)
        rw [show blen a.m - blen b.m = 0 by omega, Nat.pow_zero, Nat.mul_one]
        clear hbm ma mb za zb ha hb h0 b1 b2 f1 f2
        generalize topD a = ta at *
        generalize topD b = tb at *
        simp only [DyA, A3] at *
        repeat' (first | (simp (maxSteps := 1000000) only [evB, if_true, if_false, ne_eq, Nat.reduceEqDiff, Nat.reduceAdd, reduceCtorEq, Int.reduceLE, Int.reduceLT, Int.reduceEq, Int.reduceNeg, Int.reduceToNat, Int.reducePow, Int.reduceMod, Int.reduceDiv, Int.reduceSub, Int.reduceAdd, Int.reduceMul, Nat.reduceMul, Nat.reduceSub, Nat.reducePow, exB, resC_ptr, res_cell, nilb, nilf, faddr_p, c_dyad_sizes, t1, t2, c1, c2, l1, l2, w1, c3, w2, s1, k1]) | (simp (maxSteps := 1000000) (disch := first | with_reducible assumption | omega) only [dxB]) | (simp only [kI_d, kG_dt, kG_df]; split) | (simp only [kI_v, kG_vt, kG_vf]; split))

theorem cmpN_sg (x y : Nat) : cmpN x y = sgI ((x : Int) - (y : Int)) := by
  unfold cmpN sgI
  repeat' split
  all_goals omega
theorem sgI_opp (x : Int) : sgI (-x) = -sgI x := by
  unfold sgI
  repeat' split
  all_goals omega
theorem szD_iv {a b : Dy} (ha : a.m ≠ 0) (hb : b.m ≠ 0) : szD a b = sgI (((a.m * 2 ^ (a.e - min a.e b.e).toNat : Nat) : Int) - ((b.m * 2 ^ (b.e - min a.e b.e).toNat : Nat) : Int)) := by
  have t1 : topD a = a.e + blen a.m := if_neg ha
  have t2 : topD b = b.e + blen b.m := if_neg hb
  unfold szD
  rw [t1, t2]
  by_cases c1 : a.e + (blen a.m : Int) < b.e + blen b.m
  · have := top_lt ha hb (L := min a.e b.e) (by omega) (by omega) c1
    rw [if_pos c1]
    generalize a.m * 2 ^ (a.e - min a.e b.e).toNat = A at *
    generalize b.m * 2 ^ (b.e - min a.e b.e).toNat = B at *
    unfold sgI; rw [if_pos (by omega)]
  · rw [if_neg c1]
    by_cases c2 : b.e + (blen b.m : Int) < a.e + blen a.m
    · have := top_lt hb ha (L := min a.e b.e) (by omega) (by omega) c2
      rw [if_pos c2]
      generalize a.m * 2 ^ (a.e - min a.e b.e).toNat = A at *
      generalize b.m * 2 ^ (b.e - min a.e b.e).toNat = B at *
      unfold sgI; rw [if_neg (by omega), if_pos (by omega)]
    · rw [if_neg c2, cmpN_sg, show blen b.m - blen a.m = (a.e - min a.e b.e).toNat by omega, show blen a.m - blen b.m = (b.e - min a.e b.e).toNat by omega]
theorem cmpD_sz {a b : Dy} (h : sgnD a = sgnD b) : cmpD a b = sgnD a * szD a b := by
  by_cases ha : a.m = 0
  · have e1 : sgnD a = 0 := sgnD_zero.2 ha
    have e2 : b.m = 0 := sgnD_zero.1 (h ▸ e1)
    rw [cmp_iv (L := 0) (Or.inl ha) (Or.inl e2), iv_zero ha, iv_zero e2, e1, Int.zero_mul]; rfl
  · have hb : b.m ≠ 0 := fun hc => ha (sgnD_zero.1 (h.trans (sgnD_zero.2 hc)))
    rw [cmp_iv (L := min a.e b.e) (Or.inr (by omega)) (Or.inr (by omega)), szD_iv ha hb]
    unfold iv
    unfold sgnD at h ⊢
    rw [if_neg ha] at h ⊢
    rw [if_neg hb] at h
    generalize a.m * 2 ^ (a.e - min a.e b.e).toNat = A at *
    generalize b.m * 2 ^ (b.e - min a.e b.e).toNat = B at *
    generalize a.n = x at *
    generalize b.n = y at *
    cases x <;> cases y <;> simp only [Bool.false_eq_true, if_false, if_true] at h ⊢
    · rw [Int.one_mul, Int.one_mul, Int.one_mul]
    · exact absurd h (by decide)
    · exact absurd h (by decide)
    · rw [show (-1 : Int) * (A : Int) - -1 * (B : Int) = -((A : Int) - B) by omega, sgI_opp]; omega

theorem szD_rng (a b : Dy) : szD a b = -1 ∨ szD a b = 0 ∨ szD a b = 1 := by
  unfold szD cmpN
  repeat' split
  all_goals omega
theorem sgnD_rng (a : Dy) : sgnD a = -1 ∨ sgnD a = 0 ∨ sgnD a = 1 := by
  unfold sgnD
  repeat' split
  all_goals omega

theorem dyad_Cmp (hA : HasA g T) (hC : HasC g T) (hU : HasG g T) {z y : Bool} {a b : Dy} (za : Nz a) (zb : Nz b) (ha : Bd a 65537) (hb : Bd b 65537) :
    run G T 190 [DyA z a, DyA y b] = some (.tup [.int .i64 (cmpD a b), .int .i64 0]) := by
  rw [run_k G T hU.dyad_Cmp]
  have ma := mayD_nzb za (ha.mono (by decide))
  have mb := mayD_nzb zb (hb.mono (by decide))
  have b0 := dyad_both (G := G) (T := T) hA hC (n := a.n) (z := z) (n' := b.n) (z' := y) (Dg_dl a.m) (Dg_dl b.m) (e := a.e) (e' := b.e)
  rw [ma, mb, Bool.and_self] at b0
  have s1 := dyad_Sign (G := G) (T := T) hA hC (n := a.n) (z := z) (Dg_dl a.m) (e := a.e)
  rw [sign_may ma] at s1
  have s2 := dyad_Sign (G := G) (T := T) hA hC (n := b.n) (z := y) (Dg_dl b.m) (e := b.e)
  rw [sign_may mb] at s2
  have e1 : (if a.m = 0 then 0 else if a.n = true then (-1 : Int) else 1) = sgnD a := rfl
  have e2 : (if b.m = 0 then 0 else if b.n = true then (-1 : Int) else 1) = sgnD b := rfl
  rw [e1] at s1
  rw [e2] at s2
  by_cases h : sgnD a = sgnD b
  · have k1 := dyad_sizes (G := G) (T := T) hA hC hU (z := z) (y := y) za zb ha hb ⟨fun h0 => sgnD_zero.1 (h ▸ sgnD_zero.2 h0), fun h0 => sgnD_zero.1 (h.trans (sgnD_zero.2 h0))⟩
    rw [cmpD_sz h]
    have r1 := sgnD_rng a
    have r2 := szD_rng a b
    have w1 : IntKind.i64.wrap (sgnD a * szD a b) = sgnD a * szD a b := by
      rcases r1 with r | r | r <;> rcases r2 with q | q | q <;> rw [r, q] <;> rfl
    rw [← h] at s2
    clear ma mb za zb ha hb e1 e2 h
    generalize sgnD a = s at *
    generalize szD a b = q at *
    simp only [DyA, A3] at *
    have c1 : ¬ s < s := by omega
    repeat' (first | (simp (maxSteps := 1000000) only [evB, if_true, if_false, ne_eq, Nat.reduceEqDiff, Nat.reduceAdd, reduceCtorEq, Int.reduceLE, Int.reduceLT, Int.reduceEq, Int.reduceNeg, Int.reduceToNat, Int.reducePow, Int.reduceMod, Int.reduceDiv, Int.reduceSub, Int.reduceAdd, Int.reduceMul, Nat.reduceMul, Nat.reduceSub, Nat.reducePow, exB, resC_ptr, res_cell, nilb, nilf, faddr_p, c_dyad_Cmp, b0, s1, s2, c1, k1, w1]) | (simp (maxSteps := 1000000) (disch := first | with_reducible assumption | omega) only [dxB]) | (simp only [kI_d, kG_dt, kG_df]; split) | (simp only [kI_v, kG_vt, kG_vf]; split))
  · have hc : cmpD a b = if sgnD a < sgnD b then -1 else 1 := by unfold cmpD; rw [if_pos h]
    rw [hc]
    clear ma mb za zb ha hb e1 e2 hc
    generalize sgnD a = s at *
    generalize sgnD b = t at *
    simp only [DyA, A3] at *
    by_cases c1 : s < t
    · rw [if_pos c1]
      repeat' (first | (simp (maxSteps := 1000000) only [evB, if_true, if_false, ne_eq, Nat.reduceEqDiff, Nat.reduceAdd, reduceCtorEq, Int.reduceLE, Int.reduceLT, Int.reduceEq, Int.reduceNeg, Int.reduceToNat, Int.reducePow, Int.reduceMod, Int.reduceDiv, Int.reduceSub, Int.reduceAdd, Int.reduceMul, Nat.reduceMul, Nat.reduceSub, Nat.reducePow, exB, resC_ptr, res_cell, nilb, nilf, faddr_p, c_dyad_Cmp, b0, s1, s2, c1]) | (simp (maxSteps := 1000000) (disch := first | with_reducible assumption | omega) only [dxB]) | (simp only [kI_d, kG_dt, kG_df]; split) | (simp only [kI_v, kG_vt, kG_vf]; split))
    · rw [if_neg c1]
      have c2 : t < s := by omega
      repeat' (first | (simp (maxSteps := 1000000) only [evB, if_true, if_false, ne_eq, Nat.reduceEqDiff, Nat.reduceAdd, reduceCtorEq, Int.reduceLE, Int.reduceLT, Int.reduceEq, Int.reduceNeg, Int.reduceToNat, Int.reducePow, Int.reduceMod, Int.reduceDiv, Int.reduceSub, Int.reduceAdd, Int.reduceMul, Nat.reduceMul, Nat.reduceSub, Nat.reducePow, exB, resC_ptr, res_cell, nilb, nilf, faddr_p, c_dyad_Cmp, b0, s1, s2, c1, c2]) | (simp (maxSteps := 1000000) (disch := first | with_reducible assumption | omega) only [dxB]) | (simp only [kI_d, kG_dt, kG_df]; split) | (simp only [kI_v, kG_vt, kG_vf]; split))
end Go.Cv

/-
  The program's moduli.
-/
namespace Go.Cv
variable {G : Nat → Option (List AV)} {T : Tbl} {g : Nat}

def zA (a b : Nat) : AV := .agg [.int .u64 (a : Int), .int .u64 (b : Int)]
/-- What a number is as a whole. -/
def zcl (c c' : Int) : Int := if c = 4 ∨ c' = 4 then 3 else if c = 5 ∨ c' = 5 then 4 else if c = 1 ∧ c' = 1 then 1 else 2
def sqD (F : Fm) (a b : Nat) : Dy := addD (mulD (F.vl a) (F.vl a)) (mulD (F.vl b) (F.vl b))

theorem word_Class_bad (hD : HasD g T) (hU : HasG g T) (F : Fm) {w : Nat} (hw : w < 18446744073709551616) (hb : ¬ w < 2 * F.sg) : run G T 193 [.int .u8 F.u, .int .u64 (w : Int)] = some (.tup [.int .u8 0, .int .i64 6]) := by
  rw [run_k G T hU.word_Class]
  have h1 := word_open1 (G := G) (T := T) hD F hw
  rw [if_neg hb] at h1
  simp only [shA] at *
  repeat' (first | (simp (maxSteps := 1000000) only [evB, if_true, if_false, ne_eq, Nat.reduceEqDiff, Nat.reduceAdd, reduceCtorEq, Int.reduceLE, Int.reduceLT, Int.reduceEq, Int.reduceNeg, Int.reduceToNat, Int.reducePow, Int.reduceMod, Int.reduceDiv, Int.reduceSub, Int.reduceAdd, Int.reduceMul, Nat.reduceMul, Nat.reduceSub, Nat.reducePow, exB, resC_ptr, res_cell, nilb, nilf, faddr_p, c_word_Class, h1]) | (simp (maxSteps := 1000000) (disch := first | with_reducible assumption | omega) only [dxB]) | (simp only [kI_d, kG_dt, kG_df]; split) | (simp only [kI_v, kG_vt, kG_vf]; split))
theorem pair_Class (hD : HasD g T) (hU : HasG g T) (F : Fm) {a b : Nat} (ha : a < 2 * F.sg) (hb : b < 2 * F.sg) : run G T 189 [.int .u8 F.u, zA a b] = some (.tup [.int .u8 (zcl (F.cls a) (F.cls b)), .int .i64 0]) := by
  rw [run_k G T hU.pair_Class]
  have h1 := word_Class (G := G) (T := T) hD hU F ha
  have h2 := word_Class (G := G) (T := T) hD hU F hb
  unfold zcl
  generalize F.cls a = c at *
  generalize F.cls b = d at *
  simp only [zA] at *
  by_cases q4 : c = 4 ∨ d = 4
  · rw [if_pos q4]
    by_cases k : c = 4
    · repeat' (first | (simp (maxSteps := 1000000) only [evB, if_true, if_false, ne_eq, Nat.reduceEqDiff, Nat.reduceAdd, reduceCtorEq, Int.reduceLE, Int.reduceLT, Int.reduceEq, Int.reduceNeg, Int.reduceToNat, Int.reducePow, Int.reduceMod, Int.reduceDiv, Int.reduceSub, Int.reduceAdd, Int.reduceMul, Nat.reduceMul, Nat.reduceSub, Nat.reducePow, exB, resC_ptr, res_cell, nilb, nilf, faddr_p, c_pair_Class, h1, h2, k]) | (simp (maxSteps := 1000000) (disch := first | with_reducible assumption | omega) only [dxB]) | (simp only [kI_d, kG_dt, kG_df]; split) | (simp only [kI_v, kG_vt, kG_vf]; split))
    · have k2 : d = 4 := by omega
      repeat' (first | (simp (maxSteps := 1000000) only [evB, if_true, if_false, ne_eq, Nat.reduceEqDiff, Nat.reduceAdd, reduceCtorEq, Int.reduceLE, Int.reduceLT, Int.reduceEq, Int.reduceNeg, Int.reduceToNat, Int.reducePow, Int.reduceMod, Int.reduceDiv, Int.reduceSub, Int.reduceAdd, Int.reduceMul, Nat.reduceMul, Nat.reduceSub, Nat.reducePow, exB, resC_ptr, res_cell, nilb, nilf, faddr_p, c_pair_Class, h1, h2, k, k2]) | (simp (maxSteps := 1000000) (disch := first | with_reducible assumption | omega) only [dxB]) | (simp only [kI_d, kG_dt, kG_df]; split) | (simp only [kI_v, kG_vt, kG_vf]; split))
  · rw [if_neg q4]
    have k1 : ¬ c = 4 := by omega
    have k2 : ¬ d = 4 := by omega
    by_cases q5 : c = 5 ∨ d = 5
    · rw [if_pos q5]
      by_cases k : c = 5
      · subst k; repeat' (first | (simp (maxSteps := 1000000) only [evB, if_true, if_false, ne_eq, Nat.reduceEqDiff, Nat.reduceAdd, reduceCtorEq, Int.reduceLE, Int.reduceLT, Int.reduceEq, Int.reduceNeg, Int.reduceToNat, Int.reducePow, Int.reduceMod, Int.reduceDiv, Int.reduceSub, Int.reduceAdd, Int.reduceMul, Nat.reduceMul, Nat.reduceSub, Nat.reducePow, exB, resC_ptr, res_cell, nilb, nilf, faddr_p, c_pair_Class, h1, h2, k2]) | (simp (maxSteps := 1000000) (disch := first | with_reducible assumption | omega) only [dxB]) | (simp only [kI_d, kG_dt, kG_df]; split) | (simp only [kI_v, kG_vt, kG_vf]; split))
      · have k3 : d = 5 := by omega
        subst k3; repeat' (first | (simp (maxSteps := 1000000) only [evB, if_true, if_false, ne_eq, Nat.reduceEqDiff, Nat.reduceAdd, reduceCtorEq, Int.reduceLE, Int.reduceLT, Int.reduceEq, Int.reduceNeg, Int.reduceToNat, Int.reducePow, Int.reduceMod, Int.reduceDiv, Int.reduceSub, Int.reduceAdd, Int.reduceMul, Nat.reduceMul, Nat.reduceSub, Nat.reducePow, exB, resC_ptr, res_cell, nilb, nilf, faddr_p, c_pair_Class, h1, h2, k, k1]) | (simp (maxSteps := 1000000) (disch := first | with_reducible assumption | omega) only [dxB]) | (simp only [kI_d, kG_dt, kG_df]; split) | (simp only [kI_v, kG_vt, kG_vf]; split))
    · rw [if_neg q5]
      have k3 : ¬ c = 5 := by omega
      have k4 : ¬ d = 5 := by omega
      by_cases q1 : c = 1 ∧ d = 1
      · rw [if_pos q1]
        obtain ⟨rfl, rfl⟩ := q1
        repeat' (first | (simp (maxSteps := 1000000) only [evB, if_true, if_false, ne_eq, Nat.reduceEqDiff, Nat.reduceAdd, reduceCtorEq, Int.reduceLE, Int.reduceLT, Int.reduceEq, Int.reduceNeg, Int.reduceToNat, Int.reducePow, Int.reduceMod, Int.reduceDiv, Int.reduceSub, Int.reduceAdd, Int.reduceMul, Nat.reduceMul, Nat.reduceSub, Nat.reducePow, exB, resC_ptr, res_cell, nilb, nilf, faddr_p, c_pair_Class, h1, h2]) | (simp (maxSteps := 1000000) (disch := first | with_reducible assumption | omega) only [dxB]) | (simp only [kI_d, kG_dt, kG_df]; split) | (simp only [kI_v, kG_vt, kG_vf]; split))
      · rw [if_neg q1]
        by_cases k5 : c = 1
        · have k6 : ¬ d = 1 := fun h => q1 ⟨k5, h⟩
          subst k5; repeat' (first | (simp (maxSteps := 1000000) only [evB, if_true, if_false, ne_eq, Nat.reduceEqDiff, Nat.reduceAdd, reduceCtorEq, Int.reduceLE, Int.reduceLT, Int.reduceEq, Int.reduceNeg, Int.reduceToNat, Int.reducePow, Int.reduceMod, Int.reduceDiv, Int.reduceSub, Int.reduceAdd, Int.reduceMul, Nat.reduceMul, Nat.reduceSub, Nat.reducePow, exB, resC_ptr, res_cell, nilb, nilf, faddr_p, c_pair_Class, h1, h2, k2, k4, k6]) | (simp (maxSteps := 1000000) (disch := first | with_reducible assumption | omega) only [dxB]) | (simp only [kI_d, kG_dt, kG_df]; split) | (simp only [kI_v, kG_vt, kG_vf]; split))
        · repeat' (first | (simp (maxSteps := 1000000) only [evB, if_true, if_false, ne_eq, Nat.reduceEqDiff, Nat.reduceAdd, reduceCtorEq, Int.reduceLE, Int.reduceLT, Int.reduceEq, Int.reduceNeg, Int.reduceToNat, Int.reducePow, Int.reduceMod, Int.reduceDiv, Int.reduceSub, Int.reduceAdd, Int.reduceMul, Nat.reduceMul, Nat.reduceSub, Nat.reducePow, exB, resC_ptr, res_cell, nilb, nilf, faddr_p, c_pair_Class, h1, h2, k1, k2, k3, k4, k5]) | (simp (maxSteps := 1000000) (disch := first | with_reducible assumption | omega) only [dxB]) | (simp only [kI_d, kG_dt, kG_df]; split) | (simp only [kI_v, kG_vt, kG_vf]; split))
theorem pair_Class_bad (hD : HasD g T) (hU : HasG g T) (F : Fm) {a b : Nat} (ha : a < 18446744073709551616) (hb : b < 18446744073709551616) (h : ¬ (a < 2 * F.sg ∧ b < 2 * F.sg)) : run G T 189 [.int .u8 F.u, zA a b] = some (.tup [.int .u8 0, .int .i64 6]) := by
  rw [run_k G T hU.pair_Class]
  by_cases k1 : a < 2 * F.sg
  · have h1 := word_Class (G := G) (T := T) hD hU F k1
    have h2 := word_Class_bad (G := G) (T := T) hD hU F hb (fun q => h ⟨k1, q⟩)
    generalize F.cls a = c at *
    simp only [zA] at *
    repeat' (first | (simp (maxSteps := 1000000) only [evB, if_true, if_false, ne_eq, Nat.reduceEqDiff, Nat.reduceAdd, reduceCtorEq, Int.reduceLE, Int.reduceLT, Int.reduceEq, Int.reduceNeg, Int.reduceToNat, Int.reducePow, Int.reduceMod, Int.reduceDiv, Int.reduceSub, Int.reduceAdd, Int.reduceMul, Nat.reduceMul, Nat.reduceSub, Nat.reducePow, exB, resC_ptr, res_cell, nilb, nilf, faddr_p, c_pair_Class, h1, h2]) | (simp (maxSteps := 1000000) (disch := first | with_reducible assumption | omega) only [dxB]) | (simp only [kI_d, kG_dt, kG_df]; split) | (simp only [kI_v, kG_vt, kG_vf]; split))
  · have h1 := word_Class_bad (G := G) (T := T) hD hU F ha k1
    simp only [zA] at *
    repeat' (first | (simp (maxSteps := 1000000) only [evB, if_true, if_false, ne_eq, Nat.reduceEqDiff, Nat.reduceAdd, reduceCtorEq, Int.reduceLE, Int.reduceLT, Int.reduceEq, Int.reduceNeg, Int.reduceToNat, Int.reducePow, Int.reduceMod, Int.reduceDiv, Int.reduceSub, Int.reduceAdd, Int.reduceMul, Nat.reduceMul, Nat.reduceSub, Nat.reducePow, exB, resC_ptr, res_cell, nilb, nilf, faddr_p, c_pair_Class, h1]) | (simp (maxSteps := 1000000) (disch := first | with_reducible assumption | omega) only [dxB]) | (simp only [kI_d, kG_dt, kG_df]; split) | (simp only [kI_v, kG_vt, kG_vf]; split))
theorem Bd_sq (F : Fm) (a b : Nat) : Bd (sqD F a b) 65537 := (Bd_add (Bd_mul (Bd_vl F a) (Bd_vl F a)) (Bd_mul (Bd_vl F b) (Bd_vl F b))).mono (by decide)
theorem Nz_sq (F : Fm) (a b : Nat) : Nz (sqD F a b) := Nz_add (Nz_mul _ _) (Nz_mul _ _)
theorem mulD_self (d : Dy) : (mulD d d).n = false := by
  unfold mulD
  rw [show (d.n != d.n) = false by cases d.n <;> rfl]
  unfold mkD; split <;> rfl
theorem sq_pos (F : Fm) (a b : Nat) : (sqD F a b).n = false := by
  unfold sqD
  have h1 := mulD_self (F.vl a)
  have h2 := mulD_self (F.vl b)
  generalize mulD (F.vl a) (F.vl a) = x at *
  generalize mulD (F.vl b) (F.vl b) = y at *
  unfold addD
  rw [h1, h2]
  repeat' split
  all_goals first | assumption | (unfold mkD; split <;> rfl)

theorem modulus_square (hA : HasA g T) (hG : Glob G g) (hC : HasC g T) (hD : HasD g T) (hU : HasG g T) (F : Fm) {a b : Nat} (ha : a < 2 * F.sg) (hb : b < 2 * F.sg) :
    ∃ z, run G T 191 [.int .u8 F.u, zA a b] = some (DyA z (sqD F a b)) := by
  obtain ⟨z1, k1, v1⟩ := word_Value (G := G) (T := T) hA hG hC hD hU F ha
  obtain ⟨z2, k2, v2⟩ := word_Value (G := G) (T := T) hA hG hC hD hU F hb
  have b1 := Bd_vl F a
  have b2 := Bd_vl F b
  have y1 := mayD_nzb (Nz_vl F a) (b1.mono (by decide))
  have y2 := mayD_nzb (Nz_vl F b) (b2.mono (by decide))
  obtain ⟨z3, m1⟩ := dyad_Mul (G := G) (T := T) hA hG hC hU (z := z1) (y := z1) (b1.mono (by decide)) (b1.mono (by decide)) y1 y1
  obtain ⟨z4, m2⟩ := dyad_Mul (G := G) (T := T) hA hG hC hU (z := z2) (y := z2) (b2.mono (by decide)) (b2.mono (by decide)) y2 y2
  have b3 := Bd_mul b1 b1
  have b4 := Bd_mul b2 b2
  obtain ⟨z5, s1⟩ := dyad_Add (G := G) (T := T) hA hG hC hU (z := z3) (y := z4) b3 b4 (mayD_nzb (Nz_mul _ _) (b3.mono (by decide))) (mayD_nzb (Nz_mul _ _) (b4.mono (by decide)))
  refine ⟨z5, ?_⟩
  rw [run_k G T hU.modulus_square]
  unfold sqD
  generalize addD (mulD (F.vl a) (F.vl a)) (mulD (F.vl b) (F.vl b)) = d at *
  generalize mulD (F.vl a) (F.vl a) = p at *
  generalize mulD (F.vl b) (F.vl b) = q at *
  generalize F.vl a = va at *
  generalize F.vl b = vb at *
  clear b1 b2 b3 b4 y1 y2
  simp only [zA, DyA, A3] at *
  repeat' (first | (simp (maxSteps := 1000000) only [evB, if_true, if_false, ne_eq, Nat.reduceEqDiff, Nat.reduceAdd, reduceCtorEq, Int.reduceLE, Int.reduceLT, Int.reduceEq, Int.reduceNeg, Int.reduceToNat, Int.reducePow, Int.reduceMod, Int.reduceDiv, Int.reduceSub, Int.reduceAdd, Int.reduceMul, Nat.reduceMul, Nat.reduceSub, Nat.reducePow, exB, resC_ptr, res_cell, nilb, nilf, faddr_p, c_modulus_square, v1, v2, m1, m2, s1]) | (simp (maxSteps := 1000000) (disch := first | with_reducible assumption | omega) only [dxB]) | (simp only [kI_d, kG_dt, kG_df]; split) | (simp only [kI_v, kG_vt, kG_vf]; split))

def toldW (F : Fm) (c : Int) (X : Nat × Nat) : Nat × Nat := if c = 3 then (F.inf false, 0) else if c = 4 then (F.nan, 0) else X
theorem modulus_told (hA : HasA g T) (hG : Glob G g) (hC : HasC g T) (hD : HasD g T) (hE : HasE g T) (hU : HasG g T) (F : Fm) {md : Int} (hm : 1 ≤ md ∧ md ≤ 5) {a b : Nat} (ha : a < 2 * F.sg) (hb : b < 2 * F.sg) {k : Nat} {X : Nat × Nat}
    (hk : ∀ z, run G T k [.int .u8 F.u, .int .u8 md, DyA z (sqD F a b)] = some (.tup [.int .u64 (X.1 : Int), .int .u8 (X.2 : Int), .int .i64 0])) :
    run G T 186 [.int .u8 F.u, .int .u8 md, zA a b, .fn k []] = some (.tup [.int .u64 ((toldW F (zcl (F.cls a) (F.cls b)) X).1 : Int), .int .u8 ((toldW F (zcl (F.cls a) (F.cls b)) X).2 : Int), .int .i64 0]) := by
  rw [run_k G T hU.modulus_told]
  have o1 := round_Over (G := G) (T := T) hD hE F hm (neg := false)
  have c1 := pair_Class (G := G) (T := T) hD hU F ha hb
  have i1 := word_Inf (G := G) (T := T) hD F (n := false)
  have n1 := word_None (G := G) (T := T) hU hD F
  obtain ⟨z, s1⟩ := modulus_square (G := G) (T := T) hA hG hC hD hU F ha hb
  have hk := hk z
  unfold toldW
  generalize zcl (F.cls a) (F.cls b) = c at *
  generalize sqD F a b = d at *
  simp only [zA, DyA, A3] at *
  by_cases k3 : c = 3
  · rw [if_pos k3]
    repeat' (first | (simp (maxSteps := 1000000) only [evB, if_true, if_false, ne_eq, Nat.reduceEqDiff, Nat.reduceAdd, reduceCtorEq, Int.reduceLE, Int.reduceLT, Int.reduceEq, Int.reduceNeg, Int.reduceToNat, Int.reducePow, Int.reduceMod, Int.reduceDiv, Int.reduceSub, Int.reduceAdd, Int.reduceMul, Nat.reduceMul, Nat.reduceSub, Nat.reducePow, exB, resC_ptr, res_cell, nilb, nilf, faddr_p, c_modulus_told, o1, c1, k3, i1]) | (simp (maxSteps := 1000000) (disch := first | with_reducible assumption | omega) only [dxB]) | (simp only [kI_d, kG_dt, kG_df]; split) | (simp only [kI_v, kG_vt, kG_vf]; split))
    all_goals rfl
  · rw [if_neg k3]
    by_cases k4 : c = 4
    · rw [if_pos k4]
      subst k4
      repeat' (first | (simp (maxSteps := 1000000) only [evB, if_true, if_false, ne_eq, Nat.reduceEqDiff, Nat.reduceAdd, reduceCtorEq, Int.reduceLE, Int.reduceLT, Int.reduceEq, Int.reduceNeg, Int.reduceToNat, Int.reducePow, Int.reduceMod, Int.reduceDiv, Int.reduceSub, Int.reduceAdd, Int.reduceMul, Nat.reduceMul, Nat.reduceSub, Nat.reducePow, exB, resC_ptr, res_cell, nilb, nilf, faddr_p, c_modulus_told, o1, c1, n1]) | (simp (maxSteps := 1000000) (disch := first | with_reducible assumption | omega) only [dxB]) | (simp only [kI_d, kG_dt, kG_df]; split) | (simp only [kI_v, kG_vt, kG_vf]; split))
      all_goals rfl
    · rw [if_neg k4]
      repeat' (first | (simp (maxSteps := 1000000) only [evB, if_true, if_false, ne_eq, Nat.reduceEqDiff, Nat.reduceAdd, reduceCtorEq, Int.reduceLE, Int.reduceLT, Int.reduceEq, Int.reduceNeg, Int.reduceToNat, Int.reducePow, Int.reduceMod, Int.reduceDiv, Int.reduceSub, Int.reduceAdd, Int.reduceMul, Nat.reduceMul, Nat.reduceSub, Nat.reducePow, exB, resC_ptr, res_cell, nilb, nilf, faddr_p, c_modulus_told, o1, c1, k3, k4, s1, hk]) | (simp (maxSteps := 1000000) (disch := first | with_reducible assumption | omega) only [dxB]) | (simp only [kI_d, kG_dt, kG_df]; split) | (simp only [kI_v, kG_vt, kG_vf]; split))
      all_goals try rfl
theorem modulus_told_no (hE : HasE g T) (hU : HasG g T) {f md : Int} (hf : ¬ (f = 1 ∨ f = 2)) {a b k : Nat} : run G T 186 [.int .u8 f, .int .u8 md, zA a b, .fn k []] = some (.tup [.int .u64 0, .int .u8 0, .int .i64 4]) := by
  rw [run_k G T hU.modulus_told]
  have o1 := round_Over_no (G := G) (T := T) hE hf (m := md) (neg := false)
  simp only [zA] at *
  repeat' (first | (simp (maxSteps := 1000000) only [evB, if_true, if_false, ne_eq, Nat.reduceEqDiff, Nat.reduceAdd, reduceCtorEq, Int.reduceLE, Int.reduceLT, Int.reduceEq, Int.reduceNeg, Int.reduceToNat, Int.reducePow, Int.reduceMod, Int.reduceDiv, Int.reduceSub, Int.reduceAdd, Int.reduceMul, Nat.reduceMul, Nat.reduceSub, Nat.reducePow, exB, resC_ptr, res_cell, nilb, nilf, faddr_p, c_modulus_told, o1]) | (simp (maxSteps := 1000000) (disch := first | with_reducible assumption | omega) only [dxB]) | (simp only [kI_d, kG_dt, kG_df]; split) | (simp only [kI_v, kG_vt, kG_vf]; split))
theorem modulus_told_mode (hE : HasE g T) (hU : HasG g T) (F : Fm) {md : Int} (hm : ¬ (1 ≤ md ∧ md ≤ 5)) {a b k : Nat} : run G T 186 [.int .u8 F.u, .int .u8 md, zA a b, .fn k []] = some (.tup [.int .u64 0, .int .u8 0, .int .i64 5]) := by
  rw [run_k G T hU.modulus_told]
  have o1 := round_Over_mode (G := G) (T := T) hE F (m := md) (by omega) (neg := false)
  simp only [zA] at *
  repeat' (first | (simp (maxSteps := 1000000) only [evB, if_true, if_false, ne_eq, Nat.reduceEqDiff, Nat.reduceAdd, reduceCtorEq, Int.reduceLE, Int.reduceLT, Int.reduceEq, Int.reduceNeg, Int.reduceToNat, Int.reducePow, Int.reduceMod, Int.reduceDiv, Int.reduceSub, Int.reduceAdd, Int.reduceMul, Nat.reduceMul, Nat.reduceSub, Nat.reducePow, exB, resC_ptr, res_cell, nilb, nilf, faddr_p, c_modulus_told, o1]) | (simp (maxSteps := 1000000) (disch := first | with_reducible assumption | omega) only [dxB]) | (simp only [kI_d, kG_dt, kG_df]; split) | (simp only [kI_v, kG_vt, kG_vf]; split))
theorem modulus_told_bad (hD : HasD g T) (hE : HasE g T) (hU : HasG g T) (F : Fm) {md : Int} (hm : 1 ≤ md ∧ md ≤ 5) {a b k : Nat} (ha : a < 18446744073709551616) (hb : b < 18446744073709551616) (h : ¬ (a < 2 * F.sg ∧ b < 2 * F.sg)) :
    run G T 186 [.int .u8 F.u, .int .u8 md, zA a b, .fn k []] = some (.tup [.int .u64 0, .int .u8 0, .int .i64 6]) := by
  rw [run_k G T hU.modulus_told]
  have o1 := round_Over (G := G) (T := T) hD hE F hm (neg := false)
  have c1 := pair_Class_bad (G := G) (T := T) hD hU F ha hb h
  simp only [zA] at *
  repeat' (first | (simp (maxSteps := 1000000) only [evB, if_true, if_false, ne_eq, Nat.reduceEqDiff, Nat.reduceAdd, reduceCtorEq, Int.reduceLE, Int.reduceLT, Int.reduceEq, Int.reduceNeg, Int.reduceToNat, Int.reducePow, Int.reduceMod, Int.reduceDiv, Int.reduceSub, Int.reduceAdd, Int.reduceMul, Nat.reduceMul, Nat.reduceSub, Nat.reducePow, exB, resC_ptr, res_cell, nilb, nilf, faddr_p, c_modulus_told, o1, c1]) | (simp (maxSteps := 1000000) (disch := first | with_reducible assumption | omega) only [dxB]) | (simp only [kI_d, kG_dt, kG_df]; split) | (simp only [kI_v, kG_vt, kG_vf]; split))

/-- A root, of nought too. -/
noncomputable def rtW (F : Fm) (md : Int) (d : Dy) : Nat × Nat := if d.m = 0 then (0, 0) else rootW F md d
def normZ (F : Fm) (md : Int) (a b : Nat) : Nat × Nat := toldW F (zcl (F.cls a) (F.cls b)) (rndW F md (sqD F a b))
noncomputable def absZ (F : Fm) (md : Int) (a b : Nat) : Nat × Nat := toldW F (zcl (F.cls a) (F.cls b)) (rtW F md (sqD F a b))

theorem modulus_Norm (hA : HasA g T) (hG : Glob G g) (hC : HasC g T) (hD : HasD g T) (hE : HasE g T) (hU : HasG g T) (F : Fm) {md : Int} (hm : 1 ≤ md ∧ md ≤ 5) {a b : Nat} (ha : a < 2 * F.sg) (hb : b < 2 * F.sg) :
    run G T 171 [.int .u8 F.u, .int .u8 md, zA a b] = some (.tup [.int .u64 ((normZ F md a b).1 : Int), .int .u8 ((normZ F md a b).2 : Int), .int .i64 0]) := by
  rw [run_k G T hU.modulus_Norm]
  have h1 := modulus_told (G := G) (T := T) hA hG hC hD hE hU F hm ha hb (k := 7) (X := rndW F md (sqD F a b)) (fun z => round_Round (G := G) (T := T) hA hC hG hD hE F hm (z := z) (mayD_nzb (Nz_sq F a b) ((Bd_sq F a b).mono (by decide))))
  unfold normZ
  generalize toldW F (zcl (F.cls a) (F.cls b)) (rndW F md (sqD F a b)) = S at *
  simp only [zA] at *
  repeat' (first | (simp (maxSteps := 1000000) only [evB, if_true, if_false, ne_eq, Nat.reduceEqDiff, Nat.reduceAdd, reduceCtorEq, Int.reduceLE, Int.reduceLT, Int.reduceEq, Int.reduceNeg, Int.reduceToNat, Int.reducePow, Int.reduceMod, Int.reduceDiv, Int.reduceSub, Int.reduceAdd, Int.reduceMul, Nat.reduceMul, Nat.reduceSub, Nat.reducePow, exB, resC_ptr, res_cell, nilb, nilf, faddr_p, c_modulus_Norm, h1]) | (simp (maxSteps := 1000000) (disch := first | with_reducible assumption | omega) only [dxB]) | (simp only [kI_d, kG_dt, kG_df]; split) | (simp only [kI_v, kG_vt, kG_vf]; split))
  all_goals try rfl
theorem modulus_Abs (hA : HasA g T) (hG : Glob G g) (hC : HasC g T) (hD : HasD g T) (hE : HasE g T) (hU : HasG g T) (F : Fm) {md : Int} (hm : 1 ≤ md ∧ md ≤ 5) {a b : Nat} (ha : a < 2 * F.sg) (hb : b < 2 * F.sg) :
    run G T 169 [.int .u8 F.u, .int .u8 md, zA a b] = some (.tup [.int .u64 ((absZ F md a b).1 : Int), .int .u8 ((absZ F md a b).2 : Int), .int .i64 0]) := by
  rw [run_k G T hU.modulus_Abs]
  have hd := mayD_nzb (Nz_sq F a b) ((Bd_sq F a b).mono (show 65537 ≤ 131072 by decide))
  have h1 := modulus_told (G := G) (T := T) hA hG hC hD hE hU F hm ha hb (k := 18) (X := rtW F md (sqD F a b)) (fun z => by
    unfold rtW
    by_cases h0 : (sqD F a b).m = 0
    · rw [if_pos h0]; exact round_Root_zero (G := G) (T := T) hA hC hE F hm hd h0
    · rw [if_neg h0]; exact round_Root (G := G) (T := T) hA hC hG hD hE F hm hd h0 (sq_pos F a b))
  unfold absZ
  generalize toldW F (zcl (F.cls a) (F.cls b)) (rtW F md (sqD F a b)) = S at *
  simp only [zA] at *
  repeat' (first | (simp (maxSteps := 1000000) only [evB, if_true, if_false, ne_eq, Nat.reduceEqDiff, Nat.reduceAdd, reduceCtorEq, Int.reduceLE, Int.reduceLT, Int.reduceEq, Int.reduceNeg, Int.reduceToNat, Int.reducePow, Int.reduceMod, Int.reduceDiv, Int.reduceSub, Int.reduceAdd, Int.reduceMul, Nat.reduceMul, Nat.reduceSub, Nat.reducePow, exB, resC_ptr, res_cell, nilb, nilf, faddr_p, c_modulus_Abs, h1]) | (simp (maxSteps := 1000000) (disch := first | with_reducible assumption | omega) only [dxB]) | (simp only [kI_d, kG_dt, kG_df]; split) | (simp only [kI_v, kG_vt, kG_vf]; split))
  all_goals try rfl
/-- Which of two numbers is greater. -/
def cmpZ (F : Fm) (a b c d : Nat) : Int :=
  if zcl (F.cls a) (F.cls b) = 4 ∨ zcl (F.cls c) (F.cls d) = 4 then 4
  else if zcl (F.cls a) (F.cls b) = 3 ∧ zcl (F.cls c) (F.cls d) = 3 then 2
  else if zcl (F.cls a) (F.cls b) = 3 then 3
  else if zcl (F.cls c) (F.cls d) = 3 then 1
  else 2 + cmpD (sqD F a b) (sqD F c d)
theorem modulus_Cmp (hA : HasA g T) (hG : Glob G g) (hC : HasC g T) (hD : HasD g T) (hU : HasG g T) (F : Fm) {a b c d : Nat} (ha : a < 2 * F.sg) (hb : b < 2 * F.sg) (hc : c < 2 * F.sg) (hd : d < 2 * F.sg) :
    run G T 174 [.int .u8 F.u, zA a b, zA c d] = some (.tup [.int .u8 (cmpZ F a b c d), .int .i64 0]) := by
  rw [run_k G T hU.modulus_Cmp]
  have c1 := pair_Class (G := G) (T := T) hD hU F ha hb
  have c2 := pair_Class (G := G) (T := T) hD hU F hc hd
  obtain ⟨z1, s1⟩ := modulus_square (G := G) (T := T) hA hG hC hD hU F ha hb
  obtain ⟨z2, s2⟩ := modulus_square (G := G) (T := T) hA hG hC hD hU F hc hd
  have k1 := dyad_Cmp (G := G) (T := T) hA hC hU (z := z1) (y := z2) (Nz_sq F a b) (Nz_sq F c d) (Bd_sq F a b) (Bd_sq F c d)
  have hv := cmpD_val (sqD F a b) (sqD F c d)
  unfold cmpZ
  generalize zcl (F.cls a) (F.cls b) = x at *
  generalize zcl (F.cls c) (F.cls d) = y at *
  generalize cmpD (sqD F a b) (sqD F c d) = q at *
  generalize sqD F a b = p1 at *
  generalize sqD F c d = p2 at *
  simp only [zA, DyA, A3] at *
  by_cases q4 : x = 4 ∨ y = 4
  · rw [if_pos q4]
    by_cases k : x = 4
    · subst k; repeat' (first | (simp (maxSteps := 1000000) only [evB, if_true, if_false, ne_eq, Nat.reduceEqDiff, Nat.reduceAdd, reduceCtorEq, Int.reduceLE, Int.reduceLT, Int.reduceEq, Int.reduceNeg, Int.reduceToNat, Int.reducePow, Int.reduceMod, Int.reduceDiv, Int.reduceSub, Int.reduceAdd, Int.reduceMul, Nat.reduceMul, Nat.reduceSub, Nat.reducePow, exB, resC_ptr, res_cell, nilb, nilf, faddr_p, c_modulus_Cmp, c1, c2]) | (simp (maxSteps := 1000000) (disch := first | with_reducible assumption | omega) only [dxB]) | (simp only [kI_d, kG_dt, kG_df]; split) | (simp only [kI_v, kG_vt, kG_vf]; split))
    · have k2 : y = 4 := by omega
      subst k2; repeat' (first | (simp (maxSteps := 1000000) only [evB, if_true, if_false, ne_eq, Nat.reduceEqDiff, Nat.reduceAdd, reduceCtorEq, Int.reduceLE, Int.reduceLT, Int.reduceEq, Int.reduceNeg, Int.reduceToNat, Int.reducePow, Int.reduceMod, Int.reduceDiv, Int.reduceSub, Int.reduceAdd, Int.reduceMul, Nat.reduceMul, Nat.reduceSub, Nat.reducePow, exB, resC_ptr, res_cell, nilb, nilf, faddr_p, c_modulus_Cmp, c1, c2, k]) | (simp (maxSteps := 1000000) (disch := first | with_reducible assumption | omega) only [dxB]) | (simp only [kI_d, kG_dt, kG_df]; split) | (simp only [kI_v, kG_vt, kG_vf]; split))
  · rw [if_neg q4]
    have n1 : ¬ x = 4 := by omega
    have n2 : ¬ y = 4 := by omega
    by_cases x3 : x = 3
    · by_cases y3 : y = 3
      · rw [if_pos ⟨x3, y3⟩]
        subst x3 y3; repeat' (first | (simp (maxSteps := 1000000) only [evB, if_true, if_false, ne_eq, Nat.reduceEqDiff, Nat.reduceAdd, reduceCtorEq, Int.reduceLE, Int.reduceLT, Int.reduceEq, Int.reduceNeg, Int.reduceToNat, Int.reducePow, Int.reduceMod, Int.reduceDiv, Int.reduceSub, Int.reduceAdd, Int.reduceMul, Nat.reduceMul, Nat.reduceSub, Nat.reducePow, exB, resC_ptr, res_cell, nilb, nilf, faddr_p, c_modulus_Cmp, c1, c2]) | (simp (maxSteps := 1000000) (disch := first | with_reducible assumption | omega) only [dxB]) | (simp only [kI_d, kG_dt, kG_df]; split) | (simp only [kI_v, kG_vt, kG_vf]; split))
      · rw [if_neg (fun h => y3 h.2), if_pos x3]
        subst x3; repeat' (first | (simp (maxSteps := 1000000) only [evB, if_true, if_false, ne_eq, Nat.reduceEqDiff, Nat.reduceAdd, reduceCtorEq, Int.reduceLE, Int.reduceLT, Int.reduceEq, Int.reduceNeg, Int.reduceToNat, Int.reducePow, Int.reduceMod, Int.reduceDiv, Int.reduceSub, Int.reduceAdd, Int.reduceMul, Nat.reduceMul, Nat.reduceSub, Nat.reducePow, exB, resC_ptr, res_cell, nilb, nilf, faddr_p, c_modulus_Cmp, c1, c2, n2, y3]) | (simp (maxSteps := 1000000) (disch := first | with_reducible assumption | omega) only [dxB]) | (simp only [kI_d, kG_dt, kG_df]; split) | (simp only [kI_v, kG_vt, kG_vf]; split))
    · rw [if_neg (fun h => x3 h.1), if_neg x3]
      by_cases y3 : y = 3
      · rw [if_pos y3]
        subst y3; repeat' (first | (simp (maxSteps := 1000000) only [evB, if_true, if_false, ne_eq, Nat.reduceEqDiff, Nat.reduceAdd, reduceCtorEq, Int.reduceLE, Int.reduceLT, Int.reduceEq, Int.reduceNeg, Int.reduceToNat, Int.reducePow, Int.reduceMod, Int.reduceDiv, Int.reduceSub, Int.reduceAdd, Int.reduceMul, Nat.reduceMul, Nat.reduceSub, Nat.reducePow, exB, resC_ptr, res_cell, nilb, nilf, faddr_p, c_modulus_Cmp, c1, c2, n1, x3]) | (simp (maxSteps := 1000000) (disch := first | with_reducible assumption | omega) only [dxB]) | (simp only [kI_d, kG_dt, kG_df]; split) | (simp only [kI_v, kG_vt, kG_vf]; split))
      · rw [if_neg y3]
        have u1 : IntKind.u8.wrap (-1) = 255 := rfl
        have u2 : IntKind.u8.wrap 0 = 0 := rfl
        have u3 : IntKind.u8.wrap 1 = 1 := rfl
        have u4 : IntKind.u8.wrap (2 + 255) = 1 := rfl
        have u5 : IntKind.u8.wrap (2 + 0) = 2 := rfl
        have u6 : IntKind.u8.wrap (2 + 1) = 3 := rfl
        have u7 : IntKind.u8.wrap 257 = 1 := rfl
        have u8 : IntKind.u8.wrap 2 = 2 := rfl
        have u9 : IntKind.u8.wrap 3 = 3 := rfl
        rcases hv with rfl | rfl | rfl <;> (
          repeat' (first | (simp (maxSteps := 1000000) only [evB, if_true, if_false, ne_eq, Nat.reduceEqDiff, Nat.reduceAdd, reduceCtorEq, Int.reduceLE, Int.reduceLT, Int.reduceEq, Int.reduceNeg, Int.reduceToNat, Int.reducePow, Int.reduceMod, Int.reduceDiv, Int.reduceSub, Int.reduceAdd, Int.reduceMul, Nat.reduceMul, Nat.reduceSub, Nat.reducePow, exB, resC_ptr, res_cell, nilb, nilf, faddr_p, c_modulus_Cmp, c1, c2, n1, n2, x3, y3, s1, s2, k1, u1, u2, u3, u4, u5, u6, u7, u8, u9]) | (simp (maxSteps := 1000000) (disch := first | with_reducible assumption | omega) only [dxB]) | (simp only [kI_d, kG_dt, kG_df]; split) | (simp only [kI_v, kG_vt, kG_vf]; split))
          all_goals try rfl)
end Go.Cv

/-
  The document's moduli; what is refused.
-/
namespace Go.Cv
variable {G : Nat → Option (List AV)} {T : Tbl} {g : Nat}

theorem gd_loop (e : Env) (h : Heap) : evL G T c_ref10_Good_l1 e h = kS G T (evL G T c_ref10_Good_b1 (keepE [0, 1, 5] e) h) c_ref10_Good_l1 := s_loopc G T rfl e h
section
variable (x y u v : AV) (k : IntKind)
theorem i2_10 : iaddrV 2 (.imm 1 [x, y]) (.int k 0) = some (.iptr [x, y] 0) := rfl
theorem i2_20 : iaddrV 2 (.imm 2 [x, y, u, v]) (.int k 0) = some (.iptr [x, y, u, v] 0) := rfl
theorem i2_21 : iaddrV 2 (.imm 2 [x, y, u, v]) (.int k 1) = some (.iptr [x, y, u, v] 2) := rfl
theorem fa_i (off o : Nat) (cs : List AV) : faddrA off (.iptr cs o) = some (.iptr cs (o + off)) := rfl
theorem rp_3 (h : Mem) (l : List AV) : rdAt G h 1 (.iptr (x :: y :: u :: v :: l) 3) = some [v] := by simp [rdAt]
end
theorem st_bs2 (F : CallF) (d : Option Nat) (os : List IOper) (e : Env) (h : Heap) (n : Nat) (zero : List AV) (ps : List (Nat × Nat × IOpd)) : evOps G F (⟨d, .bslice n 2 zero ps, none⟩ :: os) e h =
    kBs G F (fillA (repA n zero) (ps.map fun (o, n, x) => (o, n, opd e x))) (.own h.b.length 0 n 2) d os e h := st_bslice G F d os e h n 2 zero ps
theorem ref10_Good1 (hD : HasD g T) (hF : HasF g T) (hU : HasG g T) (F : Fm) {a b : Nat} (ha : a < 18446744073709551616) (hb : b < 18446744073709551616) :
    run G T 185 [.int .u8 F.u, .imm 1 [.int .u64 (a : Int), .int .u64 (b : Int)]] = some (.int .i64 (if a < 2 * F.sg ∧ b < 2 * F.sg then 0 else 6)) := by
  rw [run_k G T hU.ref10_Good]
  have h1 := ref03_IsF (G := G) (T := T) hD F
  have h3 := ref03_Good (G := G) (T := T) hD hF F ha
  have h4 := ref03_Good (G := G) (T := T) hD hF F hb
  by_cases k1 : a < 2 * F.sg
  · rw [if_pos k1] at h3
    by_cases k2 : b < 2 * F.sg
    · rw [if_pos k2] at h4
      rw [if_pos ⟨k1, k2⟩]
      repeat' (first | (simp (maxSteps := 1000000) only [evB, if_true, if_false, ne_eq, Nat.reduceEqDiff, Nat.reduceAdd, reduceCtorEq, Int.reduceLE, Int.reduceLT, Int.reduceEq, Int.reduceNeg, Int.reduceToNat, Int.reducePow, Int.reduceMod, Int.reduceDiv, Int.reduceSub, Int.reduceAdd, Int.reduceMul, Nat.reduceMul, Nat.reduceSub, Nat.reducePow, exB, resC_ptr, res_cell, nilb, nilf, faddr_p, c_ref10_Good, h1, gd_loop, c_ref10_Good_b1, i2_10, fa_i, rp_0, rp_1, wr_1, wr1, h3, h4]) | (simp (maxSteps := 1000000) (disch := first | with_reducible assumption | omega) only [dxB]) | (simp only [kI_d, kG_dt, kG_df]; split) | (simp only [kI_v, kG_vt, kG_vf]; split))
    · rw [if_neg k2] at h4
      rw [if_neg (fun h => k2 h.2)]
      repeat' (first | (simp (maxSteps := 1000000) only [evB, if_true, if_false, ne_eq, Nat.reduceEqDiff, Nat.reduceAdd, reduceCtorEq, Int.reduceLE, Int.reduceLT, Int.reduceEq, Int.reduceNeg, Int.reduceToNat, Int.reducePow, Int.reduceMod, Int.reduceDiv, Int.reduceSub, Int.reduceAdd, Int.reduceMul, Nat.reduceMul, Nat.reduceSub, Nat.reducePow, exB, resC_ptr, res_cell, nilb, nilf, faddr_p, c_ref10_Good, h1, gd_loop, c_ref10_Good_b1, i2_10, fa_i, rp_0, rp_1, wr_1, wr1, h3, h4]) | (simp (maxSteps := 1000000) (disch := first | with_reducible assumption | omega) only [dxB]) | (simp only [kI_d, kG_dt, kG_df]; split) | (simp only [kI_v, kG_vt, kG_vf]; split))
  · rw [if_neg k1] at h3
    rw [if_neg (fun h => k1 h.1)]
    repeat' (first | (simp (maxSteps := 1000000) only [evB, if_true, if_false, ne_eq, Nat.reduceEqDiff, Nat.reduceAdd, reduceCtorEq, Int.reduceLE, Int.reduceLT, Int.reduceEq, Int.reduceNeg, Int.reduceToNat, Int.reducePow, Int.reduceMod, Int.reduceDiv, Int.reduceSub, Int.reduceAdd, Int.reduceMul, Nat.reduceMul, Nat.reduceSub, Nat.reducePow, exB, resC_ptr, res_cell, nilb, nilf, faddr_p, c_ref10_Good, h1, gd_loop, c_ref10_Good_b1, i2_10, fa_i, rp_0, rp_1, wr_1, wr1, h3]) | (simp (maxSteps := 1000000) (disch := first | with_reducible assumption | omega) only [dxB]) | (simp only [kI_d, kG_dt, kG_df]; split) | (simp only [kI_v, kG_vt, kG_vf]; split))
theorem ref10_Good2 (hD : HasD g T) (hF : HasF g T) (hU : HasG g T) (F : Fm) {a b c d : Nat} (ha : a < 18446744073709551616) (hb : b < 18446744073709551616) (hc : c < 18446744073709551616) (hd : d < 18446744073709551616) :
    run G T 185 [.int .u8 F.u, .imm 2 [.int .u64 (a : Int), .int .u64 (b : Int), .int .u64 (c : Int), .int .u64 (d : Int)]] = some (.int .i64 (if (a < 2 * F.sg ∧ b < 2 * F.sg) ∧ (c < 2 * F.sg ∧ d < 2 * F.sg) then 0 else 6)) := by
  rw [run_k G T hU.ref10_Good]
  have h1 := ref03_IsF (G := G) (T := T) hD F
  have h3 := ref03_Good (G := G) (T := T) hD hF F ha
  have h4 := ref03_Good (G := G) (T := T) hD hF F hb
  have h5 := ref03_Good (G := G) (T := T) hD hF F hc
  have h6 := ref03_Good (G := G) (T := T) hD hF F hd
  by_cases k1 : a < 2 * F.sg
  · rw [if_pos k1] at h3
    by_cases k2 : b < 2 * F.sg
    · rw [if_pos k2] at h4
      by_cases k3 : c < 2 * F.sg
      · rw [if_pos k3] at h5
        by_cases k4 : d < 2 * F.sg
        · rw [if_pos k4] at h6
          rw [if_pos ⟨⟨k1, k2⟩, k3, k4⟩]
          repeat' (first | (simp (maxSteps := 1000000) only [evB, if_true, if_false, ne_eq, Nat.reduceEqDiff, Nat.reduceAdd, reduceCtorEq, Int.reduceLE, Int.reduceLT, Int.reduceEq, Int.reduceNeg, Int.reduceToNat, Int.reducePow, Int.reduceMod, Int.reduceDiv, Int.reduceSub, Int.reduceAdd, Int.reduceMul, Nat.reduceMul, Nat.reduceSub, Nat.reducePow, exB, resC_ptr, res_cell, nilb, nilf, faddr_p, c_ref10_Good, h1, gd_loop, c_ref10_Good_b1, i2_20, i2_21, fa_i, rp_0, rp_1, rp_2, rp_3, wr_1, wr1, wr_2, wr2, h3, h4, h5, h6]) | (simp (maxSteps := 1000000) (disch := first | with_reducible assumption | omega) only [dxB]) | (simp only [kI_d, kG_dt, kG_df]; split) | (simp only [kI_v, kG_vt, kG_vf]; split))
        · rw [if_neg k4] at h6
          rw [if_neg (fun h => k4 h.2.2)]
          repeat' (first | (simp (maxSteps := 1000000) only [evB, if_true, if_false, ne_eq, Nat.reduceEqDiff, Nat.reduceAdd, reduceCtorEq, Int.reduceLE, Int.reduceLT, Int.reduceEq, Int.reduceNeg, Int.reduceToNat, Int.reducePow, Int.reduceMod, Int.reduceDiv, Int.reduceSub, Int.reduceAdd, Int.reduceMul, Nat.reduceMul, Nat.reduceSub, Nat.reducePow, exB, resC_ptr, res_cell, nilb, nilf, faddr_p, c_ref10_Good, h1, gd_loop, c_ref10_Good_b1, i2_20, i2_21, fa_i, rp_0, rp_1, rp_2, rp_3, wr_1, wr1, wr_2, wr2, h3, h4, h5, h6]) | (simp (maxSteps := 1000000) (disch := first | with_reducible assumption | omega) only [dxB]) | (simp only [kI_d, kG_dt, kG_df]; split) | (simp only [kI_v, kG_vt, kG_vf]; split))
      · rw [if_neg k3] at h5
        rw [if_neg (fun h => k3 h.2.1)]
        repeat' (first | (simp (maxSteps := 1000000) only [evB, if_true, if_false, ne_eq, Nat.reduceEqDiff, Nat.reduceAdd, reduceCtorEq, Int.reduceLE, Int.reduceLT, Int.reduceEq, Int.reduceNeg, Int.reduceToNat, Int.reducePow, Int.reduceMod, Int.reduceDiv, Int.reduceSub, Int.reduceAdd, Int.reduceMul, Nat.reduceMul, Nat.reduceSub, Nat.reducePow, exB, resC_ptr, res_cell, nilb, nilf, faddr_p, c_ref10_Good, h1, gd_loop, c_ref10_Good_b1, i2_20, i2_21, fa_i, rp_0, rp_1, rp_2, rp_3, wr_1, wr1, wr_2, wr2, h3, h4, h5]) | (simp (maxSteps := 1000000) (disch := first | with_reducible assumption | omega) only [dxB]) | (simp only [kI_d, kG_dt, kG_df]; split) | (simp only [kI_v, kG_vt, kG_vf]; split))
    · rw [if_neg k2] at h4
      rw [if_neg (fun h => k2 h.1.2)]
      repeat' (first | (simp (maxSteps := 1000000) only [evB, if_true, if_false, ne_eq, Nat.reduceEqDiff, Nat.reduceAdd, reduceCtorEq, Int.reduceLE, Int.reduceLT, Int.reduceEq, Int.reduceNeg, Int.reduceToNat, Int.reducePow, Int.reduceMod, Int.reduceDiv, Int.reduceSub, Int.reduceAdd, Int.reduceMul, Nat.reduceMul, Nat.reduceSub, Nat.reducePow, exB, resC_ptr, res_cell, nilb, nilf, faddr_p, c_ref10_Good, h1, gd_loop, c_ref10_Good_b1, i2_20, i2_21, fa_i, rp_0, rp_1, rp_2, rp_3, wr_1, wr1, wr_2, wr2, h3, h4]) | (simp (maxSteps := 1000000) (disch := first | with_reducible assumption | omega) only [dxB]) | (simp only [kI_d, kG_dt, kG_df]; split) | (simp only [kI_v, kG_vt, kG_vf]; split))
  · rw [if_neg k1] at h3
    rw [if_neg (fun h => k1 h.1.1)]
    repeat' (first | (simp (maxSteps := 1000000) only [evB, if_true, if_false, ne_eq, Nat.reduceEqDiff, Nat.reduceAdd, reduceCtorEq, Int.reduceLE, Int.reduceLT, Int.reduceEq, Int.reduceNeg, Int.reduceToNat, Int.reducePow, Int.reduceMod, Int.reduceDiv, Int.reduceSub, Int.reduceAdd, Int.reduceMul, Nat.reduceMul, Nat.reduceSub, Nat.reducePow, exB, resC_ptr, res_cell, nilb, nilf, faddr_p, c_ref10_Good, h1, gd_loop, c_ref10_Good_b1, i2_20, i2_21, fa_i, rp_0, rp_1, rp_2, rp_3, wr_1, wr1, wr_2, wr2, h3]) | (simp (maxSteps := 1000000) (disch := first | with_reducible assumption | omega) only [dxB]) | (simp only [kI_d, kG_dt, kG_df]; split) | (simp only [kI_v, kG_vt, kG_vf]; split))

theorem law13_opens_no (hD : HasD g T) (hU : HasG g T) {f md : Int} (h : ¬ (f = 1 ∨ f = 2)) {v : AV} : run G T 167 [.int .u8 f, .int .u8 md, v] = some (.int .i64 4) := by
  rw [run_k G T hU.law13_opens]
  have h1 := ref05_Opens_no (G := G) (T := T) hD hU h (md := md) (v := .nil)
  repeat' (first | (simp (maxSteps := 1000000) only [evB, if_true, if_false, ne_eq, Nat.reduceEqDiff, Nat.reduceAdd, reduceCtorEq, Int.reduceLE, Int.reduceLT, Int.reduceEq, Int.reduceNeg, Int.reduceToNat, Int.reducePow, Int.reduceMod, Int.reduceDiv, Int.reduceSub, Int.reduceAdd, Int.reduceMul, Nat.reduceMul, Nat.reduceSub, Nat.reducePow, exB, resC_ptr, res_cell, nilb, nilf, faddr_p, c_law13_opens, h1]) | (simp (maxSteps := 1000000) (disch := first | with_reducible assumption | omega) only [dxB]) | (simp only [kI_d, kG_dt, kG_df]; split) | (simp only [kI_v, kG_vt, kG_vf]; split))
theorem law13_opens_mode (hD : HasD g T) (hE : HasE g T) (hU : HasG g T) (F : Fm) {md : Int} (h : ¬ (1 ≤ md ∧ md ≤ 5)) {v : AV} : run G T 167 [.int .u8 F.u, .int .u8 md, v] = some (.int .i64 5) := by
  rw [run_k G T hU.law13_opens]
  have h1 := ref05_Opens_mode (G := G) (T := T) hD hE hU F h (v := .nil)
  repeat' (first | (simp (maxSteps := 1000000) only [evB, if_true, if_false, ne_eq, Nat.reduceEqDiff, Nat.reduceAdd, reduceCtorEq, Int.reduceLE, Int.reduceLT, Int.reduceEq, Int.reduceNeg, Int.reduceToNat, Int.reducePow, Int.reduceMod, Int.reduceDiv, Int.reduceSub, Int.reduceAdd, Int.reduceMul, Nat.reduceMul, Nat.reduceSub, Nat.reducePow, exB, resC_ptr, res_cell, nilb, nilf, faddr_p, c_law13_opens, h1]) | (simp (maxSteps := 1000000) (disch := first | with_reducible assumption | omega) only [dxB]) | (simp only [kI_d, kG_dt, kG_df]; split) | (simp only [kI_v, kG_vt, kG_vf]; split))
theorem law13_opens_k (hD : HasD g T) (hE : HasE g T) (hU : HasG g T) (F : Fm) {md : Int} (h : 1 ≤ md ∧ md ≤ 5) {n : Nat} {cs : List AV} {e : Int} (h2 : run G T 185 [.int .u8 F.u, .imm n cs] = some (.int .i64 e)) : run G T 167 [.int .u8 F.u, .int .u8 md, .imm n cs] = some (.int .i64 e) := by
  rw [run_k G T hU.law13_opens]
  have h1 := ref05_Opens0 (G := G) (T := T) hD hE hU F h
  repeat' (first | (simp (maxSteps := 1000000) only [evB, if_true, if_false, ne_eq, Nat.reduceEqDiff, Nat.reduceAdd, reduceCtorEq, Int.reduceLE, Int.reduceLT, Int.reduceEq, Int.reduceNeg, Int.reduceToNat, Int.reducePow, Int.reduceMod, Int.reduceDiv, Int.reduceSub, Int.reduceAdd, Int.reduceMul, Nat.reduceMul, Nat.reduceSub, Nat.reducePow, exB, resC_ptr, res_cell, nilb, nilf, faddr_p, c_law13_opens, h1, h2]) | (simp (maxSteps := 1000000) (disch := first | with_reducible assumption | omega) only [dxB]) | (simp only [kI_d, kG_dt, kG_df]; split) | (simp only [kI_v, kG_vt, kG_vf]; split))
end Go.Cv

/-
  The statements on moduli.
-/
namespace Go.Cv
variable {G : Nat → Option (List AV)} {T : Tbl} {g : Nat}

/-- Either it is refused, by all alike, or all is good. -/
theorem zopens1 (hD : HasD g T) (hE : HasE g T) (hF : HasF g T) (hU : HasG g T) {f md : Int} {a b : Nat} (ha : a < 18446744073709551616) (hb : b < 18446744073709551616) :
    (∃ e, e ≠ 0 ∧ run G T 167 [.int .u8 f, .int .u8 md, .imm 1 [.int .u64 (a : Int), .int .u64 (b : Int)]] = some (.int .i64 e) ∧ ∀ k, run G T 186 [.int .u8 f, .int .u8 md, zA a b, .fn k []] = some (.tup [.int .u64 0, .int .u8 0, .int .i64 e])) ∨
    (∃ F, f = Fm.u F ∧ (1 ≤ md ∧ md ≤ 5) ∧ (a < 2 * F.sg ∧ b < 2 * F.sg) ∧ run G T 167 [.int .u8 f, .int .u8 md, .imm 1 [.int .u64 (a : Int), .int .u64 (b : Int)]] = some (.int .i64 0)) := by
  by_cases hf : f = 1 ∨ f = 2
  · obtain ⟨F, rfl⟩ := fm_of hf
    by_cases hm : 1 ≤ md ∧ md ≤ 5
    · have h1 := ref10_Good1 (G := G) (T := T) hD hF hU F ha hb
      by_cases k1 : a < 2 * F.sg ∧ b < 2 * F.sg
      · rw [if_pos k1] at h1
        exact Or.inr ⟨F, rfl, hm, k1, law13_opens_k hD hE hU F hm h1⟩
      · rw [if_neg k1] at h1
        exact Or.inl ⟨6, by decide, law13_opens_k hD hE hU F hm h1, fun k => modulus_told_bad hD hE hU F hm ha hb k1⟩
    · exact Or.inl ⟨5, by decide, law13_opens_mode hD hE hU F hm, fun k => modulus_told_mode hE hU F hm⟩
  · exact Or.inl ⟨4, by decide, law13_opens_no hD hU hf, fun k => modulus_told_no hE hU hf⟩

end Go.Cv

/-
  Numbers turned, changed, taken on an axis: their moduli.
-/
namespace Go.Cv
variable {G : Nat → Option (List AV)} {T : Tbl} {g : Nat}

def Fm.can (F : Fm) (w : Nat) : Nat := if F.cls w = 5 then F.nan else w
def Fm.min (F : Fm) (w : Nat) : Nat := if F.cls w = 5 then F.nan else F.flip w
theorem nan_facts (F : Fm) : F.nan < 2 * F.sg ∧ F.cls F.nan = 5 ∧ F.vl F.nan = ⟨false, 0, 0⟩ := by
  have h1 : F.cls F.nan = 5 := by cases F <;> decide
  refine ⟨by cases F <;> decide, h1, if_neg ?_⟩
  rw [fin_iff, h1]; decide
/-- Alike, as far as a modulus asks. -/
def Sim (F : Fm) (a b : Nat) : Prop := F.cls a = F.cls b ∧ mulD (F.vl a) (F.vl a) = mulD (F.vl b) (F.vl b)
theorem Sim.refl (F : Fm) (a : Nat) : Sim F a a := ⟨rfl, rfl⟩
theorem Sim.trans {F : Fm} {a b c : Nat} (h : Sim F a b) (k : Sim F b c) : Sim F a c := ⟨h.1.trans k.1, h.2.trans k.2⟩
theorem vl_five {F : Fm} {w : Nat} (h : F.cls w = 5) : F.vl w = ⟨false, 0, 0⟩ := if_neg (by rw [fin_iff, h]; decide)
theorem can_sim {F : Fm} {w : Nat} (hw : w < 2 * F.sg) : F.can w < 2 * F.sg ∧ Sim F (F.can w) w := by
  obtain ⟨n1, n2, n3⟩ := nan_facts F
  unfold Fm.can
  by_cases h : F.cls w = 5
  · rw [if_pos h]; exact ⟨n1, by rw [n2, h], by rw [n3, vl_five h]⟩
  · rw [if_neg h]; exact ⟨hw, Sim.refl F w⟩
theorem neg_mul (d : Dy) : mulD (negD d) (negD d) = mulD d d := by
  unfold negD
  split
  · rfl
  · unfold mulD; simp only; cases d.n <;> rfl
theorem min_sim {F : Fm} {w : Nat} (hw : w < 2 * F.sg) : F.min w < 2 * F.sg ∧ Sim F (F.min w) w := by
  obtain ⟨n1, n2, n3⟩ := nan_facts F
  unfold Fm.min
  by_cases h : F.cls w = 5
  · rw [if_pos h]; exact ⟨n1, by rw [n2, h], by rw [n3, vl_five h]⟩
  · rw [if_neg h]
    obtain ⟨f1, f2, f3, f4⟩ := flip_facts hw
    exact ⟨f1, f3, by rw [f4, neg_mul]⟩
theorem sq_sim {F : Fm} {a b c d : Nat} (h : Sim F a c) (k : Sim F b d) : sqD F a b = sqD F c d := by
  unfold sqD; rw [h.2, k.2]
theorem absZ_sim {F : Fm} {md : Int} {a b c d : Nat} (h : Sim F a c) (k : Sim F b d) : absZ F md a b = absZ F md c d := by
  unfold absZ; rw [sq_sim h k, h.1, k.1]
theorem normZ_sim {F : Fm} {md : Int} {a b c d : Nat} (h : Sim F a c) (k : Sim F b d) : normZ F md a b = normZ F md c d := by
  unfold normZ; rw [sq_sim h k, h.1, k.1]
theorem zcl_comm (c d : Int) : zcl c d = zcl d c := by
  unfold zcl
  by_cases h1 : c = 4 ∨ d = 4
  · rw [if_pos h1, if_pos (show d = 4 ∨ c = 4 by omega)]
  · rw [if_neg h1, if_neg (show ¬ (d = 4 ∨ c = 4) by omega)]
    by_cases h2 : c = 5 ∨ d = 5
    · rw [if_pos h2, if_pos (show d = 5 ∨ c = 5 by omega)]
    · rw [if_neg h2, if_neg (show ¬ (d = 5 ∨ c = 5) by omega)]
      by_cases h3 : c = 1 ∧ d = 1
      · rw [if_pos h3, if_pos (show d = 1 ∧ c = 1 by omega)]
      · rw [if_neg h3, if_neg (show ¬ (d = 1 ∧ c = 1) by omega)]
theorem sq_comm (F : Fm) (a b : Nat) : sqD F a b = sqD F b a := addD_comm (Nz_mul _ _) (Nz_mul _ _)
theorem absZ_comm (F : Fm) (md : Int) (a b : Nat) : absZ F md a b = absZ F md b a := by
  unfold absZ; rw [sq_comm, zcl_comm]

theorem mulD_z0 {a b : Dy} (h : a.m = 0 ∨ b.m = 0) : mulD a b = ⟨false, 0, 0⟩ := by
  unfold mulD
  rcases h with h | h
  · rw [h, Nat.zero_mul]; rfl
  · rw [h, Nat.mul_zero]; rfl
/-- On an axis the modulus is the size. -/
theorem absZ_axis (F : Fm) (md : Int) {a : Nat} (ha : a < 2 * F.sg) : absZ F md a 0 = (if F.cls a = 5 then F.nan else a % F.sg, 0) := by
  have z1 : F.cls 0 = 1 := by cases F <;> decide
  have z2 : F.vl 0 = ⟨false, 0, 0⟩ := by
    rw [vl_val (fin_iff.2 (Or.inl z1))]
    exact val_zero F false
  have hs : sqD F a 0 = mulD (F.vl a) (F.vl a) := by
    unfold sqD
    rw [z2, mulD_z0 (a := ⟨false, 0, 0⟩) (b := ⟨false, 0, 0⟩) (Or.inl rfl)]
    unfold addD
    by_cases h0 : (mulD (F.vl a) (F.vl a)).m = 0
    · rw [if_pos h0, (Nz_mul _ _).1 h0]
    · rw [if_neg h0, if_pos rfl]
  have ra := cls_range F a
  unfold absZ
  rw [hs, z1]
  by_cases h5 : F.cls a = 5
  · rw [if_pos h5, h5]; rfl
  · rw [if_neg h5]
    by_cases h4 : F.cls a = 4
    · rw [h4, (cls_four ha).1 h4]
      show (F.inf false, 0) = _
      unfold Fm.inf Fm.sgn; rfl
    · have hf : F.fin a := fin_iff.2 (by omega)
      have ht : toldW F (zcl (F.cls a) 1) (rtW F md (mulD (F.vl a) (F.vl a))) = rtW F md (mulD (F.vl a) (F.vl a)) := by
        unfold toldW zcl
        rw [if_neg (show ¬ (F.cls a = 4 ∨ (1 : Int) = 4) by omega), if_neg (show ¬ (F.cls a = 5 ∨ (1 : Int) = 5) by omega)]
        split <;> rfl
      rw [ht, vl_val hf]
      obtain ⟨v1, v2⟩ := val_abs F md ha hf
      unfold rtW
      rcases v1 with ⟨h0, h1⟩ | ⟨h0, h1⟩
      · rw [mulD_z0 (Or.inl h0), if_pos rfl]
        have : a % F.sg = 0 := by
          rcases h1 with h | h
          · rw [h]; exact Nat.zero_mod _
          · rw [h]; exact Nat.mod_self _
        rw [this]
      · have hm : (mulD (F.val a) (F.val a)).m ≠ 0 := by
          unfold mulD; exact mkD_m0 (by have := odd_mul h0 h0; omega) _
        rw [if_neg hm]
        unfold mulD
        rw [root_sq F md h0, v2 (by omega)]

theorem ref03_Canon (hD : HasD g T) (hF : HasF g T) (hU : HasG g T) (F : Fm) {w : Nat} (hw : w < 2 * F.sg) : run G T 173 [.int .u8 F.u, .int .u64 (w : Int)] = some (.int .u64 (F.can w : Int)) := by
  rw [run_k G T hU.ref03_Canon]
  have h1 := ref03_Class (G := G) (T := T) hD hF F (sg_64 hw)
  have h2 := ref03_None (G := G) (T := T) hD hF F
  unfold Fm.can
  generalize F.cls w = c at *
  by_cases h : c = 5
  · rw [if_pos h]; subst h; repeat' (first | (simp (maxSteps := 1000000) only [evB, if_true, if_false, ne_eq, Nat.reduceEqDiff, Nat.reduceAdd, reduceCtorEq, Int.reduceLE, Int.reduceLT, Int.reduceEq, Int.reduceNeg, Int.reduceToNat, Int.reducePow, Int.reduceMod, Int.reduceDiv, Int.reduceSub, Int.reduceAdd, Int.reduceMul, Nat.reduceMul, Nat.reduceSub, Nat.reducePow, exB, resC_ptr, res_cell, nilb, nilf, faddr_p, c_ref03_Canon, h1, h2]) | (simp (maxSteps := 1000000) (disch := first | with_reducible assumption | omega) only [dxB]) | (simp only [kI_d, kG_dt, kG_df]; split) | (simp only [kI_v, kG_vt, kG_vf]; split))
  · rw [if_neg h]; repeat' (first | (simp (maxSteps := 1000000) only [evB, if_true, if_false, ne_eq, Nat.reduceEqDiff, Nat.reduceAdd, reduceCtorEq, Int.reduceLE, Int.reduceLT, Int.reduceEq, Int.reduceNeg, Int.reduceToNat, Int.reducePow, Int.reduceMod, Int.reduceDiv, Int.reduceSub, Int.reduceAdd, Int.reduceMul, Nat.reduceMul, Nat.reduceSub, Nat.reducePow, exB, resC_ptr, res_cell, nilb, nilf, faddr_p, c_ref03_Canon, h1, h2, h]) | (simp (maxSteps := 1000000) (disch := first | with_reducible assumption | omega) only [dxB]) | (simp only [kI_d, kG_dt, kG_df]; split) | (simp only [kI_v, kG_vt, kG_vf]; split))
theorem fd_3 (b : Bool) (x y : AV) : fieldA false 0 1 (.agg [.bool b, x, y]) = some (.bool b) := rfl
theorem ref10_Minus (hD : HasD g T) (hF : HasF g T) (hU : HasG g T) (F : Fm) {w : Nat} (hw : w < 2 * F.sg) : run G T 188 [.int .u8 F.u, .int .u64 (w : Int)] = some (.int .u64 (F.min w : Int)) := by
  rw [run_k G T hU.ref10_Minus]
  have h1 := ref03_Class (G := G) (T := T) hD hF F (sg_64 hw)
  have h2 := ref03_None (G := G) (T := T) hD hF F
  have h3 := ref03_Split (G := G) (T := T) hD hF F (sg_64 hw)
  have h4 := ref03_Signed (G := G) (T := T) hD F (n := !F.ng w) (w := w)
  rw [show w % F.sg + F.sgn (!F.ng w) = F.flip w from rfl] at h4
  unfold Fm.min
  generalize F.flip w = fw at *
  generalize F.cls w = c at *
  generalize F.ex w = x at *
  generalize F.fc w = y at *
  generalize F.ng w = n at *
  simp only [fldA] at *
  by_cases h : c = 5
  · rw [if_pos h]; subst h; repeat' (first | (simp (maxSteps := 1000000) only [evB, if_true, if_false, ne_eq, Nat.reduceEqDiff, Nat.reduceAdd, reduceCtorEq, Int.reduceLE, Int.reduceLT, Int.reduceEq, Int.reduceNeg, Int.reduceToNat, Int.reducePow, Int.reduceMod, Int.reduceDiv, Int.reduceSub, Int.reduceAdd, Int.reduceMul, Nat.reduceMul, Nat.reduceSub, Nat.reducePow, exB, resC_ptr, res_cell, nilb, nilf, faddr_p, c_ref10_Minus, h1, h2]) | (simp (maxSteps := 1000000) (disch := first | with_reducible assumption | omega) only [dxB]) | (simp only [kI_d, kG_dt, kG_df]; split) | (simp only [kI_v, kG_vt, kG_vf]; split))
  · rw [if_neg h]
    cases n <;> (
      simp only [Bool.not_true, Bool.not_false] at h4
      repeat' (first | (simp (maxSteps := 1000000) only [evB, if_true, if_false, ne_eq, Nat.reduceEqDiff, Nat.reduceAdd, reduceCtorEq, Int.reduceLE, Int.reduceLT, Int.reduceEq, Int.reduceNeg, Int.reduceToNat, Int.reducePow, Int.reduceMod, Int.reduceDiv, Int.reduceSub, Int.reduceAdd, Int.reduceMul, Nat.reduceMul, Nat.reduceSub, Nat.reducePow, exB, resC_ptr, res_cell, nilb, nilf, faddr_p, c_ref10_Minus, h1, h, h3, fd_3, h4]) | (simp (maxSteps := 1000000) (disch := first | with_reducible assumption | omega) only [dxB]) | (simp only [kI_d, kG_dt, kG_df]; split) | (simp only [kI_v, kG_vt, kG_vf]; split)))
theorem ref10_Canon (hD : HasD g T) (hF : HasF g T) (hU : HasG g T) (F : Fm) {a b : Nat} (ha : a < 2 * F.sg) (hb : b < 2 * F.sg) : run G T 187 [.int .u8 F.u, zA a b] = some (zA (F.can a) (F.can b)) := by
  rw [run_k G T hU.ref10_Canon]
  have h1 := ref03_Canon (G := G) (T := T) hD hF hU F ha
  have h2 := ref03_Canon (G := G) (T := T) hD hF hU F hb
  simp only [zA] at *
  repeat' (first | (simp (maxSteps := 1000000) only [evB, if_true, if_false, ne_eq, Nat.reduceEqDiff, Nat.reduceAdd, reduceCtorEq, Int.reduceLE, Int.reduceLT, Int.reduceEq, Int.reduceNeg, Int.reduceToNat, Int.reducePow, Int.reduceMod, Int.reduceDiv, Int.reduceSub, Int.reduceAdd, Int.reduceMul, Nat.reduceMul, Nat.reduceSub, Nat.reducePow, exB, resC_ptr, res_cell, nilb, nilf, faddr_p, c_ref10_Canon, h1, h2]) | (simp (maxSteps := 1000000) (disch := first | with_reducible assumption | omega) only [dxB]) | (simp only [kI_d, kG_dt, kG_df]; split) | (simp only [kI_v, kG_vt, kG_vf]; split))
theorem ref10_Conj (hD : HasD g T) (hF : HasF g T) (hU : HasG g T) (F : Fm) {a b : Nat} (ha : a < 2 * F.sg) (hb : b < 2 * F.sg) : run G T 172 [.int .u8 F.u, zA a b] = some (zA (F.can a) (F.min b)) := by
  rw [run_k G T hU.ref10_Conj]
  have h1 := ref03_Canon (G := G) (T := T) hD hF hU F ha
  have h2 := ref10_Minus (G := G) (T := T) hD hF hU F hb
  simp only [zA] at *
  repeat' (first | (simp (maxSteps := 1000000) only [evB, if_true, if_false, ne_eq, Nat.reduceEqDiff, Nat.reduceAdd, reduceCtorEq, Int.reduceLE, Int.reduceLT, Int.reduceEq, Int.reduceNeg, Int.reduceToNat, Int.reducePow, Int.reduceMod, Int.reduceDiv, Int.reduceSub, Int.reduceAdd, Int.reduceMul, Nat.reduceMul, Nat.reduceSub, Nat.reducePow, exB, resC_ptr, res_cell, nilb, nilf, faddr_p, c_ref10_Conj, h1, h2]) | (simp (maxSteps := 1000000) (disch := first | with_reducible assumption | omega) only [dxB]) | (simp only [kI_d, kG_dt, kG_df]; split) | (simp only [kI_v, kG_vt, kG_vf]; split))

theorem tn_loop (e : Env) (h : Heap) : evL G T c_ref10_Turn_l1 e h = kS G T (evL G T c_ref10_Turn_b1 (keepE [0, 4, 6, 7] e) h) c_ref10_Turn_l1 := s_loopc G T rfl e h
theorem ref10_Turn (hD : HasD g T) (hF : HasF g T) (hU : HasG g T) (F : Fm) {a b : Nat} (ha : a < 2 * F.sg) (hb : b < 2 * F.sg) (n : Int) :
    ∃ x y, run G T 170 [.int .u8 F.u, zA a b, .int .i64 n] = some (zA x y) ∧ x < 2 * F.sg ∧ y < 2 * F.sg ∧ ((Sim F x a ∧ Sim F y b) ∨ (Sim F x b ∧ Sim F y a)) := by
  obtain ⟨a1, a2⟩ := can_sim ha
  obtain ⟨b1, b2⟩ := can_sim hb
  have c0 := ref10_Canon (G := G) (T := T) hD hF hU F ha hb
  generalize F.can a = x0 at *
  generalize F.can b = y0 at *
  obtain ⟨p1, p2⟩ := min_sim b1
  obtain ⟨q1, q2⟩ := min_sim a1
  obtain ⟨r1, r2⟩ := min_sim p1
  have m1 := ref10_Minus (G := G) (T := T) hD hF hU F b1
  have m2 := ref10_Minus (G := G) (T := T) hD hF hU F a1
  have m3 := ref10_Minus (G := G) (T := T) hD hF hU F p1
  have hr : -4 < n.tmod 4 ∧ n.tmod 4 < 4 := ⟨Int.lt_tmod_of_pos n (by decide), Int.tmod_lt_of_pos n (by decide)⟩
  obtain ⟨r, hre⟩ : ∃ r, n.tmod 4 = r := ⟨_, rfl⟩
  rw [hre] at hr
  have w1 : IntKind.i64.wrap (r + 4) = r + 4 := wrap_i64 (by omega)
  have w2 : ∃ k : Int, (r + 4).tmod 4 = k ∧ (k = 0 ∨ k = 1 ∨ k = 2 ∨ k = 3) := by
    have h1 : (r + 4).tmod 4 = (r + 4) % 4 := by rw [Int.tmod_eq_emod_of_nonneg (by omega)]
    exact ⟨_, rfl, by rw [h1]; omega⟩
  obtain ⟨k, w2, hk⟩ := w2
  have u1 : IntKind.i64.wrap (1 - 1) = 0 := rfl
  have u2 : IntKind.i64.wrap (2 - 1) = 1 := rfl
  have u3 : IntKind.i64.wrap (3 - 1) = 2 := rfl
  have u4 : IntKind.i64.wrap 0 = 0 := rfl
  have u5 : IntKind.i64.wrap 1 = 1 := rfl
  have u6 : IntKind.i64.wrap 2 = 2 := rfl
  rcases hk with rfl | rfl | rfl | rfl
  · refine ⟨x0, y0, ?_, a1, b1, Or.inl ⟨a2, b2⟩⟩
    rw [run_k G T hU.ref10_Turn]
    simp only [zA] at *
    repeat' (first | (simp (maxSteps := 1000000) only [evB, if_true, if_false, ne_eq, Nat.reduceEqDiff, Nat.reduceAdd, reduceCtorEq, Int.reduceLE, Int.reduceLT, Int.reduceEq, Int.reduceNeg, Int.reduceToNat, Int.reducePow, Int.reduceMod, Int.reduceDiv, Int.reduceSub, Int.reduceAdd, Int.reduceMul, Nat.reduceMul, Nat.reduceSub, Nat.reducePow, exB, resC_ptr, res_cell, nilb, nilf, faddr_p, c_ref10_Turn, c0, hre, w1, w2, tn_loop, c_ref10_Turn_b1, m1, m2, m3, u1, u2, u3, u4, u5, u6]) | (simp (maxSteps := 1000000) (disch := first | with_reducible assumption | omega) only [dxB]) | (simp only [kI_d, kG_dt, kG_df]; split) | (simp only [kI_v, kG_vt, kG_vf]; split))
  · refine ⟨F.min y0, x0, ?_, p1, a1, Or.inr ⟨p2.trans b2, a2⟩⟩
    rw [run_k G T hU.ref10_Turn]
    simp only [zA] at *
    repeat' (first | (simp (maxSteps := 1000000) only [evB, if_true, if_false, ne_eq, Nat.reduceEqDiff, Nat.reduceAdd, reduceCtorEq, Int.reduceLE, Int.reduceLT, Int.reduceEq, Int.reduceNeg, Int.reduceToNat, Int.reducePow, Int.reduceMod, Int.reduceDiv, Int.reduceSub, Int.reduceAdd, Int.reduceMul, Nat.reduceMul, Nat.reduceSub, Nat.reducePow, exB, resC_ptr, res_cell, nilb, nilf, faddr_p, c_ref10_Turn, c0, hre, w1, w2, tn_loop, c_ref10_Turn_b1, m1, m2, m3, u1, u2, u3, u4, u5, u6]) | (simp (maxSteps := 1000000) (disch := first | with_reducible assumption | omega) only [dxB]) | (simp only [kI_d, kG_dt, kG_df]; split) | (simp only [kI_v, kG_vt, kG_vf]; split))
  · refine ⟨F.min x0, F.min y0, ?_, q1, p1, Or.inl ⟨q2.trans a2, p2.trans b2⟩⟩
    rw [run_k G T hU.ref10_Turn]
    simp only [zA] at *
    repeat' (first | (simp (maxSteps := 1000000) only [evB, if_true, if_false, ne_eq, Nat.reduceEqDiff, Nat.reduceAdd, reduceCtorEq, Int.reduceLE, Int.reduceLT, Int.reduceEq, Int.reduceNeg, Int.reduceToNat, Int.reducePow, Int.reduceMod, Int.reduceDiv, Int.reduceSub, Int.reduceAdd, Int.reduceMul, Nat.reduceMul, Nat.reduceSub, Nat.reducePow, exB, resC_ptr, res_cell, nilb, nilf, faddr_p, c_ref10_Turn, c0, hre, w1, w2, tn_loop, c_ref10_Turn_b1, m1, m2, m3, u1, u2, u3, u4, u5, u6]) | (simp (maxSteps := 1000000) (disch := first | with_reducible assumption | omega) only [dxB]) | (simp only [kI_d, kG_dt, kG_df]; split) | (simp only [kI_v, kG_vt, kG_vf]; split))
  · refine ⟨F.min (F.min y0), F.min x0, ?_, r1, q1, Or.inr ⟨r2.trans (p2.trans b2), q2.trans a2⟩⟩
    rw [run_k G T hU.ref10_Turn]
    simp only [zA] at *
    repeat' (first | (simp (maxSteps := 1000000) only [evB, if_true, if_false, ne_eq, Nat.reduceEqDiff, Nat.reduceAdd, reduceCtorEq, Int.reduceLE, Int.reduceLT, Int.reduceEq, Int.reduceNeg, Int.reduceToNat, Int.reducePow, Int.reduceMod, Int.reduceDiv, Int.reduceSub, Int.reduceAdd, Int.reduceMul, Nat.reduceMul, Nat.reduceSub, Nat.reducePow, exB, resC_ptr, res_cell, nilb, nilf, faddr_p, c_ref10_Turn, c0, hre, w1, w2, tn_loop, c_ref10_Turn_b1, m1, m2, m3, u1, u2, u3, u4, u5, u6]) | (simp (maxSteps := 1000000) (disch := first | with_reducible assumption | omega) only [dxB]) | (simp only [kI_d, kG_dt, kG_df]; split) | (simp only [kI_v, kG_vt, kG_vf]; split))
end Go.Cv

/-
  The statement on numbers turned, and on an axis.
-/
namespace Go.Cv
variable {G : Nat → Option (List AV)} {T : Tbl} {g : Nat}

set_option maxHeartbeats 4000000 in
theorem law13_ModulusTurns (hA : HasA g T) (hC : HasC g T) (hG : Glob G g) (hD : HasD g T) (hE : HasE g T) (hF : HasF g T) (hU : HasG g T) (hK : run G T 168 [] = some (.bool true))
    {f m n : Int} {a b : Nat} (ha : a < 18446744073709551616) (hb : b < 18446744073709551616) :
    run G T 160 [.int .u8 f, .int .u8 m, .agg [.int .u64 (a : Int), .int .u64 (b : Int)], .int .i64 n] = some (.bool true) := by
  rw [run_k G T hU.law13_ModulusTurns]
  rcases zopens1 (G := G) (T := T) (f := f) (md := m) hD hE hF hU ha hb with ⟨e, he, o1, o2⟩ | ⟨F, rfl, hm, ⟨k1, k2⟩, o1⟩
  · clear o2
    repeat' (first | (simp (maxSteps := 1000000) only [evB, if_true, if_false, ne_eq, Nat.reduceEqDiff, Nat.reduceAdd, reduceCtorEq, Int.reduceLE, Int.reduceLT, Int.reduceEq, Int.reduceNeg, Int.reduceToNat, Int.reducePow, Int.reduceMod, Int.reduceDiv, Int.reduceSub, Int.reduceAdd, Int.reduceMul, Nat.reduceMul, Nat.reduceSub, Nat.reducePow, exB, resC_ptr, res_cell, nilb, nilf, faddr_p, c_law13_ModulusTurns, st_bs2, o1, he, hK]) | (simp (maxSteps := 1000000) (disch := first | with_reducible assumption | omega) only [dxB]) | (simp only [kI_d, kG_dt, kG_df]; split) | (simp only [kI_v, kG_vt, kG_vf]; split))
  · have r1 := modulus_Abs (G := G) (T := T) hA hG hC hD hE hU F hm k1 k2
    obtain ⟨x, y, t1, x1, y1, hxy⟩ := ref10_Turn (G := G) (T := T) hD hF hU F k1 k2 n
    have r2 := modulus_Abs (G := G) (T := T) hA hG hC hD hE hU F hm x1 y1
    have e2 : absZ F m x y = absZ F m a b := by
      rcases hxy with ⟨h1, h2⟩ | ⟨h1, h2⟩
      · exact absZ_sim h1 h2
      · rw [absZ_sim h1 h2, absZ_comm]
    rw [e2] at r2
    have r3 := modulus_Abs (G := G) (T := T) hA hG hC hD hE hU F hm k2 k1
    rw [absZ_comm] at r3
    have r4 := modulus_Norm (G := G) (T := T) hA hG hC hD hE hU F hm k1 k2
    have t2 := ref10_Conj (G := G) (T := T) hD hF hU F k1 k2
    obtain ⟨c1, c2⟩ := can_sim k1
    obtain ⟨c3, c4⟩ := min_sim k2
    have r5 := modulus_Norm (G := G) (T := T) hA hG hC hD hE hU F hm c1 c3
    rw [normZ_sim c2 c4] at r5
    have z0 : 0 < 2 * F.sg := by cases F <;> decide
    have r6 := modulus_Abs (G := G) (T := T) hA hG hC hD hE hU F hm k1 z0
    rw [absZ_axis F m k1] at r6
    have t3 := ref03_Canon (G := G) (T := T) hD hF hU F k1
    have t4 := ref03_Class (G := G) (T := T) hD hF F (sg_64 c1)
    have t5 := ref03_Signed (G := G) (T := T) hD F (n := false) (w := F.can a)
    have hsz : (F.cls (F.can a) = 5 ∧ (if F.cls a = 5 then F.nan else a % F.sg) = F.can a) ∨ (¬ F.cls (F.can a) = 5 ∧ (if F.cls a = 5 then F.nan else a % F.sg) = F.can a % F.sg + F.sgn false) := by
      unfold Fm.can
      by_cases h5 : F.cls a = 5
      · left; rw [if_pos h5, if_pos h5]; exact ⟨(nan_facts F).2.1, rfl⟩
      · right; rw [if_neg h5, if_neg h5]; exact ⟨h5, rfl⟩
    generalize absZ F m a b = S1 at *
    generalize normZ F m a b = S2 at *
    generalize (if F.cls a = 5 then F.nan else a % F.sg) = W at *
    clear hxy e2 c2 c4
    simp only [zA, cast0] at *
    rcases hsz with ⟨h5, hw⟩ | ⟨h5, hw⟩
    · rw [h5] at t4
      rw [← hw] at t3 t4 t2 r5
      clear t5
      repeat' (first | (simp (maxSteps := 1000000) only [evB, if_true, if_false, ne_eq, Nat.reduceEqDiff, Nat.reduceAdd, reduceCtorEq, Int.reduceLE, Int.reduceLT, Int.reduceEq, Int.reduceNeg, Int.reduceToNat, Int.reducePow, Int.reduceMod, Int.reduceDiv, Int.reduceSub, Int.reduceAdd, Int.reduceMul, Nat.reduceMul, Nat.reduceSub, Nat.reducePow, exB, resC_ptr, res_cell, nilb, nilf, faddr_p, c_law13_ModulusTurns, st_bs2, o1, r1, t1, r2, r3, r4, t2, r5, r6, t3, t4, hK]) | (simp (maxSteps := 1000000) (disch := first | with_reducible assumption | omega) only [dxB]) | (simp only [kI_d, kG_dt, kG_df]; split) | (simp only [kI_v, kG_vt, kG_vf]; split))
    · rw [← hw] at t5
      generalize F.can a = cw at *
      generalize F.cls cw = cc at *
      repeat' (first | (simp (maxSteps := 1000000) only [evB, if_true, if_false, ne_eq, Nat.reduceEqDiff, Nat.reduceAdd, reduceCtorEq, Int.reduceLE, Int.reduceLT, Int.reduceEq, Int.reduceNeg, Int.reduceToNat, Int.reducePow, Int.reduceMod, Int.reduceDiv, Int.reduceSub, Int.reduceAdd, Int.reduceMul, Nat.reduceMul, Nat.reduceSub, Nat.reducePow, exB, resC_ptr, res_cell, nilb, nilf, faddr_p, c_law13_ModulusTurns, st_bs2, o1, r1, t1, r2, r3, r4, t2, r5, r6, t3, t4, h5, t5, hK]) | (simp (maxSteps := 1000000) (disch := first | with_reducible assumption | omega) only [dxB]) | (simp only [kI_d, kG_dt, kG_df]; split) | (simp only [kI_v, kG_vt, kG_vf]; split))
end Go.Cv

/-
  A greater number's root is not rounded to a lesser word.
-/
namespace Go.Cv

theorem rootW_fine (F : Fm) (md : Int) (d : Dy) (h0 : d.m ≠ 0) (j : Nat) :
    rootW F md d = sW F md false (isq (d.m * 2 ^ (rootP d.e + 2 * j))) (!decide (isq (d.m * 2 ^ (rootP d.e + 2 * j)) * isq (d.m * 2 ^ (rootP d.e + 2 * j)) = d.m * 2 ^ (rootP d.e + 2 * j))) ((d.e - (rootP d.e : Nat)) / 2 - j) := by
  have hF := fm_fr F
  have hX : d.m * 2 ^ (rootP d.e + 2 * j) = d.m * 2 ^ rootP d.e * 2 ^ (2 * j) := by rw [Nat.pow_add, Nat.mul_assoc]
  have hp := Nat.two_pow_pos (2 * j)
  have hd : d.m * 2 ^ (rootP d.e + 2 * j) / 2 ^ (2 * j) = d.m * 2 ^ rootP d.e := by rw [hX, Nat.mul_div_cancel _ hp]
  have hm : d.m * 2 ^ (rootP d.e + 2 * j) % 2 ^ (2 * j) = 0 := by rw [hX]; exact Nat.mul_mod_left ..
  obtain ⟨r1, r2⟩ := isq_spec (d.m * 2 ^ (rootP d.e + 2 * j))
  obtain ⟨t1, t2⟩ := isq_spec (d.m * 2 ^ rootP d.e)
  have hP : rootP d.e = 130 + (d.e % 2).toNat := rfl
  have hbp := blen_pos h0
  have hbm := blen_mul h0 (rootP d.e)
  have hbt : 64 < blen (isq (d.m * 2 ^ rootP d.e)) := root_blen (k := 64) (M := d.m * 2 ^ rootP d.e) (by
    have := pow_blen_le (n := d.m * 2 ^ rootP d.e) (by intro hc; rw [hc, blen_zero] at hbm; omega)
    rw [← Nat.pow_add]
    exact Nat.le_trans (Nat.pow_le_pow_right (by decide) (by omega)) this) t2
  have h3 := sW_root F md false (X := d.m * 2 ^ (rootP d.e + 2 * j)) (r := isq (d.m * 2 ^ (rootP d.e + 2 * j))) (t := isq (d.m * 2 ^ rootP d.e)) (j := j) ((d.e - (rootP d.e : Nat)) / 2 - j) r1 r2 (by rw [hd]; exact t1) (by rw [hd]; exact t2) (by omega)
  rw [← h3, hd, hm]
  unfold rootW
  rw [decide_eq_true rfl, Bool.not_true, Bool.false_or, Int.sub_add_cancel]

/-- A number and something behind it, as one bit more. -/
theorem sW_num (F : Fm) (md : Int) {r : Nat} (lost : Bool) (E : Int) (h : F.fr + 2 ≤ blen r) : sW F md false r lost E = rndW F md (mkD false (r * 2 ^ 2 + lost.toNat) (E - 2)) := by
  have hr : r ≠ 0 := by rintro rfl; rw [blen_zero] at h; omega
  have hb := blen_mul hr 2
  cases lost
  · have h1 := rndW_mk F md false (M := r * 2 ^ 2) (E - 2) (by omega)
    rw [show r * 2 ^ 2 + Bool.toNat false = r * 2 ^ 2 from rfl, h1]
    have h2 := sW_shift F md false (Q := r * 2 ^ 2) (j := 2) false (E - 2) (by omega)
    rw [Nat.mul_div_cancel _ (by decide), Nat.mul_mod_left, show E - 2 + ((2 : Nat) : Int) = E by omega] at h2
    rw [← h2]; rfl
  · have hb2 := blen_mono (show r * 2 ^ 2 ≤ r * 2 ^ 2 + 1 by omega)
    have h1 := rndW_mk F md false (M := r * 2 ^ 2 + 1) (E - 2) (by omega)
    rw [show r * 2 ^ 2 + Bool.toNat true = r * 2 ^ 2 + 1 from rfl, h1]
    exact (sW_beyond F md false (j := 2) E (by decide) (by omega)).symm

theorem isq_mono {X Y : Nat} (h : X ≤ Y) : isq X ≤ isq Y := by
  obtain ⟨a1, a2⟩ := isq_spec X
  obtain ⟨b1, b2⟩ := isq_spec Y
  rcases Nat.lt_or_ge (isq Y) (isq X) with k | k
  · have := Nat.mul_le_mul (show isq Y + 1 ≤ isq X from k) (show isq Y + 1 ≤ isq X from k)
    omega
  · exact k
theorem sticky_mono {X Y : Nat} (h : X ≤ Y) : isq X * 2 ^ 2 + (!decide (isq X * isq X = X)).toNat ≤ isq Y * 2 ^ 2 + (!decide (isq Y * isq Y = Y)).toNat := by
  have hm := isq_mono h
  have h1 : ∀ b : Bool, b.toNat ≤ 1 := fun b => by cases b <;> decide
  rcases Nat.lt_or_ge (isq X) (isq Y) with k | k
  · have := h1 (!decide (isq X * isq X = X))
    omega
  · have e : isq X = isq Y := by omega
    by_cases q : isq X * isq X = X
    · rw [decide_eq_true q]
      show isq X * 2 ^ 2 + 0 ≤ _
      omega
    · have q2 : ¬ isq Y * isq Y = Y := by
        intro hc
        apply q
        have := (isq_spec X).1
        rw [e] at this ⊢
        omega
      rw [decide_eq_false q, decide_eq_false q2, e]
      exact Nat.le_refl _

/-- The word of a number that is not below nought. -/
theorem rndW_pos (F : Fm) {m : Int} (m1 : 1 ≤ m) (m2 : m ≤ 5) {d : Dy} (hn : d.n = false) : (rndW F m d).1 = rndS F m d ∧ rndS F m d ≤ F.i0 := by
  obtain ⟨s, n, e1, hs, es, sz, sn⟩ := rndW_key F m1 m2 d
  have : n = false := by
    by_cases h : d.m = 0
    · exact (sz h).2
    · rw [sn h, hn]
  subst this
  rw [← es]
  exact ⟨e1, hs⟩

theorem rt_mono (F : Fm) {md : Int} (m1 : 1 ≤ md) (m2 : md ≤ 5) {a b : Dy} (ha : a.n = false) (hb : b.n = false) (h : cmpD a b ≤ 0) : (rtW F md a).1 ≤ (rtW F md b).1 := by
  unfold rtW
  by_cases a0 : a.m = 0
  · rw [if_pos a0]; exact Nat.zero_le _
  rw [if_neg a0]
  have hP1 : rootP a.e = 130 + (a.e % 2).toNat := rfl
  have hP2 : rootP b.e = 130 + (b.e % 2).toNat := rfl
  obtain ⟨E, hE⟩ : ∃ E : Int, E = min ((a.e - (rootP a.e : Nat)) / 2) ((b.e - (rootP b.e : Nat)) / 2) := ⟨_, rfl⟩
  obtain ⟨i, hi⟩ : ∃ i : Nat, (i : Int) = (a.e - (rootP a.e : Nat)) / 2 - E := ⟨((a.e - (rootP a.e : Nat)) / 2 - E).toNat, by omega⟩
  obtain ⟨j, hj⟩ : ∃ j : Nat, (j : Int) = (b.e - (rootP b.e : Nat)) / 2 - E := ⟨((b.e - (rootP b.e : Nat)) / 2 - E).toNat, by omega⟩
  have la : 2 * E ≤ a.e := by omega
  have lb : 2 * E ≤ b.e := by omega
  rw [cmp_iv (L := 2 * E) (Or.inr la) (Or.inr lb)] at h
  have hle : iv a (2 * E) ≤ iv b (2 * E) := by
    unfold sgI at h
    split at h
    · omega
    · split at h <;> omega
  unfold iv at hle
  rw [ha, hb] at hle
  simp only [Bool.false_eq_true, if_false, Int.one_mul] at hle
  rw [show (a.e - 2 * E).toNat = rootP a.e + 2 * i by omega, show (b.e - 2 * E).toNat = rootP b.e + 2 * j by omega] at hle
  have hXY : a.m * 2 ^ (rootP a.e + 2 * i) ≤ b.m * 2 ^ (rootP b.e + 2 * j) := by omega
  have b0 : b.m ≠ 0 := by
    intro hc
    rw [hc, Nat.zero_mul] at hXY
    have := Nat.mul_pos (Nat.pos_of_ne_zero a0) (Nat.two_pow_pos (rootP a.e + 2 * i))
    omega
  rw [if_neg b0, rootW_fine F md a a0 i, rootW_fine F md b b0 j]
  rw [show (a.e - (rootP a.e : Nat)) / 2 - (i : Int) = E by omega, show (b.e - (rootP b.e : Nat)) / 2 - (j : Int) = E by omega]
  have bl : ∀ {d : Dy} (k : Nat), d.m ≠ 0 → 64 < blen (isq (d.m * 2 ^ (rootP d.e + 2 * k))) := fun {d} k h0 => by
    have hP : rootP d.e = 130 + (d.e % 2).toNat := rfl
    have hbp := blen_pos h0
    have hbm := blen_mul h0 (rootP d.e + 2 * k)
    refine root_blen (k := 64) (M := d.m * 2 ^ (rootP d.e + 2 * k)) ?_ (isq_spec _).2
    have := pow_blen_le (n := d.m * 2 ^ (rootP d.e + 2 * k)) (by intro hc; rw [hc, blen_zero] at hbm; omega)
    rw [← Nat.pow_add]
    exact Nat.le_trans (Nat.pow_le_pow_right (by decide) (by omega)) this
  have hF := fm_fr F
  have l1 := bl i a0
  have l2 := bl j b0
  rw [sW_num F md _ E (by omega), sW_num F md _ E (by omega)]
  have hst := sticky_mono hXY
  generalize a.m * 2 ^ (rootP a.e + 2 * i) = X at *
  generalize b.m * 2 ^ (rootP b.e + 2 * j) = Y at *
  generalize hA : isq X * 2 ^ 2 + (!decide (isq X * isq X = X)).toNat = A at *
  generalize hB : isq Y * 2 ^ 2 + (!decide (isq Y * isq Y = Y)).toNat = B at *
  have A0 : A ≠ 0 := by
    intro hc
    have : isq X = 0 := by omega
    rw [this, blen_zero] at l1; omega
  have B0 : B ≠ 0 := by omega
  have ff : ∀ (m : Nat) (e : Int), (mkD false m e).n = false := fun m e => by unfold mkD; split <;> rfl
  rw [(rndW_pos F m1 m2 (ff A (E - 2))).1, (rndW_pos F m1 m2 (ff B (E - 2))).1]
  obtain ⟨L, hL⟩ : ∃ L : Int, L = min F.low (E - 2) - 1 := ⟨_, rfl⟩
  have tA := mkD_pos (n := false) A0 (E - 2)
  have tB := mkD_pos (n := false) B0 (E - 2)
  refine rndS_mono F md (a := mkD false B (E - 2)) (b := mkD false A (E - 2)) (mkD_m0 B0 _) (mkD_m0 A0 _) (by rw [ff, ff]) (L := L) (by rw [tB]; simp only; omega) (by rw [tA]; simp only; omega) (by omega) ?_
  rw [mkD_val A0 (by omega), mkD_val B0 (by omega)]
  exact Nat.mul_le_mul_right _ hst
end Go.Cv

/-
  The statement on moduli and which of them is greater.
-/
namespace Go.Cv
variable {G : Nat → Option (List AV)} {T : Tbl} {g : Nat}

theorem rt_le_inf (F : Fm) {md : Int} (m1 : 1 ≤ md) (m2 : md ≤ 5) {a : Dy} (ha : a.n = false) : (rtW F md a).1 ≤ F.inf false := by
  unfold rtW
  by_cases a0 : a.m = 0
  · rw [if_pos a0]; exact Nat.zero_le _
  · rw [if_neg a0, rootW_fine F md a a0 0]
    have hF := fm_fr F
    have hP : rootP a.e = 130 + (a.e % 2).toNat := rfl
    have hbp := blen_pos a0
    have hbm := blen_mul a0 (rootP a.e + 2 * 0)
    have hl : 64 < blen (isq (a.m * 2 ^ (rootP a.e + 2 * 0))) := root_blen (k := 64) (M := a.m * 2 ^ (rootP a.e + 2 * 0)) (by
      have := pow_blen_le (n := a.m * 2 ^ (rootP a.e + 2 * 0)) (by intro hc; rw [hc, blen_zero] at hbm; omega)
      rw [← Nat.pow_add]
      exact Nat.le_trans (Nat.pow_le_pow_right (by decide) (by omega)) this) (isq_spec _).2
    rw [sW_num F md _ _ (by omega)]
    generalize isq (a.m * 2 ^ (rootP a.e + 2 * 0)) * 2 ^ 2 + _ = A
    have ff : (mkD false A ((a.e - (rootP a.e : Nat)) / 2 - ((0 : Nat) : Int) - 2)).n = false := by unfold mkD; split <;> rfl
    obtain ⟨h1, h2⟩ := rndW_pos F m1 m2 ff
    rw [h1, inf_eq]
    exact Nat.le_trans h2 (Nat.le_add_right _ _)

/-- What the law asks of two moduli. -/
theorem goes (F : Fm) {md : Int} (m1 : 1 ≤ md) (m2 : md ≤ 5) (a b c d : Nat) :
    (cmpZ F a b c d = 4 ∧ cmpZ F c d a b = 4 ∧ ((absZ F md a b).1 = F.nan ∨ (absZ F md c d).1 = F.nan)) ∨
    (cmpZ F a b c d = 2 ∧ cmpZ F c d a b = 2 ∧ (absZ F md a b).1 = (absZ F md c d).1) ∨
    (cmpZ F a b c d = 1 ∧ cmpZ F c d a b = 3 ∧ (absZ F md a b).1 ≤ (absZ F md c d).1) ∨
    (cmpZ F a b c d = 3 ∧ cmpZ F c d a b = 1 ∧ (absZ F md c d).1 ≤ (absZ F md a b).1) := by
  have p1 := sq_pos F a b
  have p2 := sq_pos F c d
  have i1 := rt_le_inf F m1 m2 p1
  have i2 := rt_le_inf F m1 m2 p2
  have hs := cmp_sym (sqD F a b) (sqD F c d)
  have hv := cmpD_val (sqD F a b) (sqD F c d)
  have u1 := rt_mono F m1 m2 p1 p2
  have u2 := rt_mono F m1 m2 p2 p1
  unfold cmpZ absZ toldW
  generalize zcl (F.cls a) (F.cls b) = x at *
  generalize zcl (F.cls c) (F.cls d) = y at *
  generalize rtW F md (sqD F a b) = R1 at *
  generalize rtW F md (sqD F c d) = R2 at *
  generalize cmpD (sqD F a b) (sqD F c d) = q at *
  generalize cmpD (sqD F c d) (sqD F a b) = q' at *
  by_cases q4 : x = 4 ∨ y = 4
  · left
    rw [if_pos q4, if_pos (show y = 4 ∨ x = 4 by omega)]
    refine ⟨rfl, rfl, ?_⟩
    rcases q4 with h | h
    · left; rw [if_neg (by omega), if_pos h]
    · right; rw [if_neg (by omega), if_pos h]
  · right
    rw [if_neg q4, if_neg (show ¬ (y = 4 ∨ x = 4) by omega)]
    by_cases x3 : x = 3
    · by_cases y3 : y = 3
      · left
        rw [if_pos (show x = 3 ∧ y = 3 from ⟨x3, y3⟩), if_pos (show y = 3 ∧ x = 3 from ⟨y3, x3⟩), if_pos x3, if_pos y3]
        exact ⟨rfl, rfl, rfl⟩
      · right; right
        rw [if_neg (show ¬ (x = 3 ∧ y = 3) from fun h => y3 h.2), if_neg (show ¬ (y = 3 ∧ x = 3) from fun h => y3 h.1), if_pos x3, if_pos x3, if_neg y3, if_pos x3, if_neg y3, if_neg (show ¬ y = 4 by omega)]
        exact ⟨rfl, rfl, i2⟩
    · by_cases y3 : y = 3
      · right; left
        rw [if_neg (show ¬ (x = 3 ∧ y = 3) from fun h => x3 h.1), if_neg (show ¬ (y = 3 ∧ x = 3) from fun h => x3 h.2), if_neg x3, if_pos y3, if_pos y3, if_neg x3, if_neg (show ¬ x = 4 by omega), if_pos y3]
        exact ⟨rfl, rfl, i1⟩
      · rw [if_neg (show ¬ (x = 3 ∧ y = 3) from fun h => x3 h.1), if_neg (show ¬ (y = 3 ∧ x = 3) from fun h => x3 h.2), if_neg x3, if_neg y3, if_neg y3, if_neg x3, if_neg x3, if_neg (show ¬ x = 4 by omega), if_neg y3, if_neg (show ¬ y = 4 by omega)]
        rcases hv with h | h | h
        · right; left; exact ⟨by omega, by omega, u1 (by omega)⟩
        · left; exact ⟨by omega, by omega, Nat.le_antisymm (u1 (by omega)) (u2 (by omega))⟩
        · right; right; exact ⟨by omega, by omega, u2 (by omega)⟩

/-- Either it is refused, or all is good. -/
theorem zopens2 (hD : HasD g T) (hE : HasE g T) (hF : HasF g T) (hU : HasG g T) {f md : Int} {a b c d : Nat} (ha : a < 18446744073709551616) (hb : b < 18446744073709551616) (hc : c < 18446744073709551616) (hd : d < 18446744073709551616) :
    (∃ e, e ≠ 0 ∧ run G T 167 [.int .u8 f, .int .u8 md, .imm 2 [.int .u64 (a : Int), .int .u64 (b : Int), .int .u64 (c : Int), .int .u64 (d : Int)]] = some (.int .i64 e)) ∨
    (∃ F, f = Fm.u F ∧ (1 ≤ md ∧ md ≤ 5) ∧ ((a < 2 * F.sg ∧ b < 2 * F.sg) ∧ (c < 2 * F.sg ∧ d < 2 * F.sg)) ∧ run G T 167 [.int .u8 f, .int .u8 md, .imm 2 [.int .u64 (a : Int), .int .u64 (b : Int), .int .u64 (c : Int), .int .u64 (d : Int)]] = some (.int .i64 0)) := by
  by_cases hf : f = 1 ∨ f = 2
  · obtain ⟨F, rfl⟩ := fm_of hf
    by_cases hm : 1 ≤ md ∧ md ≤ 5
    · have h1 := ref10_Good2 (G := G) (T := T) hD hF hU F ha hb hc hd
      by_cases k1 : (a < 2 * F.sg ∧ b < 2 * F.sg) ∧ (c < 2 * F.sg ∧ d < 2 * F.sg)
      · rw [if_pos k1] at h1
        exact Or.inr ⟨F, rfl, hm, k1, law13_opens_k hD hE hU F hm h1⟩
      · rw [if_neg k1] at h1
        exact Or.inl ⟨6, by decide, law13_opens_k hD hE hU F hm h1⟩
    · exact Or.inl ⟨5, by decide, law13_opens_mode hD hE hU F hm⟩
  · exact Or.inl ⟨4, by decide, law13_opens_no hD hU hf⟩

set_option maxHeartbeats 4000000 in
theorem law13_ModulusGoes (hA : HasA g T) (hC : HasC g T) (hG : Glob G g) (hD : HasD g T) (hE : HasE g T) (hF : HasF g T) (hU : HasG g T) (hK : run G T 168 [] = some (.bool true))
    {f m : Int} {a b c d : Nat} (ha : a < 18446744073709551616) (hb : b < 18446744073709551616) (hc : c < 18446744073709551616) (hd : d < 18446744073709551616) :
    run G T 161 [.int .u8 f, .int .u8 m, .agg [.int .u64 (a : Int), .int .u64 (b : Int)], .agg [.int .u64 (c : Int), .int .u64 (d : Int)]] = some (.bool true) := by
  rw [run_k G T hU.law13_ModulusGoes]
  rcases zopens2 (G := G) (T := T) (f := f) (md := m) hD hE hF hU ha hb hc hd with ⟨e, he, o1⟩ | ⟨F, rfl, hm, ⟨⟨k1, k2⟩, k3, k4⟩, o1⟩
  · repeat' (first | (simp (maxSteps := 1000000) only [evB, if_true, if_false, ne_eq, Nat.reduceEqDiff, Nat.reduceAdd, reduceCtorEq, Int.reduceLE, Int.reduceLT, Int.reduceEq, Int.reduceNeg, Int.reduceToNat, Int.reducePow, Int.reduceMod, Int.reduceDiv, Int.reduceSub, Int.reduceAdd, Int.reduceMul, Nat.reduceMul, Nat.reduceSub, Nat.reducePow, exB, resC_ptr, res_cell, nilb, nilf, faddr_p, c_law13_ModulusGoes, st_bs2, repA_2, o1, he, hK]) | (simp (maxSteps := 1000000) (disch := first | with_reducible assumption | omega) only [dxB]) | (simp only [kI_d, kG_dt, kG_df]; split) | (simp only [kI_v, kG_vt, kG_vf]; split))
  · have r1 := modulus_Cmp (G := G) (T := T) hA hG hC hD hU F k1 k2 k3 k4
    have r2 := modulus_Cmp (G := G) (T := T) hA hG hC hD hU F k3 k4 k1 k2
    have r3 := modulus_Abs (G := G) (T := T) hA hG hC hD hE hU F hm k1 k2
    have r4 := modulus_Abs (G := G) (T := T) hA hG hC hD hE hU F hm k3 k4
    have nn := ref03_None (G := G) (T := T) hD hF F
    have hg := goes F hm.1 hm.2 a b c d
    generalize absZ F m a b = S1 at *
    generalize absZ F m c d = S2 at *
    generalize cmpZ F a b c d = q1 at *
    generalize cmpZ F c d a b = q2 at *
    simp only [zA] at *
    rcases hg with ⟨rfl, rfl, h⟩ | ⟨rfl, rfl, h⟩ | ⟨rfl, rfl, h⟩ | ⟨rfl, rfl, h⟩
    · by_cases h1 : S1.1 = F.nan
      · have e1 : (S1.1 : Int) = (F.nan : Int) := by omega
        repeat' (first | (simp (maxSteps := 1000000) only [evB, if_true, if_false, ne_eq, Nat.reduceEqDiff, Nat.reduceAdd, reduceCtorEq, Int.reduceLE, Int.reduceLT, Int.reduceEq, Int.reduceNeg, Int.reduceToNat, Int.reducePow, Int.reduceMod, Int.reduceDiv, Int.reduceSub, Int.reduceAdd, Int.reduceMul, Nat.reduceMul, Nat.reduceSub, Nat.reducePow, exB, resC_ptr, res_cell, nilb, nilf, faddr_p, c_law13_ModulusGoes, st_bs2, repA_2, o1, r1, r2, r3, r4, nn, e1, hK]) | (simp (maxSteps := 1000000) (disch := first | with_reducible assumption | omega) only [dxB]) | (simp only [kI_d, kG_dt, kG_df]; split) | (simp only [kI_v, kG_vt, kG_vf]; split))
      · have e1 : ¬ (S1.1 : Int) = (F.nan : Int) := by omega
        have e2 : (S2.1 : Int) = (F.nan : Int) := by omega
        repeat' (first | (simp (maxSteps := 1000000) only [evB, if_true, if_false, ne_eq, Nat.reduceEqDiff, Nat.reduceAdd, reduceCtorEq, Int.reduceLE, Int.reduceLT, Int.reduceEq, Int.reduceNeg, Int.reduceToNat, Int.reducePow, Int.reduceMod, Int.reduceDiv, Int.reduceSub, Int.reduceAdd, Int.reduceMul, Nat.reduceMul, Nat.reduceSub, Nat.reducePow, exB, resC_ptr, res_cell, nilb, nilf, faddr_p, c_law13_ModulusGoes, st_bs2, repA_2, o1, r1, r2, r3, r4, nn, e1, e2, hK]) | (simp (maxSteps := 1000000) (disch := first | with_reducible assumption | omega) only [dxB]) | (simp only [kI_d, kG_dt, kG_df]; split) | (simp only [kI_v, kG_vt, kG_vf]; split))
    · have e1 : (S1.1 : Int) = (S2.1 : Int) := by omega
      repeat' (first | (simp (maxSteps := 1000000) only [evB, if_true, if_false, ne_eq, Nat.reduceEqDiff, Nat.reduceAdd, reduceCtorEq, Int.reduceLE, Int.reduceLT, Int.reduceEq, Int.reduceNeg, Int.reduceToNat, Int.reducePow, Int.reduceMod, Int.reduceDiv, Int.reduceSub, Int.reduceAdd, Int.reduceMul, Nat.reduceMul, Nat.reduceSub, Nat.reducePow, exB, resC_ptr, res_cell, nilb, nilf, faddr_p, c_law13_ModulusGoes, st_bs2, repA_2, o1, r1, r2, r3, r4, nn, e1, hK]) | (simp (maxSteps := 1000000) (disch := first | with_reducible assumption | omega) only [dxB]) | (simp only [kI_d, kG_dt, kG_df]; split) | (simp only [kI_v, kG_vt, kG_vf]; split))
    · have e1 : (S1.1 : Int) ≤ (S2.1 : Int) := by omega
      repeat' (first | (simp (maxSteps := 1000000) only [evB, if_true, if_false, ne_eq, Nat.reduceEqDiff, Nat.reduceAdd, reduceCtorEq, Int.reduceLE, Int.reduceLT, Int.reduceEq, Int.reduceNeg, Int.reduceToNat, Int.reducePow, Int.reduceMod, Int.reduceDiv, Int.reduceSub, Int.reduceAdd, Int.reduceMul, Nat.reduceMul, Nat.reduceSub, Nat.reducePow, exB, resC_ptr, res_cell, nilb, nilf, faddr_p, c_law13_ModulusGoes, st_bs2, repA_2, o1, r1, r2, r3, r4, nn, e1, hK]) | (simp (maxSteps := 1000000) (disch := first | with_reducible assumption | omega) only [dxB]) | (simp only [kI_d, kG_dt, kG_df]; split) | (simp only [kI_v, kG_vt, kG_vf]; split))
    · have e1 : (S2.1 : Int) ≤ (S1.1 : Int) := by omega
      repeat' (first | (simp (maxSteps := 1000000) only [evB, if_true, if_false, ne_eq, Nat.reduceEqDiff, Nat.reduceAdd, reduceCtorEq, Int.reduceLE, Int.reduceLT, Int.reduceEq, Int.reduceNeg, Int.reduceToNat, Int.reducePow, Int.reduceMod, Int.reduceDiv, Int.reduceSub, Int.reduceAdd, Int.reduceMul, Nat.reduceMul, Nat.reduceSub, Nat.reducePow, exB, resC_ptr, res_cell, nilb, nilf, faddr_p, c_law13_ModulusGoes, st_bs2, repA_2, o1, r1, r2, r3, r4, nn, e1, hK]) | (simp (maxSteps := 1000000) (disch := first | with_reducible assumption | omega) only [dxB]) | (simp only [kI_d, kG_dt, kG_df]; split) | (simp only [kI_v, kG_vt, kG_vf]; split))
end Go.Cv
