/-
  A part of the proof of the statements of this seat (texts that the law's own text leans on): no condition.
-/
import Derived.Test.YtmjcmppbmolmnaaGreatDoorM5
set_option linter.unusedVariables false
set_option linter.unusedSimpArgs false
/-
  The program's sums of parts.
-/
namespace Go.Cv
variable {G : Nat → Option (List AV)} {T : Tbl} {g : Nat}

theorem hs_loop (e : Env) (h : Heap) : evL G T c_soft_has_l1 e h = kS G T (evL G T c_soft_has_b1 (keepE [0, 7, 8, 9] e) h) c_soft_has_l1 := s_loopc G T rfl e h
section
variable (a1 a2 a3 a4 a5 b1 b2 b3 b4 b5 c1 c2 c3 c4 c5 : AV) (k : IntKind)
theorem i5_20 : iaddrV 5 (.imm 2 [a1, a2, a3, a4, a5, b1, b2, b3, b4, b5]) (.int k 0) = some (.iptr [a1, a2, a3, a4, a5, b1, b2, b3, b4, b5] 0) := rfl
theorem i5_21 : iaddrV 5 (.imm 2 [a1, a2, a3, a4, a5, b1, b2, b3, b4, b5]) (.int k 1) = some (.iptr [a1, a2, a3, a4, a5, b1, b2, b3, b4, b5] 5) := rfl
theorem i5_30 : iaddrV 5 (.imm 3 [a1, a2, a3, a4, a5, b1, b2, b3, b4, b5, c1, c2, c3, c4, c5]) (.int k 0) = some (.iptr [a1, a2, a3, a4, a5, b1, b2, b3, b4, b5, c1, c2, c3, c4, c5] 0) := rfl
theorem i5_31 : iaddrV 5 (.imm 3 [a1, a2, a3, a4, a5, b1, b2, b3, b4, b5, c1, c2, c3, c4, c5]) (.int k 1) = some (.iptr [a1, a2, a3, a4, a5, b1, b2, b3, b4, b5, c1, c2, c3, c4, c5] 5) := rfl
theorem i5_32 : iaddrV 5 (.imm 3 [a1, a2, a3, a4, a5, b1, b2, b3, b4, b5, c1, c2, c3, c4, c5]) (.int k 2) = some (.iptr [a1, a2, a3, a4, a5, b1, b2, b3, b4, b5, c1, c2, c3, c4, c5] 10) := rfl
theorem r5_0 (h : Mem) (l : List AV) : rdAt G h 5 (.iptr (a1 :: a2 :: a3 :: a4 :: a5 :: l) 0) = some [a1, a2, a3, a4, a5] := by simp [rdAt]
theorem r5_5 (h : Mem) (l : List AV) : rdAt G h 5 (.iptr (a1 :: a2 :: a3 :: a4 :: a5 :: b1 :: b2 :: b3 :: b4 :: b5 :: l) 5) = some [b1, b2, b3, b4, b5] := by simp [rdAt]
theorem r5_10 (h : Mem) (l : List AV) : rdAt G h 5 (.iptr (a1 :: a2 :: a3 :: a4 :: a5 :: b1 :: b2 :: b3 :: b4 :: b5 :: c1 :: c2 :: c3 :: c4 :: c5 :: l) 10) = some [c1, c2, c3, c4, c5] := by simp [rdAt]
end

theorem soft_has2 (hU : HasG g T) {k c c' : Int} {n s n' s' z z' : Bool} {l l' : List Nat} {e e' : Int} :
    run G T 178 [.int .u8 k, .imm 2 [.int .u8 c, .bool n, .bool s, D z l, .int .i64 e, .int .u8 c', .bool n', .bool s', D z' l', .int .i64 e']] = some (.bool (decide (c = k ∨ c' = k))) := by
  rw [run_k G T hU.soft_has]
  by_cases h1 : c = k
  · rw [decide_eq_true (Or.inl h1)]
    repeat' (first | (simp (maxSteps := 1000000) only [evB, if_true, if_false, ne_eq, Nat.reduceEqDiff, Nat.reduceAdd, reduceCtorEq, Int.reduceLE, Int.reduceLT, Int.reduceEq, Int.reduceNeg, Int.reduceToNat, Int.reducePow, Int.reduceMod, Int.reduceDiv, Int.reduceSub, Int.reduceAdd, Int.reduceMul, Nat.reduceMul, Nat.reduceSub, Nat.reducePow, exB, resC_ptr, res_cell, nilb, nilf, faddr_p, c_soft_has, hs_loop, c_soft_has_b1, i5_20, i5_21, r5_0, r5_5, wr_1, wr1, wr_2, wr2, h1]) | (simp (maxSteps := 1000000) (disch := first | with_reducible assumption | omega) only [dxB]) | (simp only [kI_d, kG_dt, kG_df]; split) | (simp only [kI_v, kG_vt, kG_vf]; split))
  · by_cases h2 : c' = k
    · rw [decide_eq_true (Or.inr h2)]
      repeat' (first | (simp (maxSteps := 1000000) only [evB, if_true, if_false, ne_eq, Nat.reduceEqDiff, Nat.reduceAdd, reduceCtorEq, Int.reduceLE, Int.reduceLT, Int.reduceEq, Int.reduceNeg, Int.reduceToNat, Int.reducePow, Int.reduceMod, Int.reduceDiv, Int.reduceSub, Int.reduceAdd, Int.reduceMul, Nat.reduceMul, Nat.reduceSub, Nat.reducePow, exB, resC_ptr, res_cell, nilb, nilf, faddr_p, c_soft_has, hs_loop, c_soft_has_b1, i5_20, i5_21, r5_0, r5_5, wr_1, wr1, wr_2, wr2, h1, h2]) | (simp (maxSteps := 1000000) (disch := first | with_reducible assumption | omega) only [dxB]) | (simp only [kI_d, kG_dt, kG_df]; split) | (simp only [kI_v, kG_vt, kG_vf]; split))
    · rw [decide_eq_false (by omega)]
      repeat' (first | (simp (maxSteps := 1000000) only [evB, if_true, if_false, ne_eq, Nat.reduceEqDiff, Nat.reduceAdd, reduceCtorEq, Int.reduceLE, Int.reduceLT, Int.reduceEq, Int.reduceNeg, Int.reduceToNat, Int.reducePow, Int.reduceMod, Int.reduceDiv, Int.reduceSub, Int.reduceAdd, Int.reduceMul, Nat.reduceMul, Nat.reduceSub, Nat.reducePow, exB, resC_ptr, res_cell, nilb, nilf, faddr_p, c_soft_has, hs_loop, c_soft_has_b1, i5_20, i5_21, r5_0, r5_5, wr_1, wr1, wr_2, wr2, h1, h2]) | (simp (maxSteps := 1000000) (disch := first | with_reducible assumption | omega) only [dxB]) | (simp only [kI_d, kG_dt, kG_df]; split) | (simp only [kI_v, kG_vt, kG_vf]; split))
set_option maxHeartbeats 2000000 in
theorem soft_has3 (hU : HasG g T) {k c c' c'' : Int} {n s n' s' n'' s'' z z' z'' : Bool} {l l' l'' : List Nat} {e e' e'' : Int} :
    run G T 178 [.int .u8 k, .imm 3 [.int .u8 c, .bool n, .bool s, D z l, .int .i64 e, .int .u8 c', .bool n', .bool s', D z' l', .int .i64 e', .int .u8 c'', .bool n'', .bool s'', D z'' l'', .int .i64 e'']] = some (.bool (decide (c = k ∨ c' = k ∨ c'' = k))) := by
  rw [run_k G T hU.soft_has]
  by_cases h1 : c = k
  · rw [decide_eq_true (Or.inl h1)]
    repeat' (first | (simp (maxSteps := 1000000) only [evB, if_true, if_false, ne_eq, Nat.reduceEqDiff, Nat.reduceAdd, reduceCtorEq, Int.reduceLE, Int.reduceLT, Int.reduceEq, Int.reduceNeg, Int.reduceToNat, Int.reducePow, Int.reduceMod, Int.reduceDiv, Int.reduceSub, Int.reduceAdd, Int.reduceMul, Nat.reduceMul, Nat.reduceSub, Nat.reducePow, exB, resC_ptr, res_cell, nilb, nilf, faddr_p, c_soft_has, hs_loop, c_soft_has_b1, i5_30, i5_31, i5_32, r5_0, r5_5, r5_10, wr_1, wr1, wr_2, wr2, wr_3, wr3, h1]) | (simp (maxSteps := 1000000) (disch := first | with_reducible assumption | omega) only [dxB]) | (simp only [kI_d, kG_dt, kG_df]; split) | (simp only [kI_v, kG_vt, kG_vf]; split))
  · by_cases h2 : c' = k
    · rw [decide_eq_true (Or.inr (Or.inl h2))]
      repeat' (first | (simp (maxSteps := 1000000) only [evB, if_true, if_false, ne_eq, Nat.reduceEqDiff, Nat.reduceAdd, reduceCtorEq, Int.reduceLE, Int.reduceLT, Int.reduceEq, Int.reduceNeg, Int.reduceToNat, Int.reducePow, Int.reduceMod, Int.reduceDiv, Int.reduceSub, Int.reduceAdd, Int.reduceMul, Nat.reduceMul, Nat.reduceSub, Nat.reducePow, exB, resC_ptr, res_cell, nilb, nilf, faddr_p, c_soft_has, hs_loop, c_soft_has_b1, i5_30, i5_31, i5_32, r5_0, r5_5, r5_10, wr_1, wr1, wr_2, wr2, wr_3, wr3, h1, h2]) | (simp (maxSteps := 1000000) (disch := first | with_reducible assumption | omega) only [dxB]) | (simp only [kI_d, kG_dt, kG_df]; split) | (simp only [kI_v, kG_vt, kG_vf]; split))
    · by_cases h3 : c'' = k
      · rw [decide_eq_true (Or.inr (Or.inr h3))]
        repeat' (first | (simp (maxSteps := 1000000) only [evB, if_true, if_false, ne_eq, Nat.reduceEqDiff, Nat.reduceAdd, reduceCtorEq, Int.reduceLE, Int.reduceLT, Int.reduceEq, Int.reduceNeg, Int.reduceToNat, Int.reducePow, Int.reduceMod, Int.reduceDiv, Int.reduceSub, Int.reduceAdd, Int.reduceMul, Nat.reduceMul, Nat.reduceSub, Nat.reducePow, exB, resC_ptr, res_cell, nilb, nilf, faddr_p, c_soft_has, hs_loop, c_soft_has_b1, i5_30, i5_31, i5_32, r5_0, r5_5, r5_10, wr_1, wr1, wr_2, wr2, wr_3, wr3, h1, h2, h3]) | (simp (maxSteps := 1000000) (disch := first | with_reducible assumption | omega) only [dxB]) | (simp only [kI_d, kG_dt, kG_df]; split) | (simp only [kI_v, kG_vt, kG_vf]; split))
      · rw [decide_eq_false (by omega)]
        repeat' (first | (simp (maxSteps := 1000000) only [evB, if_true, if_false, ne_eq, Nat.reduceEqDiff, Nat.reduceAdd, reduceCtorEq, Int.reduceLE, Int.reduceLT, Int.reduceEq, Int.reduceNeg, Int.reduceToNat, Int.reducePow, Int.reduceMod, Int.reduceDiv, Int.reduceSub, Int.reduceAdd, Int.reduceMul, Nat.reduceMul, Nat.reduceSub, Nat.reducePow, exB, resC_ptr, res_cell, nilb, nilf, faddr_p, c_soft_has, hs_loop, c_soft_has_b1, i5_30, i5_31, i5_32, r5_0, r5_5, r5_10, wr_1, wr1, wr_2, wr2, wr_3, wr3, h1, h2, h3]) | (simp (maxSteps := 1000000) (disch := first | with_reducible assumption | omega) only [dxB]) | (simp only [kI_d, kG_dt, kG_df]; split) | (simp only [kI_v, kG_vt, kG_vf]; split))

def deskA (F : Fm) (md : Int) : AV := .agg [.int .u8 F.u, .int .u8 md]
def ptA (c : Int) (n z : Bool) (d : Dy) : AV := .agg [.int .u8 c, .bool n, .bool d.n, D z (dl d.m), .int .i64 d.e]

theorem desk_none (hD : HasD g T) (hU : HasG g T) (F : Fm) {md x : Int} : run G T 179 [deskA F md, .int .u8 x] = some (.tup [.int .u64 (F.nan : Int), .int .u8 x, .int .i64 0]) := by
  rw [run_k G T hU.soft_desk_none]
  have h1 := word_None (G := G) (T := T) hU hD F
  simp only [deskA] at *
  repeat' (first | (simp (maxSteps := 1000000) only [evB, if_true, if_false, ne_eq, Nat.reduceEqDiff, Nat.reduceAdd, reduceCtorEq, Int.reduceLE, Int.reduceLT, Int.reduceEq, Int.reduceNeg, Int.reduceToNat, Int.reducePow, Int.reduceMod, Int.reduceDiv, Int.reduceSub, Int.reduceAdd, Int.reduceMul, Nat.reduceMul, Nat.reduceSub, Nat.reducePow, exB, resC_ptr, res_cell, nilb, nilf, faddr_p, c_soft_desk_none, h1]) | (simp (maxSteps := 1000000) (disch := first | with_reducible assumption | omega) only [dxB]) | (simp only [kI_d, kG_dt, kG_df]; split) | (simp only [kI_v, kG_vt, kG_vf]; split))
theorem desk_inf (hD : HasD g T) (hU : HasG g T) (F : Fm) {md x : Int} {n : Bool} : run G T 180 [deskA F md, .bool n, .int .u8 x] = some (.tup [.int .u64 ((F.inf n : Nat) : Int), .int .u8 x, .int .i64 0]) := by
  rw [run_k G T hU.soft_desk_inf]
  have h1 := word_Inf (G := G) (T := T) hD F (n := n)
  simp only [deskA] at *
  cases n <;> repeat' (first | (simp (maxSteps := 1000000) only [evB, if_true, if_false, ne_eq, Nat.reduceEqDiff, Nat.reduceAdd, reduceCtorEq, Int.reduceLE, Int.reduceLT, Int.reduceEq, Int.reduceNeg, Int.reduceToNat, Int.reducePow, Int.reduceMod, Int.reduceDiv, Int.reduceSub, Int.reduceAdd, Int.reduceMul, Nat.reduceMul, Nat.reduceSub, Nat.reducePow, exB, resC_ptr, res_cell, nilb, nilf, faddr_p, c_soft_desk_inf, h1]) | (simp (maxSteps := 1000000) (disch := first | with_reducible assumption | omega) only [dxB]) | (simp only [kI_d, kG_dt, kG_df]; split) | (simp only [kI_v, kG_vt, kG_vf]; split))
theorem desk_zero (hD : HasD g T) (hU : HasG g T) (F : Fm) {md : Int} {n : Bool} : run G T 181 [deskA F md, .bool n] = some (.tup [.int .u64 ((F.sgn n : Nat) : Int), .int .u8 0, .int .i64 0]) := by
  rw [run_k G T hU.soft_desk_zero]
  have h1 := word_Zero (G := G) (T := T) hD F (n := n)
  simp only [deskA] at *
  cases n <;> repeat' (first | (simp (maxSteps := 1000000) only [evB, if_true, if_false, ne_eq, Nat.reduceEqDiff, Nat.reduceAdd, reduceCtorEq, Int.reduceLE, Int.reduceLT, Int.reduceEq, Int.reduceNeg, Int.reduceToNat, Int.reducePow, Int.reduceMod, Int.reduceDiv, Int.reduceSub, Int.reduceAdd, Int.reduceMul, Nat.reduceMul, Nat.reduceSub, Nat.reducePow, exB, resC_ptr, res_cell, nilb, nilf, faddr_p, c_soft_desk_zero, h1]) | (simp (maxSteps := 1000000) (disch := first | with_reducible assumption | omega) only [dxB]) | (simp only [kI_d, kG_dt, kG_df]; split) | (simp only [kI_v, kG_vt, kG_vf]; split))
theorem desk_sum (hA : HasA g T) (hG : Glob G g) (hC : HasC g T) (hD : HasD g T) (hE : HasE g T) (hU : HasG g T) (F : Fm) {md : Int} (hm : 1 ≤ md ∧ md ≤ 5) {z : Bool} {d : Dy} (hz : Nz d) (hb : Bd d 131072) :
    run G T 183 [deskA F md, DyA z d] = some (.tup [.int .u64 ((sumW F md d).1 : Int), .int .u8 ((sumW F md d).2 : Int), .int .i64 0]) := by
  rw [run_k G T hU.soft_desk_sum]
  have hmd := mayD_nzb hz hb
  have s1 := dyad_Sign (G := G) (T := T) hA hC (n := d.n) (z := z) (Dg_dl d.m) (e := d.e)
  rw [sign_may hmd] at s1
  unfold sumW
  by_cases h0 : d.m = 0
  · rw [if_pos h0] at s1 ⊢
    have h1 := desk_zero (G := G) (T := T) hD hU F (md := md) (n := decide (md = 5))
    simp only [deskA, DyA, A3] at *
    repeat' (first | (simp (maxSteps := 1000000) only [evB, if_true, if_false, ne_eq, Nat.reduceEqDiff, Nat.reduceAdd, reduceCtorEq, Int.reduceLE, Int.reduceLT, Int.reduceEq, Int.reduceNeg, Int.reduceToNat, Int.reducePow, Int.reduceMod, Int.reduceDiv, Int.reduceSub, Int.reduceAdd, Int.reduceMul, Nat.reduceMul, Nat.reduceSub, Nat.reducePow, exB, resC_ptr, res_cell, nilb, nilf, faddr_p, c_soft_desk_sum, s1, h1]) | (simp (maxSteps := 1000000) (disch := first | with_reducible assumption | omega) only [dxB]) | (simp only [kI_d, kG_dt, kG_df]; split) | (simp only [kI_v, kG_vt, kG_vf]; split))
    all_goals try rfl
  · rw [if_neg h0] at s1 ⊢
    have h1 := round_Round (G := G) (T := T) hA hC hG hD hE F hm (z := z) (d := d) hmd
    have c1 : ¬ (if d.n = true then (-1 : Int) else 1) = 0 := by split <;> decide
    generalize (if d.n = true then (-1 : Int) else 1) = sg at *
    generalize rndW F md d = S at *
    simp only [deskA, DyA, A3] at *
    repeat' (first | (simp (maxSteps := 1000000) only [evB, if_true, if_false, ne_eq, Nat.reduceEqDiff, Nat.reduceAdd, reduceCtorEq, Int.reduceLE, Int.reduceLT, Int.reduceEq, Int.reduceNeg, Int.reduceToNat, Int.reducePow, Int.reduceMod, Int.reduceDiv, Int.reduceSub, Int.reduceAdd, Int.reduceMul, Nat.reduceMul, Nat.reduceSub, Nat.reducePow, exB, resC_ptr, res_cell, nilb, nilf, faddr_p, c_soft_desk_sum, s1, c1, h1]) | (simp (maxSteps := 1000000) (disch := first | with_reducible assumption | omega) only [dxB]) | (simp only [kI_d, kG_dt, kG_df]; split) | (simp only [kI_v, kG_vt, kG_vf]; split))
    all_goals try rfl

set_option maxHeartbeats 8000000 in
theorem desk_add (hA : HasA g T) (hG : Glob G g) (hC : HasC g T) (hD : HasD g T) (hE : HasE g T) (hU : HasG g T) (F : Fm) {md : Int} (hm : 1 ≤ md ∧ md ≤ 5) {c c' : Int} {n n' z z' : Bool} {d d' : Dy}
    (hz : Nz d) (hz' : Nz d') (hb : Bd d 16384) (hb' : Bd d' 16384) :
    run G T 177 [deskA F md, ptA c n z d, ptA c' n' z' d'] = some (.tup [.int .u64 ((addP F md c n d c' n' d').1 : Int), .int .u8 ((addP F md c n d c' n' d').2 : Int), .int .i64 0]) := by
  rw [run_k G T hU.soft_desk_add]
  have h5 := soft_has2 (G := G) (T := T) hU (k := 5) (c := c) (c' := c') (n := n) (s := d.n) (n' := n') (s' := d'.n) (z := z) (z' := z') (l := dl d.m) (l' := dl d'.m) (e := d.e) (e' := d'.e)
  have nn := fun x => desk_none (G := G) (T := T) hD hU F (md := md) (x := x)
  have inf := fun m => desk_inf (G := G) (T := T) hD hU F (md := md) (x := 0) (n := m)
  have ze := fun m => desk_zero (G := G) (T := T) hD hU F (md := md) (n := m)
  unfold addP
  by_cases a5 : c = 5 ∨ c' = 5
  · rw [decide_eq_true a5] at h5
    rw [if_pos a5]
    simp only [deskA, ptA] at *
    repeat' (first | (simp (maxSteps := 1000000) only [evB, if_true, if_false, ne_eq, Nat.reduceEqDiff, Nat.reduceAdd, reduceCtorEq, Int.reduceLE, Int.reduceLT, Int.reduceEq, Int.reduceNeg, Int.reduceToNat, Int.reducePow, Int.reduceMod, Int.reduceDiv, Int.reduceSub, Int.reduceAdd, Int.reduceMul, Nat.reduceMul, Nat.reduceSub, Nat.reducePow, exB, resC_ptr, res_cell, nilb, nilf, faddr_p, c_soft_desk_add, st_bs5, h5, nn]) | (simp (maxSteps := 1000000) (disch := first | with_reducible assumption | omega) only [dxB]) | (simp only [kI_d, kG_dt, kG_df]; split) | (simp only [kI_v, kG_vt, kG_vf]; split))
    all_goals try rfl
  · rw [decide_eq_false a5] at h5
    rw [if_neg a5]
    by_cases a4 : c = 4
    · by_cases b4 : c' = 4
      · by_cases hn : n = n'
        · rw [if_neg (show ¬ (c = 4 ∧ c' = 4 ∧ n ≠ n') from fun h => h.2.2 hn), if_pos a4]
          have i1 := inf n'
          subst a4 b4 hn
          simp only [deskA, ptA] at *
          cases n <;> (
            repeat' (first | (simp (maxSteps := 1000000) only [evB, if_true, if_false, ne_eq, Nat.reduceEqDiff, Nat.reduceAdd, reduceCtorEq, Int.reduceLE, Int.reduceLT, Int.reduceEq, Int.reduceNeg, Int.reduceToNat, Int.reducePow, Int.reduceMod, Int.reduceDiv, Int.reduceSub, Int.reduceAdd, Int.reduceMul, Nat.reduceMul, Nat.reduceSub, Nat.reducePow, exB, resC_ptr, res_cell, nilb, nilf, faddr_p, c_soft_desk_add, st_bs5, h5, i1]) | (simp (maxSteps := 1000000) (disch := first | with_reducible assumption | omega) only [dxB]) | (simp only [kI_d, kG_dt, kG_df]; split) | (simp only [kI_v, kG_vt, kG_vf]; split))
            all_goals try rfl)
        · rw [if_pos (show c = 4 ∧ c' = 4 ∧ n ≠ n' from ⟨a4, b4, hn⟩)]
          subst a4 b4
          simp only [deskA, ptA] at *
          cases n <;> cases n' <;> first | exact absurd rfl hn | (
            repeat' (first | (simp (maxSteps := 1000000) only [evB, if_true, if_false, ne_eq, Nat.reduceEqDiff, Nat.reduceAdd, reduceCtorEq, Int.reduceLE, Int.reduceLT, Int.reduceEq, Int.reduceNeg, Int.reduceToNat, Int.reducePow, Int.reduceMod, Int.reduceDiv, Int.reduceSub, Int.reduceAdd, Int.reduceMul, Nat.reduceMul, Nat.reduceSub, Nat.reducePow, exB, resC_ptr, res_cell, nilb, nilf, faddr_p, c_soft_desk_add, st_bs5, h5, nn]) | (simp (maxSteps := 1000000) (disch := first | with_reducible assumption | omega) only [dxB]) | (simp only [kI_d, kG_dt, kG_df]; split) | (simp only [kI_v, kG_vt, kG_vf]; split))
            all_goals try rfl)
      · rw [if_neg (show ¬ (c = 4 ∧ c' = 4 ∧ n ≠ n') by omega), if_pos a4]
        have i1 := inf n
        subst a4
        simp only [deskA, ptA] at *
        cases n <;> (
          repeat' (first | (simp (maxSteps := 1000000) only [evB, if_true, if_false, ne_eq, Nat.reduceEqDiff, Nat.reduceAdd, reduceCtorEq, Int.reduceLE, Int.reduceLT, Int.reduceEq, Int.reduceNeg, Int.reduceToNat, Int.reducePow, Int.reduceMod, Int.reduceDiv, Int.reduceSub, Int.reduceAdd, Int.reduceMul, Nat.reduceMul, Nat.reduceSub, Nat.reducePow, exB, resC_ptr, res_cell, nilb, nilf, faddr_p, c_soft_desk_add, st_bs5, h5, b4, i1]) | (simp (maxSteps := 1000000) (disch := first | with_reducible assumption | omega) only [dxB]) | (simp only [kI_d, kG_dt, kG_df]; split) | (simp only [kI_v, kG_vt, kG_vf]; split))
          all_goals try rfl)
    · rw [if_neg (show ¬ (c = 4 ∧ c' = 4 ∧ n ≠ n') by omega), if_neg a4]
      by_cases b4 : c' = 4
      · rw [if_pos b4]
        have i1 := inf n'
        subst b4
        simp only [deskA, ptA] at *
        cases n' <;> (
          repeat' (first | (simp (maxSteps := 1000000) only [evB, if_true, if_false, ne_eq, Nat.reduceEqDiff, Nat.reduceAdd, reduceCtorEq, Int.reduceLE, Int.reduceLT, Int.reduceEq, Int.reduceNeg, Int.reduceToNat, Int.reducePow, Int.reduceMod, Int.reduceDiv, Int.reduceSub, Int.reduceAdd, Int.reduceMul, Nat.reduceMul, Nat.reduceSub, Nat.reducePow, exB, resC_ptr, res_cell, nilb, nilf, faddr_p, c_soft_desk_add, st_bs5, h5, a4, i1]) | (simp (maxSteps := 1000000) (disch := first | with_reducible assumption | omega) only [dxB]) | (simp only [kI_d, kG_dt, kG_df]; split) | (simp only [kI_v, kG_vt, kG_vf]; split))
          all_goals try rfl)
      · rw [if_neg b4]
        by_cases h1 : c = 1 ∧ c' = 1 ∧ n = n'
        · rw [if_pos h1]
          have i1 := ze n
          obtain ⟨k1, k2, k3⟩ := h1
          subst k1 k2 k3
          simp only [deskA, ptA] at *
          cases n <;> (
            repeat' (first | (simp (maxSteps := 1000000) only [evB, if_true, if_false, ne_eq, Nat.reduceEqDiff, Nat.reduceAdd, reduceCtorEq, Int.reduceLE, Int.reduceLT, Int.reduceEq, Int.reduceNeg, Int.reduceToNat, Int.reducePow, Int.reduceMod, Int.reduceDiv, Int.reduceSub, Int.reduceAdd, Int.reduceMul, Nat.reduceMul, Nat.reduceSub, Nat.reducePow, exB, resC_ptr, res_cell, nilb, nilf, faddr_p, c_soft_desk_add, st_bs5, h5, i1]) | (simp (maxSteps := 1000000) (disch := first | with_reducible assumption | omega) only [dxB]) | (simp only [kI_d, kG_dt, kG_df]; split) | (simp only [kI_v, kG_vt, kG_vf]; split))
            all_goals try rfl)
        · rw [if_neg h1]
          obtain ⟨z3, s1⟩ := dyad_Add (G := G) (T := T) hA hG hC hU (z := z) (y := z') hb hb' (mayD_nzb hz (hb.mono (by decide))) (mayD_nzb hz' (hb'.mono (by decide)))
          have s2 := desk_sum (G := G) (T := T) hA hG hC hD hE hU F hm (z := z3) (Nz_add hz hz') ((Bd_add hb hb').mono (by decide))
          generalize sumW F md (addD d d') = S at *
          generalize addD d d' = s at *
          have hk : ¬ c = 1 ∨ (c = 1 ∧ ¬ c' = 1) ∨ (c = 1 ∧ c' = 1 ∧ n ≠ n') := by
            by_cases q1 : c = 1
            · by_cases q2 : c' = 1
              · right; right; exact ⟨q1, q2, fun h => h1 ⟨q1, q2, h⟩⟩
              · right; left; exact ⟨q1, q2⟩
            · left; exact q1
          clear h1 hb hb' hz hz' inf ze nn
          simp only [deskA, ptA, DyA, A3] at *
          rcases hk with k1 | ⟨k1, k2⟩ | ⟨k1, k2, k3⟩
          · repeat' (first | (simp (maxSteps := 1000000) only [evB, if_true, if_false, ne_eq, Nat.reduceEqDiff, Nat.reduceAdd, reduceCtorEq, Int.reduceLE, Int.reduceLT, Int.reduceEq, Int.reduceNeg, Int.reduceToNat, Int.reducePow, Int.reduceMod, Int.reduceDiv, Int.reduceSub, Int.reduceAdd, Int.reduceMul, Nat.reduceMul, Nat.reduceSub, Nat.reducePow, exB, resC_ptr, res_cell, nilb, nilf, faddr_p, c_soft_desk_add, st_bs5, h5, a4, b4, k1, s1, s2]) | (simp (maxSteps := 1000000) (disch := first | with_reducible assumption | omega) only [dxB]) | (simp only [kI_d, kG_dt, kG_df]; split) | (simp only [kI_v, kG_vt, kG_vf]; split))
            all_goals try rfl
          · subst k1
            repeat' (first | (simp (maxSteps := 1000000) only [evB, if_true, if_false, ne_eq, Nat.reduceEqDiff, Nat.reduceAdd, reduceCtorEq, Int.reduceLE, Int.reduceLT, Int.reduceEq, Int.reduceNeg, Int.reduceToNat, Int.reducePow, Int.reduceMod, Int.reduceDiv, Int.reduceSub, Int.reduceAdd, Int.reduceMul, Nat.reduceMul, Nat.reduceSub, Nat.reducePow, exB, resC_ptr, res_cell, nilb, nilf, faddr_p, c_soft_desk_add, st_bs5, h5, a4, b4, k2, s1, s2]) | (simp (maxSteps := 1000000) (disch := first | with_reducible assumption | omega) only [dxB]) | (simp only [kI_d, kG_dt, kG_df]; split) | (simp only [kI_v, kG_vt, kG_vf]; split))
            all_goals try rfl
          · subst k1 k2
            cases n <;> cases n' <;> first | exact absurd rfl k3 | (
              repeat' (first | (simp (maxSteps := 1000000) only [evB, if_true, if_false, ne_eq, Nat.reduceEqDiff, Nat.reduceAdd, reduceCtorEq, Int.reduceLE, Int.reduceLT, Int.reduceEq, Int.reduceNeg, Int.reduceToNat, Int.reducePow, Int.reduceMod, Int.reduceDiv, Int.reduceSub, Int.reduceAdd, Int.reduceMul, Nat.reduceMul, Nat.reduceSub, Nat.reducePow, exB, resC_ptr, res_cell, nilb, nilf, faddr_p, c_soft_desk_add, st_bs5, h5, s1, s2]) | (simp (maxSteps := 1000000) (disch := first | with_reducible assumption | omega) only [dxB]) | (simp only [kI_d, kG_dt, kG_df]; split) | (simp only [kI_v, kG_vt, kG_vf]; split))
              all_goals try rfl)
end Go.Cv

/-
  The program's sums, differences, products, quotients, roots of words.
-/
namespace Go.Cv
variable {G : Nat → Option (List AV)} {T : Tbl} {g : Nat}

theorem apart_ip (cs : List AV) (o b o' : Nat) : apart (.iptr cs o) (.ptr b o') = true := rfl
theorem soft_Add (hA : HasA g T) (hG : Glob G g) (hC : HasC g T) (hD : HasD g T) (hE : HasE g T) (hU : HasG g T) (F : Fm) {md : Int} (hm : 1 ≤ md ∧ md ≤ 5) {a b : Nat} (ha : a < 2 * F.sg) (hb : b < 2 * F.sg) :
    run G T 164 [.int .u8 F.u, .int .u8 md, .int .u64 (a : Int), .int .u64 (b : Int)] = some (.tup [.int .u64 ((addW F md a b).1 : Int), .int .u8 ((addW F md a b).2 : Int), .int .i64 0]) := by
  rw [run_k G T hU.soft_Add]
  obtain ⟨z1, z2, o1⟩ := soft_open2 (G := G) (T := T) hA hG hC hD hE hU F hm ha hb
  have s1 := desk_add (G := G) (T := T) hA hG hC hD hE hU F hm (c := F.cls a) (n := F.ng a) (z := z1) (d := F.vl a) (c' := F.cls b) (n' := F.ng b) (z' := z2) (d' := F.vl b) (Nz_vl F a) (Nz_vl F b) ((Bd_vl F a).mono (by decide)) ((Bd_vl F b).mono (by decide))
  unfold addW
  generalize addP F md (F.cls a) (F.ng a) (F.vl a) (F.cls b) (F.ng b) (F.vl b) = S at *
  unfold ptC at o1
  generalize F.cls a = ca at *
  generalize F.ng a = na at *
  generalize F.vl a = va at *
  generalize F.cls b = cb at *
  generalize F.ng b = nb at *
  generalize F.vl b = vb at *
  simp only [deskA, ptA, List.cons_append, List.nil_append] at *
  repeat' (first | (simp (maxSteps := 1000000) only [evB, if_true, if_false, ne_eq, Nat.reduceEqDiff, Nat.reduceAdd, reduceCtorEq, Int.reduceLE, Int.reduceLT, Int.reduceEq, Int.reduceNeg, Int.reduceToNat, Int.reducePow, Int.reduceMod, Int.reduceDiv, Int.reduceSub, Int.reduceAdd, Int.reduceMul, Nat.reduceMul, Nat.reduceSub, Nat.reducePow, exB, resC_ptr, res_cell, nilb, nilf, faddr_p, c_soft_Add, o1, i5_20, i5_21, r5_0, r5_5, s1]) | (simp (maxSteps := 1000000) (disch := first | with_reducible assumption | omega) only [dxB]) | (simp only [kI_d, kG_dt, kG_df]; split) | (simp only [kI_v, kG_vt, kG_vf]; split))
  all_goals try rfl

theorem soft_Sub (hA : HasA g T) (hG : Glob G g) (hC : HasC g T) (hD : HasD g T) (hE : HasE g T) (hU : HasG g T) (F : Fm) {md : Int} (hm : 1 ≤ md ∧ md ≤ 5) {a b : Nat} (ha : a < 2 * F.sg) (hb : b < 2 * F.sg) :
    run G T 166 [.int .u8 F.u, .int .u8 md, .int .u64 (a : Int), .int .u64 (b : Int)] = some (.tup [.int .u64 ((subW F md a b).1 : Int), .int .u8 ((subW F md a b).2 : Int), .int .i64 0]) := by
  rw [run_k G T hU.soft_Sub]
  obtain ⟨z1, z2, o1⟩ := soft_open2 (G := G) (T := T) hA hG hC hD hE hU F hm ha hb
  obtain ⟨z3, n1⟩ := dyad_Neg (G := G) (T := T) hA hC hU (z := z2) (d := F.vl b) (mayD_nzb (Nz_vl F b) ((Bd_vl F b).mono (by decide)))
  have s1 := desk_add (G := G) (T := T) hA hG hC hD hE hU F hm (c := F.cls a) (n := F.ng a) (z := z1) (d := F.vl a) (c' := F.cls b) (n' := !F.ng b) (z' := z3) (d' := negD (F.vl b)) (Nz_vl F a) (Nz_neg (Nz_vl F b)) ((Bd_vl F a).mono (by decide)) (((Bd_vl F b).neg).mono (by decide))
  unfold subW
  generalize addP F md (F.cls a) (F.ng a) (F.vl a) (F.cls b) (!F.ng b) (negD (F.vl b)) = S at *
  unfold ptC at o1
  generalize negD (F.vl b) = vb' at *
  generalize F.cls a = ca at *
  generalize F.ng a = na at *
  generalize F.vl a = va at *
  generalize F.cls b = cb at *
  generalize F.ng b = nb at *
  generalize F.vl b = vb at *
  simp only [deskA, ptA, DyA, A3, List.cons_append, List.nil_append] at *
  cases nb <;> (
    simp only [Bool.not_true, Bool.not_false] at s1
    repeat' (first | (simp (maxSteps := 1000000) only [evB, if_true, if_false, ne_eq, Nat.reduceEqDiff, Nat.reduceAdd, reduceCtorEq, Int.reduceLE, Int.reduceLT, Int.reduceEq, Int.reduceNeg, Int.reduceToNat, Int.reducePow, Int.reduceMod, Int.reduceDiv, Int.reduceSub, Int.reduceAdd, Int.reduceMul, Nat.reduceMul, Nat.reduceSub, Nat.reducePow, exB, resC_ptr, res_cell, nilb, nilf, faddr_p, c_soft_Sub, o1, i5_20, i5_21, r5_0, r5_5, n1, s1]) | (simp (maxSteps := 1000000) (disch := first | with_reducible assumption | omega) only [dxB]) | (simp only [kI_d, kG_dt, kG_df]; split) | (simp only [kI_v, kG_vt, kG_vf]; split))
    all_goals try rfl)

end Go.Cv

/-
  The program's quotients, roots, fused products of words.
-/
namespace Go.Cv
variable {G : Nat → Option (List AV)} {T : Tbl} {g : Nat}

end Go.Cv

/-
  The program's fused product and sum of words.
-/
namespace Go.Cv
variable {G : Nat → Option (List AV)} {T : Tbl} {g : Nat}

set_option maxHeartbeats 16000000 in
theorem soft_MulAdd (hA : HasA g T) (hG : Glob G g) (hC : HasC g T) (hD : HasD g T) (hE : HasE g T) (hU : HasG g T) (F : Fm) {md : Int} (hm : 1 ≤ md ∧ md ≤ 5) {a b c : Nat} (ha : a < 2 * F.sg) (hb : b < 2 * F.sg) (hc : c < 2 * F.sg) :
    run G T 175 [.int .u8 F.u, .int .u8 md, .int .u64 (a : Int), .int .u64 (b : Int), .int .u64 (c : Int)] = some (.tup [.int .u64 ((fmaW F md a b c).1 : Int), .int .u8 ((fmaW F md a b c).2 : Int), .int .i64 0]) := by
  rw [run_k G T hU.soft_MulAdd]
  obtain ⟨z1, z2, z3, o1⟩ := soft_open3 (G := G) (T := T) hA hG hC hD hE hU F hm ha hb hc
  have h5 := soft_has3 (G := G) (T := T) hU (k := 5) (c := F.cls a) (c' := F.cls b) (c'' := F.cls c) (n := F.ng a) (s := (F.vl a).n) (n' := F.ng b) (s' := (F.vl b).n) (n'' := F.ng c) (s'' := (F.vl c).n) (z := z1) (z' := z2) (z'' := z3) (l := dl (F.vl a).m) (l' := dl (F.vl b).m) (l'' := dl (F.vl c).m) (e := (F.vl a).e) (e' := (F.vl b).e) (e'' := (F.vl c).e)
  have hk := fun k => soft_has2 (G := G) (T := T) hU (k := k) (c := F.cls a) (c' := F.cls b) (n := F.ng a) (s := (F.vl a).n) (n' := F.ng b) (s' := (F.vl b).n) (z := z1) (z' := z2) (l := dl (F.vl a).m) (l' := dl (F.vl b).m) (e := (F.vl a).e) (e' := (F.vl b).e)
  have h4 := hk 4
  have h1 := hk 1
  have nn := fun x => desk_none (G := G) (T := T) hD hU F (md := md) (x := x)
  have b1 := Bd_vl F a
  have b2 := Bd_vl F b
  obtain ⟨z4, m1⟩ := dyad_Mul (G := G) (T := T) hA hG hC hU (z := z1) (y := z2) (b1.mono (by decide)) (b2.mono (by decide)) (mayD_nzb (Nz_vl F a) (b1.mono (by decide))) (mayD_nzb (Nz_vl F b) (b2.mono (by decide)))
  have ad := fun (k : Int) (z : Bool) (d : Dy) (hz : Nz d) (hb : Bd d 16384) => desk_add (G := G) (T := T) hA hG hC hD hE hU F hm (c := k) (n := F.ng a != F.ng b) (z := z) (d := d) (c' := F.cls c) (n' := F.ng c) (z' := z3) (d' := F.vl c) hz (Nz_vl F c) hb ((Bd_vl F c).mono (by decide))
  have ad4 := ad 4 true ⟨false, 0, 0⟩ ⟨fun _ => rfl, fun h => absurd rfl h⟩ ⟨by simp only [blen_zero]; omega, by simp, by simp⟩
  have ad1 := ad 1 true ⟨false, 0, 0⟩ ⟨fun _ => rfl, fun h => absurd rfl h⟩ ⟨by simp only [blen_zero]; omega, by simp, by simp⟩
  have ad3 := ad 3 z4 (mulD (F.vl a) (F.vl b)) (Nz_mul _ _) ((Bd_mul b1 b2).mono (by decide))
  clear ad b1 b2 hk
  unfold fmaW prC
  unfold ptC at o1
  generalize mulD (F.vl a) (F.vl b) = s at *
  have hne : (F.ng a != F.ng b) = !decide (F.ng a = F.ng b) := by cases F.ng a <;> cases F.ng b <;> rfl
  rw [hne] at ad4 ad1 ad3 ⊢
  generalize F.cls a = ca at *
  generalize F.ng a = na at *
  generalize F.vl a = va at *
  generalize F.cls b = cb at *
  generalize F.ng b = nb at *
  generalize F.vl b = vb at *
  generalize F.cls c = cc at *
  generalize F.ng c = nc at *
  generalize F.vl c = vc at *
  by_cases q5 : ca = 5 ∨ cb = 5 ∨ cc = 5
  · rw [decide_eq_true q5] at h5
    rw [if_pos q5]
    simp only [deskA, ptA, DyA, A3, dl_zero, List.cons_append, List.nil_append] at *
    repeat' (first | (simp (maxSteps := 1000000) only [evB, if_true, if_false, ne_eq, Nat.reduceEqDiff, Nat.reduceAdd, reduceCtorEq, Int.reduceLE, Int.reduceLT, Int.reduceEq, Int.reduceNeg, Int.reduceToNat, Int.reducePow, Int.reduceMod, Int.reduceDiv, Int.reduceSub, Int.reduceAdd, Int.reduceMul, Nat.reduceMul, Nat.reduceSub, Nat.reducePow, exB, resC_ptr, res_cell, nilb, nilf, faddr_p, c_soft_MulAdd, apart_ip, repA_3, st_bs5, o1, i5_30, i5_31, i5_32, r5_0, r5_5, r5_10, h5, nn]) | (simp (maxSteps := 1000000) (disch := first | with_reducible assumption | omega) only [dxB]) | (simp only [kI_d, kG_dt, kG_df]; split) | (simp only [kI_v, kG_vt, kG_vf]; split))
    all_goals try rfl
  · rw [decide_eq_false q5] at h5
    rw [if_neg q5]
    by_cases q4 : ca = 4 ∨ cb = 4
    · rw [decide_eq_true q4] at h4
      by_cases q1 : ca = 1 ∨ cb = 1
      · rw [decide_eq_true q1] at h1
        rw [if_pos (show (ca = 4 ∨ cb = 4) ∧ (ca = 1 ∨ cb = 1) from ⟨q4, q1⟩)]
        simp only [deskA, ptA, DyA, A3, dl_zero, List.cons_append, List.nil_append] at *
        repeat' (first | (simp (maxSteps := 1000000) only [evB, if_true, if_false, ne_eq, Nat.reduceEqDiff, Nat.reduceAdd, reduceCtorEq, Int.reduceLE, Int.reduceLT, Int.reduceEq, Int.reduceNeg, Int.reduceToNat, Int.reducePow, Int.reduceMod, Int.reduceDiv, Int.reduceSub, Int.reduceAdd, Int.reduceMul, Nat.reduceMul, Nat.reduceSub, Nat.reducePow, exB, resC_ptr, res_cell, nilb, nilf, faddr_p, c_soft_MulAdd, apart_ip, repA_3, st_bs5, o1, i5_30, i5_31, i5_32, r5_0, r5_5, r5_10, h5, h4, h1, nn]) | (simp (maxSteps := 1000000) (disch := first | with_reducible assumption | omega) only [dxB]) | (simp only [kI_d, kG_dt, kG_df]; split) | (simp only [kI_v, kG_vt, kG_vf]; split))
        all_goals try rfl
      · rw [decide_eq_false q1] at h1
        rw [if_neg (show ¬ ((ca = 4 ∨ cb = 4) ∧ (ca = 1 ∨ cb = 1)) from fun h => q1 h.2), if_pos q4, if_neg (by decide)]
        generalize addP F md 4 (!decide (na = nb)) ⟨false, 0, 0⟩ cc nc vc = S at *
        clear ad1 ad3
        simp only [deskA, ptA, DyA, A3, dl_zero, D_nil.symm, List.cons_append, List.nil_append] at *
        repeat' (first | (simp (maxSteps := 1000000) only [evB, if_true, if_false, ne_eq, Nat.reduceEqDiff, Nat.reduceAdd, reduceCtorEq, Int.reduceLE, Int.reduceLT, Int.reduceEq, Int.reduceNeg, Int.reduceToNat, Int.reducePow, Int.reduceMod, Int.reduceDiv, Int.reduceSub, Int.reduceAdd, Int.reduceMul, Nat.reduceMul, Nat.reduceSub, Nat.reducePow, exB, resC_ptr, res_cell, nilb, nilf, faddr_p, c_soft_MulAdd, apart_ip, repA_3, st_bs5, o1, i5_30, i5_31, i5_32, r5_0, r5_5, r5_10, h5, h4, h1, ad4]) | (simp (maxSteps := 1000000) (disch := first | with_reducible assumption | omega) only [dxB]) | (simp only [kI_d, kG_dt, kG_df]; split) | (simp only [kI_v, kG_vt, kG_vf]; split))
        all_goals try rfl
    · rw [decide_eq_false q4] at h4
      rw [if_neg (show ¬ ((ca = 4 ∨ cb = 4) ∧ (ca = 1 ∨ cb = 1)) from fun h => q4 h.1), if_neg q4]
      by_cases q1 : ca = 1 ∨ cb = 1
      · rw [decide_eq_true q1] at h1
        rw [if_pos q1, if_neg (by decide)]
        generalize addP F md 1 (!decide (na = nb)) ⟨false, 0, 0⟩ cc nc vc = S at *
        clear ad4 ad3
        simp only [deskA, ptA, DyA, A3, dl_zero, D_nil.symm, List.cons_append, List.nil_append] at *
        repeat' (first | (simp (maxSteps := 1000000) only [evB, if_true, if_false, ne_eq, Nat.reduceEqDiff, Nat.reduceAdd, reduceCtorEq, Int.reduceLE, Int.reduceLT, Int.reduceEq, Int.reduceNeg, Int.reduceToNat, Int.reducePow, Int.reduceMod, Int.reduceDiv, Int.reduceSub, Int.reduceAdd, Int.reduceMul, Nat.reduceMul, Nat.reduceSub, Nat.reducePow, exB, resC_ptr, res_cell, nilb, nilf, faddr_p, c_soft_MulAdd, apart_ip, repA_3, st_bs5, o1, i5_30, i5_31, i5_32, r5_0, r5_5, r5_10, h5, h4, h1, ad1]) | (simp (maxSteps := 1000000) (disch := first | with_reducible assumption | omega) only [dxB]) | (simp only [kI_d, kG_dt, kG_df]; split) | (simp only [kI_v, kG_vt, kG_vf]; split))
        all_goals try rfl
      · rw [decide_eq_false q1] at h1
        rw [if_neg q1, if_pos rfl]
        generalize addP F md 3 (!decide (na = nb)) s cc nc vc = S at *
        clear ad4 ad1
        simp only [deskA, ptA, DyA, A3, dl_zero, List.cons_append, List.nil_append] at *
        repeat' (first | (simp (maxSteps := 1000000) only [evB, if_true, if_false, ne_eq, Nat.reduceEqDiff, Nat.reduceAdd, reduceCtorEq, Int.reduceLE, Int.reduceLT, Int.reduceEq, Int.reduceNeg, Int.reduceToNat, Int.reducePow, Int.reduceMod, Int.reduceDiv, Int.reduceSub, Int.reduceAdd, Int.reduceMul, Nat.reduceMul, Nat.reduceSub, Nat.reducePow, exB, resC_ptr, res_cell, nilb, nilf, faddr_p, c_soft_MulAdd, apart_ip, repA_3, st_bs5, o1, i5_30, i5_31, i5_32, r5_0, r5_5, r5_10, h5, h4, h1, m1, ad3]) | (simp (maxSteps := 1000000) (disch := first | with_reducible assumption | omega) only [dxB]) | (simp only [kI_d, kG_dt, kG_df]; split) | (simp only [kI_v, kG_vt, kG_vf]; split))
        all_goals try rfl
end Go.Cv

/-
  The document's fused product and sum; what is refused ahead of all else.
-/
namespace Go.Cv
variable {G : Nat → Option (List AV)} {T : Tbl} {g : Nat}

theorem op5_loop (e : Env) (h : Heap) : evL G T c_ref05_Opens_l1 e h = kS G T (evL G T c_ref05_Opens_b1 (keepE [0, 2, 7] e) h) c_ref05_Opens_l1 := s_loopc G T rfl e h
theorem ref05_Opens_no (hD : HasD g T) (hU : HasG g T) {f md : Int} (h : ¬ (f = 1 ∨ f = 2)) {v : AV} : run G T 162 [.int .u8 f, .int .u8 md, v] = some (.int .i64 4) := by
  rw [run_k G T hU.ref05_Opens]
  have h1 := ref03_Is (G := G) (T := T) hD (f := f)
  rw [decide_eq_false h] at h1
  repeat' (first | (simp (maxSteps := 1000000) only [evB, if_true, if_false, ne_eq, Nat.reduceEqDiff, Nat.reduceAdd, reduceCtorEq, Int.reduceLE, Int.reduceLT, Int.reduceEq, Int.reduceNeg, Int.reduceToNat, Int.reducePow, Int.reduceMod, Int.reduceDiv, Int.reduceSub, Int.reduceAdd, Int.reduceMul, Nat.reduceMul, Nat.reduceSub, Nat.reducePow, exB, resC_ptr, res_cell, nilb, nilf, faddr_p, c_ref05_Opens, h1]) | (simp (maxSteps := 1000000) (disch := first | with_reducible assumption | omega) only [dxB]) | (simp only [kI_d, kG_dt, kG_df]; split) | (simp only [kI_v, kG_vt, kG_vf]; split))
theorem ref05_Opens_mode (hD : HasD g T) (hE : HasE g T) (hU : HasG g T) (F : Fm) {md : Int} (h : ¬ (1 ≤ md ∧ md ≤ 5)) {v : AV} : run G T 162 [.int .u8 F.u, .int .u8 md, v] = some (.int .i64 5) := by
  rw [run_k G T hU.ref05_Opens]
  have h1 := ref03_IsF (G := G) (T := T) hD F
  have h2 := ref04_Is (G := G) (T := T) hE (m := md)
  rw [decide_eq_false h] at h2
  repeat' (first | (simp (maxSteps := 1000000) only [evB, if_true, if_false, ne_eq, Nat.reduceEqDiff, Nat.reduceAdd, reduceCtorEq, Int.reduceLE, Int.reduceLT, Int.reduceEq, Int.reduceNeg, Int.reduceToNat, Int.reducePow, Int.reduceMod, Int.reduceDiv, Int.reduceSub, Int.reduceAdd, Int.reduceMul, Nat.reduceMul, Nat.reduceSub, Nat.reducePow, exB, resC_ptr, res_cell, nilb, nilf, faddr_p, c_ref05_Opens, h1, h2]) | (simp (maxSteps := 1000000) (disch := first | with_reducible assumption | omega) only [dxB]) | (simp only [kI_d, kG_dt, kG_df]; split) | (simp only [kI_v, kG_vt, kG_vf]; split))
theorem ref05_Opens0 (hD : HasD g T) (hE : HasE g T) (hU : HasG g T) (F : Fm) {md : Int} (hm : 1 ≤ md ∧ md ≤ 5) : run G T 162 [.int .u8 F.u, .int .u8 md, .nil] = some (.int .i64 0) := by
  rw [run_k G T hU.ref05_Opens]
  have h1 := ref03_IsF (G := G) (T := T) hD F
  have h2 := ref04_Is (G := G) (T := T) hE (m := md)
  rw [decide_eq_true hm] at h2
  repeat' (first | (simp (maxSteps := 1000000) only [evB, if_true, if_false, ne_eq, Nat.reduceEqDiff, Nat.reduceAdd, reduceCtorEq, Int.reduceLE, Int.reduceLT, Int.reduceEq, Int.reduceNeg, Int.reduceToNat, Int.reducePow, Int.reduceMod, Int.reduceDiv, Int.reduceSub, Int.reduceAdd, Int.reduceMul, Nat.reduceMul, Nat.reduceSub, Nat.reducePow, exB, resC_ptr, res_cell, nilb, nilf, faddr_p, c_ref05_Opens, h1, h2, op5_loop, c_ref05_Opens_b1]) | (simp (maxSteps := 1000000) (disch := first | with_reducible assumption | omega) only [dxB]) | (simp only [kI_d, kG_dt, kG_df]; split) | (simp only [kI_v, kG_vt, kG_vf]; split))
theorem ref05_Opens2 (hD : HasD g T) (hE : HasE g T) (hF : HasF g T) (hU : HasG g T) (F : Fm) {md : Int} (hm : 1 ≤ md ∧ md ≤ 5) {a b : Nat} (ha : a < 18446744073709551616) (hb : b < 18446744073709551616) :
    run G T 162 [.int .u8 F.u, .int .u8 md, .imm 2 [.int .u64 (a : Int), .int .u64 (b : Int)]] = some (.int .i64 (if a < 2 * F.sg ∧ b < 2 * F.sg then 0 else 6)) := by
  rw [run_k G T hU.ref05_Opens]
  have h1 := ref03_IsF (G := G) (T := T) hD F
  have h2 := ref04_Is (G := G) (T := T) hE (m := md)
  rw [decide_eq_true hm] at h2
  have h3 := ref03_Good (G := G) (T := T) hD hF F ha
  have h4 := ref03_Good (G := G) (T := T) hD hF F hb
  by_cases k1 : a < 2 * F.sg
  · rw [if_pos k1] at h3
    by_cases k2 : b < 2 * F.sg
    · rw [if_pos k2] at h4
      rw [if_pos ⟨k1, k2⟩]
      repeat' (first | (simp (maxSteps := 1000000) only [evB, if_true, if_false, ne_eq, Nat.reduceEqDiff, Nat.reduceAdd, reduceCtorEq, Int.reduceLE, Int.reduceLT, Int.reduceEq, Int.reduceNeg, Int.reduceToNat, Int.reducePow, Int.reduceMod, Int.reduceDiv, Int.reduceSub, Int.reduceAdd, Int.reduceMul, Nat.reduceMul, Nat.reduceSub, Nat.reducePow, exB, resC_ptr, res_cell, nilb, nilf, faddr_p, c_ref05_Opens, h1, h2, op5_loop, c_ref05_Opens_b1, iw20, iw21, rp_0, rp_1, wr_1, wr1, wr_2, wr2, h3, h4]) | (simp (maxSteps := 1000000) (disch := first | with_reducible assumption | omega) only [dxB]) | (simp only [kI_d, kG_dt, kG_df]; split) | (simp only [kI_v, kG_vt, kG_vf]; split))
    · rw [if_neg k2] at h4
      rw [if_neg (fun h => k2 h.2)]
      repeat' (first | (simp (maxSteps := 1000000) only [evB, if_true, if_false, ne_eq, Nat.reduceEqDiff, Nat.reduceAdd, reduceCtorEq, Int.reduceLE, Int.reduceLT, Int.reduceEq, Int.reduceNeg, Int.reduceToNat, Int.reducePow, Int.reduceMod, Int.reduceDiv, Int.reduceSub, Int.reduceAdd, Int.reduceMul, Nat.reduceMul, Nat.reduceSub, Nat.reducePow, exB, resC_ptr, res_cell, nilb, nilf, faddr_p, c_ref05_Opens, h1, h2, op5_loop, c_ref05_Opens_b1, iw20, iw21, rp_0, rp_1, wr_1, wr1, wr_2, wr2, h3, h4]) | (simp (maxSteps := 1000000) (disch := first | with_reducible assumption | omega) only [dxB]) | (simp only [kI_d, kG_dt, kG_df]; split) | (simp only [kI_v, kG_vt, kG_vf]; split))
  · rw [if_neg k1] at h3
    rw [if_neg (fun h => k1 h.1)]
    repeat' (first | (simp (maxSteps := 1000000) only [evB, if_true, if_false, ne_eq, Nat.reduceEqDiff, Nat.reduceAdd, reduceCtorEq, Int.reduceLE, Int.reduceLT, Int.reduceEq, Int.reduceNeg, Int.reduceToNat, Int.reducePow, Int.reduceMod, Int.reduceDiv, Int.reduceSub, Int.reduceAdd, Int.reduceMul, Nat.reduceMul, Nat.reduceSub, Nat.reducePow, exB, resC_ptr, res_cell, nilb, nilf, faddr_p, c_ref05_Opens, h1, h2, op5_loop, c_ref05_Opens_b1, iw20, iw21, rp_0, rp_1, wr_1, wr1, wr_2, wr2, h3]) | (simp (maxSteps := 1000000) (disch := first | with_reducible assumption | omega) only [dxB]) | (simp only [kI_d, kG_dt, kG_df]; split) | (simp only [kI_v, kG_vt, kG_vf]; split))
section
variable {f md a b c e : Int}
end
end Go.Cv

/-
  A number that fits is a word's value; a difference of near numbers fits.
-/
namespace Go.Cv

theorem val_enc (F : Fm) (n : Bool) {k : Nat} {u : Int} (hk0 : k ≠ 0) (hk1 : k < 2 ^ (F.fr + 1)) (hu : F.low ≤ u) (hku : u = F.low ∨ 2 ^ F.fr ≤ k) (hs : F.enc k u < F.i0) : F.val (F.enc k u + F.sgn n) = mkD n k u := by
  have hi := fm_i0 F
  obtain ⟨e1, e2⟩ := sgn_mod n (by omega : F.enc k u < F.sg)
  have hp := Nat.two_pow_pos F.fr
  rw [Nat.pow_succ] at hk1
  unfold Fm.val Fm.ex Fm.fc
  rw [e1, e2]
  rcases Nat.lt_or_ge k (2 ^ F.fr) with h | h
  · have hul : u = F.low := by
      rcases hku with q | q
      · exact q
      · omega
    have hE : F.enc k u = k := by unfold Fm.enc; rw [hul, Int.sub_self]; simp
    rw [hE, Nat.div_eq_of_lt h, if_pos rfl, Nat.mod_eq_of_lt h, hul]
  · have hE : F.enc k u = (k - 2 ^ F.fr) + 2 ^ F.fr * ((u - F.low).toNat + 1) := by
      unfold Fm.enc; rw [Nat.mul_add, Nat.mul_one, Nat.mul_comm]; omega
    have hlt : k - 2 ^ F.fr < 2 ^ F.fr := by omega
    have hd : F.enc k u / 2 ^ F.fr = (u - F.low).toNat + 1 := by
      rw [hE, Nat.add_mul_div_left _ _ hp, Nat.div_eq_of_lt hlt, Nat.zero_add]
    have hm : F.enc k u % 2 ^ F.fr = k - 2 ^ F.fr := by
      rw [hE, Nat.add_mul_mod_self_left, Nat.mod_eq_of_lt hlt]
    rw [hd, hm, if_neg (by omega), show 2 ^ F.fr + (k - 2 ^ F.fr) = k by omega]
    congr 1
    omega

theorem fit_word (F : Fm) {d : Dy} (h : F.fits d) (ho : d.m % 2 = 1) : ∃ s, s ≠ 0 ∧ s < F.i0 ∧ F.val (s + F.sgn d.n) = d := by
  obtain ⟨h0, h1, h2, h3⟩ := h
  have hF := fm_facts F
  obtain ⟨u, hu⟩ : ∃ u : Int, u = max (d.e + blen d.m - F.fr - 1) F.low := ⟨_, rfl⟩
  have hbp := blen_pos h0
  have hbk := blen_mul h0 (d.e - u).toNat
  have hk0 : d.m * 2 ^ (d.e - u).toNat ≠ 0 := by intro hc; rw [hc, blen_zero] at hbk; omega
  have hk1 : d.m * 2 ^ (d.e - u).toNat < 2 ^ (F.fr + 1) := blen_le.1 (by omega)
  have hku : u = F.low ∨ 2 ^ F.fr ≤ d.m * 2 ^ (d.e - u).toNat := by
    by_cases q : u = F.low
    · exact Or.inl q
    · right; exact lt_blen.1 (by omega)
  have hbig := enc_big F (n := d.m * 2 ^ (d.e - u).toNat) (u := u) (by omega) (by omega) hku
  have hs : F.enc (d.m * 2 ^ (d.e - u).toNat) u < F.i0 := by
    rcases Nat.lt_or_ge (F.enc (d.m * 2 ^ (d.e - u).toNat) u) F.i0 with q | q
    · exact q
    · have := hbig.2 q; omega
  refine ⟨F.enc (d.m * 2 ^ (d.e - u).toNat) u, ?_, hs, ?_⟩
  · unfold Fm.enc; omega
  · rw [val_enc F d.n hk0 hk1 (by omega) hku hs]
    have := mkD_oddp (n := d.n) (e := d.e) ho (d.e - u).toNat
    rw [show d.e - ((d.e - u).toNat : Int) = u by omega] at this
    exact this

theorem fits_val (F : Fm) {w : Nat} (hf : F.fin w) (h0 : (F.val w).m ≠ 0) : F.fits (F.val w) := by
  have hF := fm_facts F
  have hwd : F.low + F.fr + F.most - 1 = F.wide := by cases F <;> decide
  have hy : F.fc w < 2 ^ F.fr := Nat.mod_lt _ (Nat.two_pow_pos _)
  unfold Fm.fin at hf
  unfold Fm.val at h0 ⊢
  by_cases hx : F.ex w = 0
  · rw [if_pos hx] at h0 ⊢
    have hk : F.fc w ≠ 0 := by intro hc; rw [hc] at h0; exact h0 rfl
    have hb := blen_le.2 hy
    exact mkD_fits hk (by rw [Nat.pow_succ]; omega) (Int.le_refl _) (by omega)
  · rw [if_neg hx] at h0 ⊢
    have hk : 2 ^ F.fr + F.fc w ≠ 0 := by have := Nat.two_pow_pos F.fr; omega
    have hb : blen (2 ^ F.fr + F.fc w) ≤ F.fr + 1 := blen_le.2 (by rw [Nat.pow_succ]; omega)
    exact mkD_fits hk (by rw [Nat.pow_succ]; omega) (by omega) (by omega)

/-- STERBENZ. -/
theorem sterbenz (F : Fm) {x y : Dy} (fx : x.m ≠ 0 → F.fits x) (fy : y.m ≠ 0 → F.fits y) (hn : x.n = y.n) (h1 : cmpD (absD x) (shD (absD y) 1) ≤ 0) (h2 : cmpD (absD y) (shD (absD x) 1) ≤ 0) (h0 : (subD x y).m ≠ 0) : F.fits (subD x y) := by
  obtain ⟨L, hL⟩ : ∃ L : Int, L = min x.e y.e := ⟨_, rfl⟩
  have lx : LoE x L := Or.inr (by omega)
  have ly : LoE y L := Or.inr (by omega)
  have sh : ∀ (d : Dy) (h : LoE d L), iv (shD (absD d) 1) L = 2 * ((d.m * 2 ^ (d.e - L).toNat : Nat) : Int) ∧ LoE (shD (absD d) 1) L := fun d h => by
    unfold shD absD
    by_cases q : d.m = 0
    · simp only [q, if_true]; exact ⟨by simp [iv], Or.inl rfl⟩
    · simp only [q, if_false]
      have hl := h.resolve_left q
      refine ⟨?_, Or.inr (by simp only; omega)⟩
      unfold iv
      simp only [Bool.false_eq_true, if_false, Int.one_mul]
      rw [show (d.e + 1 - L).toNat = (d.e - L).toNat + 1 by omega, Nat.pow_succ, ← Nat.mul_assoc]; omega
  have la : ∀ (d : Dy) (h : LoE d L), LoE (absD d) L := fun d h => h
  rw [cmp_iv (la x lx) (sh y ly).2, iv_abs, (sh y ly).1] at h1
  rw [cmp_iv (la y ly) (sh x lx).2, iv_abs, (sh x lx).1] at h2
  have hs := iv_add lx (LoE_neg ly)
  rw [iv_neg] at hs
  rw [show addD x (negD y) = subD x y from rfl] at hs
  obtain ⟨hs1, hs2⟩ := hs
  have hle := hs2.resolve_left h0
  unfold iv at hs1
  rw [hn] at hs1
  generalize hD : (subD x y).m * 2 ^ ((subD x y).e - L).toNat = D at *
  generalize hX : x.m * 2 ^ (x.e - L).toNat = X at *
  generalize hY : y.m * 2 ^ (y.e - L).toNat = Y at *
  have g1 : (X : Int) ≤ 2 * Y := by
    unfold sgI at h1; split at h1
    · omega
    · split at h1 <;> omega
  have g2 : (Y : Int) ≤ 2 * X := by
    unfold sgI at h2; split at h2
    · omega
    · split at h2 <;> omega
  have dX : D ≤ X ∧ D ≤ Y := by
    generalize (subD x y).n = p at *
    generalize y.n = q at *
    cases p <;> cases q <;> simp only [Bool.false_eq_true, if_false, if_true] at hs1 <;> omega
  have Dp : 0 < D := by rw [← hD]; exact Nat.mul_pos (Nat.pos_of_ne_zero h0) (Nat.two_pow_pos _)
  have x0 : x.m ≠ 0 := by intro hc; rw [hc, Nat.zero_mul] at hX; omega
  have y0 : y.m ≠ 0 := by intro hc; rw [hc, Nat.zero_mul] at hY; omega
  obtain ⟨_, x1, x2, x3⟩ := fx x0
  obtain ⟨_, y1, y2, y3⟩ := fy y0
  have bD := blen_mul h0 ((subD x y).e - L).toNat
  have bX := blen_mul x0 (x.e - L).toNat
  have bY := blen_mul y0 (y.e - L).toNat
  rw [hD] at bD
  rw [hX] at bX
  rw [hY] at bY
  have m1 := blen_mono dX.1
  have m2 := blen_mono dX.2
  exact ⟨h0, by omega, by omega, by omega⟩
end Go.Cv

/-
  The statement on differences of near numbers.
-/
namespace Go.Cv
variable {G : Nat → Option (List AV)} {T : Tbl} {g : Nat}

theorem fn_loop (e : Env) (h : Heap) : evL G T c_law05_finite_l1 e h = kS G T (evL G T c_law05_finite_b1 (keepE [0, 1, 5] e) h) c_law05_finite_l1 := s_loopc G T rfl e h
theorem law05_finite2 (hD : HasD g T) (hE : HasE g T) (hF : HasF g T) (hU : HasG g T) (hV : HasH g T) {f : Int} {a b : Nat} (ha : a < 18446744073709551616) (hb : b < 18446744073709551616) :
    (run G T 226 [.int .u8 f, .imm 2 [.int .u64 (a : Int), .int .u64 (b : Int)]] = some (.bool false)) ∨
    (∃ F, f = Fm.u F ∧ (a < 2 * F.sg ∧ b < 2 * F.sg) ∧ (F.fin a ∧ F.fin b) ∧ run G T 226 [.int .u8 f, .imm 2 [.int .u64 (a : Int), .int .u64 (b : Int)]] = some (.bool true)) := by
  rw [run_k G T hV.law05_finite]
  by_cases hf : f = 1 ∨ f = 2
  · obtain ⟨F, rfl⟩ := fm_of hf
    have h1 := ref05_Opens2 (G := G) (T := T) hD hE hF hU F (md := 1) (by omega) ha hb
    by_cases k : a < 2 * F.sg ∧ b < 2 * F.sg
    · rw [if_pos k] at h1
      have f1 := ref03_Finite (G := G) (T := T) hD hF F ha
      have f2 := ref03_Finite (G := G) (T := T) hD hF F hb
      by_cases p : F.fin a
      · rw [decide_eq_true p] at f1
        by_cases q : F.fin b
        · rw [decide_eq_true q] at f2
          right
          refine ⟨F, rfl, k, ⟨p, q⟩, ?_⟩
          repeat' (first | (simp (maxSteps := 1000000) only [evB, if_true, if_false, ne_eq, Nat.reduceEqDiff, Nat.reduceAdd, reduceCtorEq, Int.reduceLE, Int.reduceLT, Int.reduceEq, Int.reduceNeg, Int.reduceToNat, Int.reducePow, Int.reduceMod, Int.reduceDiv, Int.reduceSub, Int.reduceAdd, Int.reduceMul, Nat.reduceMul, Nat.reduceSub, Nat.reducePow, exB, resC_ptr, res_cell, nilb, nilf, faddr_p, c_law05_finite, h1, fn_loop, c_law05_finite_b1, iw20, iw21, rp_0, rp_1, wr_1, wr1, wr_2, wr2, f1, f2]) | (simp (maxSteps := 1000000) (disch := first | with_reducible assumption | omega) only [dxB]) | (simp only [kI_d, kG_dt, kG_df]; split) | (simp only [kI_v, kG_vt, kG_vf]; split))
        · rw [decide_eq_false q] at f2
          left
          repeat' (first | (simp (maxSteps := 1000000) only [evB, if_true, if_false, ne_eq, Nat.reduceEqDiff, Nat.reduceAdd, reduceCtorEq, Int.reduceLE, Int.reduceLT, Int.reduceEq, Int.reduceNeg, Int.reduceToNat, Int.reducePow, Int.reduceMod, Int.reduceDiv, Int.reduceSub, Int.reduceAdd, Int.reduceMul, Nat.reduceMul, Nat.reduceSub, Nat.reducePow, exB, resC_ptr, res_cell, nilb, nilf, faddr_p, c_law05_finite, h1, fn_loop, c_law05_finite_b1, iw20, iw21, rp_0, rp_1, wr_1, wr1, wr_2, wr2, f1, f2]) | (simp (maxSteps := 1000000) (disch := first | with_reducible assumption | omega) only [dxB]) | (simp only [kI_d, kG_dt, kG_df]; split) | (simp only [kI_v, kG_vt, kG_vf]; split))
      · rw [decide_eq_false p] at f1
        left
        repeat' (first | (simp (maxSteps := 1000000) only [evB, if_true, if_false, ne_eq, Nat.reduceEqDiff, Nat.reduceAdd, reduceCtorEq, Int.reduceLE, Int.reduceLT, Int.reduceEq, Int.reduceNeg, Int.reduceToNat, Int.reducePow, Int.reduceMod, Int.reduceDiv, Int.reduceSub, Int.reduceAdd, Int.reduceMul, Nat.reduceMul, Nat.reduceSub, Nat.reducePow, exB, resC_ptr, res_cell, nilb, nilf, faddr_p, c_law05_finite, h1, fn_loop, c_law05_finite_b1, iw20, iw21, rp_0, rp_1, wr_1, wr1, wr_2, wr2, f1]) | (simp (maxSteps := 1000000) (disch := first | with_reducible assumption | omega) only [dxB]) | (simp only [kI_d, kG_dt, kG_df]; split) | (simp only [kI_v, kG_vt, kG_vf]; split))
    · rw [if_neg k] at h1
      left
      repeat' (first | (simp (maxSteps := 1000000) only [evB, if_true, if_false, ne_eq, Nat.reduceEqDiff, Nat.reduceAdd, reduceCtorEq, Int.reduceLE, Int.reduceLT, Int.reduceEq, Int.reduceNeg, Int.reduceToNat, Int.reducePow, Int.reduceMod, Int.reduceDiv, Int.reduceSub, Int.reduceAdd, Int.reduceMul, Nat.reduceMul, Nat.reduceSub, Nat.reducePow, exB, resC_ptr, res_cell, nilb, nilf, faddr_p, c_law05_finite, h1]) | (simp (maxSteps := 1000000) (disch := first | with_reducible assumption | omega) only [dxB]) | (simp only [kI_d, kG_dt, kG_df]; split) | (simp only [kI_v, kG_vt, kG_vf]; split))
  · have h1 := ref05_Opens_no (G := G) (T := T) hD hU hf (md := 1) (v := .imm 2 [.int .u64 (a : Int), .int .u64 (b : Int)])
    left
    repeat' (first | (simp (maxSteps := 1000000) only [evB, if_true, if_false, ne_eq, Nat.reduceEqDiff, Nat.reduceAdd, reduceCtorEq, Int.reduceLE, Int.reduceLT, Int.reduceEq, Int.reduceNeg, Int.reduceToNat, Int.reducePow, Int.reduceMod, Int.reduceDiv, Int.reduceSub, Int.reduceAdd, Int.reduceMul, Nat.reduceMul, Nat.reduceSub, Nat.reducePow, exB, resC_ptr, res_cell, nilb, nilf, faddr_p, c_law05_finite, h1]) | (simp (maxSteps := 1000000) (disch := first | with_reducible assumption | omega) only [dxB]) | (simp only [kI_d, kG_dt, kG_df]; split) | (simp only [kI_v, kG_vt, kG_vf]; split))

theorem subW_fin (F : Fm) (md : Int) {a b : Nat} (fa : F.fin a) (fb : F.fin b) :
    (F.cls a = 1 ∧ F.cls b = 1 ∧ subW F md a b = (F.sgn (F.ng a), 0)) ∨ subW F md a b = sumW F md (subD (F.vl a) (F.vl b)) := by
  have ra := fin_iff.1 fa
  have rb := fin_iff.1 fb
  unfold subW addP
  rw [if_neg (show ¬ (F.cls a = 5 ∨ F.cls b = 5) by omega), if_neg (show ¬ (F.cls a = 4 ∧ F.cls b = 4 ∧ F.ng a ≠ !F.ng b) from fun h => by have := h.1; omega), if_neg (show ¬ F.cls a = 4 by omega), if_neg (show ¬ F.cls b = 4 by omega)]
  by_cases h : F.cls a = 1 ∧ F.cls b = 1 ∧ F.ng a = !F.ng b
  · left; rw [if_pos h]; exact ⟨h.1, h.2.1, rfl⟩
  · right; rw [if_neg h]; rfl

/-- The word of a number that fits. -/
theorem sum_fit (F : Fm) {md : Int} {d : Dy} (hz : Nz d) (hf : d.m ≠ 0 → F.fits d) : ∃ w : Nat, sumW F md d = (w, 0) ∧ w < 2 * F.sg ∧ F.fin w ∧ F.val w = d := by
  have hi := fm_i0 F
  unfold sumW
  by_cases h0 : d.m = 0
  · rw [if_pos h0]
    refine ⟨F.sgn (decide (md = 5)), rfl, ?_, ?_, ?_⟩
    · unfold Fm.sgn; split <;> omega
    · have := fin_size (F := F) (s := 0) (decide (md = 5)) hi.2.1
      rwa [Nat.zero_add] at this
    · have := val_zero F (decide (md = 5))
      rw [Nat.zero_add] at this
      rw [this, hz.1 h0]
  · rw [if_neg h0]
    obtain ⟨s, s0, s1, s2⟩ := fit_word F (hf h0) (hz.2 h0)
    have hr := (round_val F md d.n s1 s0).1
    rw [s2] at hr
    refine ⟨s + F.sgn d.n, hr, ?_, fin_size d.n s1, s2⟩
    unfold Fm.sgn; split <;> omega
theorem near (F : Fm) {md : Int} {a b : Nat} (ha : a < 2 * F.sg) (hb : b < 2 * F.sg) (fa : F.fin a) (fb : F.fin b) (hn : (F.vl a).n = (F.vl b).n) (h1 : cmpD (absD (F.vl a)) (shD (absD (F.vl b)) 1) ≤ 0) (h2 : cmpD (absD (F.vl b)) (shD (absD (F.vl a)) 1) ≤ 0) :
    ∃ w : Nat, subW F md a b = (w, 0) ∧ w < 2 * F.sg ∧ F.fin w ∧ F.val w = subD (F.vl a) (F.vl b) := by
  have hi := fm_i0 F
  rcases subW_fin F md fa fb with ⟨k1, k2, h⟩ | h
  · rw [h]
    refine ⟨F.sgn (F.ng a), rfl, ?_, ?_, ?_⟩
    · unfold Fm.sgn; split <;> omega
    · have := fin_size (F := F) (s := 0) (F.ng a) hi.2.1
      rwa [Nat.zero_add] at this
    · have := val_zero F (F.ng a)
      rw [Nat.zero_add] at this
      rw [this, vl_val fa, vl_val fb, (cls_zero_w ha k1).2, (cls_zero_w hb k2).2]; rfl
  · rw [h]
    refine sum_fit F (Nz_add (Nz_vl F a) (Nz_neg (Nz_vl F b))) (sterbenz F ?_ ?_ hn h1 h2)
    · intro q; rw [vl_val fa] at q ⊢; exact fits_val F fa q
    · intro q; rw [vl_val fb] at q ⊢; exact fits_val F fb q

set_option maxHeartbeats 4000000 in
theorem law05_SoftNear (hA : HasA g T) (hB : HasB g T) (hC : HasC g T) (hG : Glob G g) (hD : HasD g T) (hE : HasE g T) (hF : HasF g T) (hU : HasG g T) (hV : HasH g T) (hK : run G T 163 [] = some (.bool true))
    {f m : Int} {a b : Nat} (ha : a < 18446744073709551616) (hb : b < 18446744073709551616) :
    run G T 214 [.int .u8 f, .int .u8 m, .int .u64 (a : Int), .int .u64 (b : Int)] = some (.bool true) := by
  rw [run_k G T hV.law05_SoftNear]
  rcases law05_finite2 (G := G) (T := T) (f := f) hD hE hF hU hV ha hb with h1 | ⟨F, rfl, ⟨k1, k2⟩, ⟨fa, fb⟩, h1⟩
  · repeat' (first | (simp (maxSteps := 1000000) only [evB, if_true, if_false, ne_eq, Nat.reduceEqDiff, Nat.reduceAdd, reduceCtorEq, Int.reduceLE, Int.reduceLT, Int.reduceEq, Int.reduceNeg, Int.reduceToNat, Int.reducePow, Int.reduceMod, Int.reduceDiv, Int.reduceSub, Int.reduceAdd, Int.reduceMul, Nat.reduceMul, Nat.reduceSub, Nat.reducePow, exB, resC_ptr, res_cell, nilb, nilf, faddr_p, c_law05_SoftNear, h1, hK]) | (simp (maxSteps := 1000000) (disch := first | with_reducible assumption | omega) only [dxB]) | (simp only [kI_d, kG_dt, kG_df]; split) | (simp only [kI_v, kG_vt, kG_vf]; split))
  · by_cases hm : 1 ≤ m ∧ m ≤ 5
    · have o1 := ref05_Opens0 (G := G) (T := T) hD hE hU F hm
      obtain ⟨z1, v1⟩ := ref03_Value (G := G) (T := T) hA hB hC hD hF F ha fa
      obtain ⟨z2, v2⟩ := ref03_Value (G := G) (T := T) hA hB hC hD hF F hb fb
      rw [← vl_val fa] at v1
      rw [← vl_val fb] at v2
      have a1 := ref02_Abs (G := G) (T := T) hC (z := z1) (d := F.vl a)
      have a2 := ref02_Abs (G := G) (T := T) hC (z := z2) (d := F.vl b)
      obtain ⟨p1, p2, p3⟩ := Bd_vl F a
      obtain ⟨q1, q2, q3⟩ := Bd_vl F b
      have s1 := ref02_Shift (G := G) (T := T) hC (z := z1) (d := absD (F.vl a)) (k := 1) (by omega) (by unfold absD; simp only; omega)
      have s2 := ref02_Shift (G := G) (T := T) hC (z := z2) (d := absD (F.vl b)) (k := 1) (by omega) (by unfold absD; simp only; omega)
      have bA : ∀ w, Bd (absD (F.vl w)) 4096 := fun w => ⟨(Bd_vl F w).bl, (Bd_vl F w).lo, (Bd_vl F w).hi⟩
      have bS : ∀ w, Bd (shD (absD (F.vl w)) 1) 4097 := fun w => by
        obtain ⟨r1, r2, r3⟩ := Bd_vl F w
        unfold shD absD
        split
        · exact ⟨by simp only; omega, by simp only; omega, by simp only; omega⟩
        · exact ⟨by simp only; omega, by simp only; omega, by simp only; omega⟩
      have c1 := ref02_Cmp (G := G) (T := T) hB hC (z := z1) (y := z2) (a := absD (F.vl a)) (b := shD (absD (F.vl b)) 1) ((bA a).mono (by decide)) ((bS b).mono (by decide))
      have c2 := ref02_Cmp (G := G) (T := T) hB hC (z := z2) (y := z1) (a := absD (F.vl b)) (b := shD (absD (F.vl a)) 1) ((bA b).mono (by decide)) ((bS a).mono (by decide))
      have r1 := soft_Sub (G := G) (T := T) hA hG hC hD hE hU F hm k1 k2
      have hnear := near F (md := m) k1 k2 fa fb
      obtain ⟨z3, d1⟩ := ref02_Sub (G := G) (T := T) hB hC (z := z1) (y := z2) (a := F.vl a) (b := F.vl b) ((Bd_vl F a).mono (by decide)) ((Bd_vl F b).mono (by decide))
      have hV := fun (w : Nat) (hw : w < 2 * F.sg) (hf : F.fin w) => ref03_Value (G := G) (T := T) hA hB hC hD hF F (sg_64 hw) hf
      have hFi := fun (w : Nat) (hw : w < 2 * F.sg) => ref03_Finite (G := G) (T := T) hD hF F (sg_64 hw)
      have hbs := (Bd_sub (Bd_vl F a) (Bd_vl F b)).bl
      have hls := dl_len_blen (subD (F.vl a) (F.vl b)).m
      have hsame := fun z => same_dy (G := G) (T := T) hB hC (z := z) (y := z3) (a := subD (F.vl a) (F.vl b)) (b := subD (F.vl a) (F.vl b)) (by omega)
      rw [decide_eq_true (show sameD (subD (F.vl a) (F.vl b)) (subD (F.vl a) (F.vl b)) from ⟨rfl, rfl, rfl⟩)] at hsame
      clear p1 p2 p3 q1 q2 q3 bA bS hbs hls
      generalize subW F m a b = S at *
      generalize subD (F.vl a) (F.vl b) = d at *
      generalize cmpD (absD (F.vl a)) (shD (absD (F.vl b)) 1) = t1 at *
      generalize cmpD (absD (F.vl b)) (shD (absD (F.vl a)) 1) = t2 at *
      generalize shD (absD (F.vl a)) 1 = sa at *
      generalize shD (absD (F.vl b)) 1 = sb at *
      generalize absD (F.vl a) = xa at *
      generalize absD (F.vl b) = xb at *
      generalize F.vl a = va at *
      generalize F.vl b = vb at *
      simp only [DyA, A3] at *
      generalize va.n = pa at *
      generalize vb.n = pb at *
      by_cases hn : pa = pb
      · subst hn
        have hnear := hnear rfl
        by_cases g1 : 0 < t1
        · clear hnear
          repeat' (first | (simp (maxSteps := 1000000) only [evB, if_true, if_false, ne_eq, Nat.reduceEqDiff, Nat.reduceAdd, reduceCtorEq, Int.reduceLE, Int.reduceLT, Int.reduceEq, Int.reduceNeg, Int.reduceToNat, Int.reducePow, Int.reduceMod, Int.reduceDiv, Int.reduceSub, Int.reduceAdd, Int.reduceMul, Nat.reduceMul, Nat.reduceSub, Nat.reducePow, exB, resC_ptr, res_cell, nilb, nilf, faddr_p, c_law05_SoftNear, h1, o1, v1, v2, a1, a2, s1, s2, c1, c2, g1, hK]) | (simp (maxSteps := 1000000) (disch := first | with_reducible assumption | omega) only [dxB]) | (simp only [kI_d, kG_dt, kG_df]; split) | (simp only [kI_v, kG_vt, kG_vf]; split))
        · by_cases g2 : 0 < t2
          · clear hnear
            repeat' (first | (simp (maxSteps := 1000000) only [evB, if_true, if_false, ne_eq, Nat.reduceEqDiff, Nat.reduceAdd, reduceCtorEq, Int.reduceLE, Int.reduceLT, Int.reduceEq, Int.reduceNeg, Int.reduceToNat, Int.reducePow, Int.reduceMod, Int.reduceDiv, Int.reduceSub, Int.reduceAdd, Int.reduceMul, Nat.reduceMul, Nat.reduceSub, Nat.reducePow, exB, resC_ptr, res_cell, nilb, nilf, faddr_p, c_law05_SoftNear, h1, o1, v1, v2, a1, a2, s1, s2, c1, c2, g1, g2, hK]) | (simp (maxSteps := 1000000) (disch := first | with_reducible assumption | omega) only [dxB]) | (simp only [kI_d, kG_dt, kG_df]; split) | (simp only [kI_v, kG_vt, kG_vf]; split))
          · obtain ⟨w, rfl, w1, w2, w3⟩ := hnear (by omega) (by omega)
            obtain ⟨z4, v4⟩ := hV w w1 w2
            have f4 := hFi w w1
            rw [decide_eq_true w2] at f4
            rw [w3] at v4
            have h9 := hsame z4
            clear hV hFi hsame w3
            simp only [cast0] at r1
            repeat' (first | (simp (maxSteps := 1000000) only [evB, if_true, if_false, ne_eq, Nat.reduceEqDiff, Nat.reduceAdd, reduceCtorEq, Int.reduceLE, Int.reduceLT, Int.reduceEq, Int.reduceNeg, Int.reduceToNat, Int.reducePow, Int.reduceMod, Int.reduceDiv, Int.reduceSub, Int.reduceAdd, Int.reduceMul, Nat.reduceMul, Nat.reduceSub, Nat.reducePow, exB, resC_ptr, res_cell, nilb, nilf, faddr_p, c_law05_SoftNear, h1, o1, v1, v2, a1, a2, s1, s2, c1, c2, g1, g2, r1, f4, v4, d1, h9, hK]) | (simp (maxSteps := 1000000) (disch := first | with_reducible assumption | omega) only [dxB]) | (simp only [kI_d, kG_dt, kG_df]; split) | (simp only [kI_v, kG_vt, kG_vf]; split))
      · clear hnear
        repeat' (first | (simp (maxSteps := 1000000) only [evB, if_true, if_false, ne_eq, Nat.reduceEqDiff, Nat.reduceAdd, reduceCtorEq, Int.reduceLE, Int.reduceLT, Int.reduceEq, Int.reduceNeg, Int.reduceToNat, Int.reducePow, Int.reduceMod, Int.reduceDiv, Int.reduceSub, Int.reduceAdd, Int.reduceMul, Nat.reduceMul, Nat.reduceSub, Nat.reducePow, exB, resC_ptr, res_cell, nilb, nilf, faddr_p, c_law05_SoftNear, h1, o1, v1, v2, a1, a2, hn, hK]) | (simp (maxSteps := 1000000) (disch := first | with_reducible assumption | omega) only [dxB]) | (simp only [kI_d, kG_dt, kG_df]; split) | (simp only [kI_v, kG_vt, kG_vf]; split))
    · have o1 := ref05_Opens_mode (G := G) (T := T) hD hE hU F hm (v := .nil)
      repeat' (first | (simp (maxSteps := 1000000) only [evB, if_true, if_false, ne_eq, Nat.reduceEqDiff, Nat.reduceAdd, reduceCtorEq, Int.reduceLE, Int.reduceLT, Int.reduceEq, Int.reduceNeg, Int.reduceToNat, Int.reducePow, Int.reduceMod, Int.reduceDiv, Int.reduceSub, Int.reduceAdd, Int.reduceMul, Nat.reduceMul, Nat.reduceSub, Nat.reducePow, exB, resC_ptr, res_cell, nilb, nilf, faddr_p, c_law05_SoftNear, h1, o1, hK]) | (simp (maxSteps := 1000000) (disch := first | with_reducible assumption | omega) only [dxB]) | (simp only [kI_d, kG_dt, kG_df]; split) | (simp only [kI_v, kG_vt, kG_vf]; split))
end Go.Cv
