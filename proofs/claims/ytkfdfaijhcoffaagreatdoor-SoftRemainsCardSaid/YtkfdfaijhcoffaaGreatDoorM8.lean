/-
  A part of the proof of the statements of this seat (texts that the law's own text leans on): no condition.
-/
import Derived.Test.YtkfdfaijhcoffaaGreatDoorM7
set_option linter.unusedVariables false
set_option linter.unusedSimpArgs false
/-
  The statement on what is left of a division.
-/
namespace Go.Cv
variable {G : Nat → Option (List AV)} {T : Tbl} {g : Nat}

theorem and12_20 : andI .u8 20 12 = 4 := by rw [andI_eq]; rfl
theorem and12_24 : andI .u8 24 12 = 8 := by rw [andI_eq]; rfl
theorem and12_no {x : Nat} (h : x = 0 ∨ x = 16) : andI .u8 (x : Int) 12 = 0 := by
  rw [andI_eq]; rcases h with rfl | rfl <;> rfl
theorem word_flag (F : Fm) (m : Int) (n : Bool) (k : Nat) (ex : Bool) (e top : Int) (fine : Nat) : (wordOf F m n k ex e top fine).2 = 0 ∨ (wordOf F m n k ex e top fine).2 = 16 ∨ (wordOf F m n k ex e top fine).2 = 20 ∨ (wordOf F m n k ex e top fine).2 = 24 := by
  unfold wordOf
  repeat' split
  all_goals simp
theorem div_flag (F : Fm) {a b : Nat} (fa : F.fin a) (fb : F.fin b) (h1 : F.cls b ≠ 1) (m : Int) : (divW2 F m a b).2 = 0 ∨ (divW2 F m a b).2 = 16 ∨ (divW2 F m a b).2 = 20 ∨ (divW2 F m a b).2 = 24 := by
  have ca := fin_iff.1 fa
  have cb := fin_iff.1 fb
  unfold divW2 divP
  rw [if_neg (by omega), if_neg (by omega), if_neg (by omega), if_neg h1]
  split
  · exact Or.inl rfl
  · exact word_flag F m _ _ _ _ _ _

theorem div_fin (F : Fm) {m : Int} {a b : Nat} (k1 : a < 2 * F.sg) (k2 : b < 2 * F.sg) (fa : F.fin a) (fb : F.fin b) (n1 : F.cls b ≠ 1) (hx : (divW2 F m a b).2 = 0 ∨ (divW2 F m a b).2 = 16) : F.fin (divW2 F m a b).1 ∧ (divW2 F m a b).1 < 2 * F.sg := by
  have ca := fin_iff.1 fa
  have cb := fin_iff.1 fb
  by_cases h2 : F.cls a = 1
  · have hm2 : divW2 F m a b = (F.sgn (F.ng a != F.ng b), 0) := by
      clear hx
      unfold divW2 divP
      rw [if_neg (by omega), if_neg (by omega), if_neg (by omega), if_neg n1, if_pos (Or.inl h2)]
    rw [hm2]; exact ⟨(sgn_fin F _).2.1, (sgn_fin F _).1⟩
  · have na : (F.vl a).m ≠ 0 := fun h => h2 ((cls_val1 k1 fa).2 h)
    have nb : (F.vl b).m ≠ 0 := fun h => n1 ((cls_val1 k2 fb).2 h)
    have hm2 : divW2 F m a b = quoW F m (F.vl a) (F.vl b) := by
      clear hx
      unfold divW2 divP
      rw [if_neg (by omega), if_neg (by omega), if_neg (by omega), if_neg n1, if_neg (by omega)]
    rw [hm2] at hx ⊢
    obtain ⟨_, _, _, _, q1, q2, _⟩ := quo_core F (md := m) na nb hx
    exact ⟨q1, q2⟩

set_option maxHeartbeats 8000000 in
theorem law05_SoftRemains (hA : HasA g T) (hB : HasB g T) (hC : HasC g T) (hG : Glob G g) (hD : HasD g T) (hE : HasE g T) (hF : HasF g T) (hU : HasG g T) (hV : HasH g T) (hW : HasJ g T) (hK : run G T 163 [] = some (.bool true))
    {f m : Int} {a b : Nat} (ha : a < 18446744073709551616) (hb : b < 18446744073709551616) :
    run G T 241 [.int .u8 f, .int .u8 m, .int .u64 (a : Int), .int .u64 (b : Int)] = some (.bool true) := by
  rw [run_k G T hW.law05_SoftRemains]
  rcases law05_finite2 (G := G) (T := T) (f := f) hD hE hF hU hV ha hb with h1 | ⟨F, rfl, ⟨k1, k2⟩, ⟨fa, fb⟩, h1⟩
  · repeat' (first | (simp (maxSteps := 1000000) only [evB, if_true, if_false, ne_eq, Nat.reduceEqDiff, Nat.reduceAdd, reduceCtorEq, Int.reduceLE, Int.reduceLT, Int.reduceEq, Int.reduceNeg, Int.reduceToNat, Int.reducePow, Int.reduceMod, Int.reduceDiv, Int.reduceSub, Int.reduceAdd, Int.reduceMul, Nat.reduceMul, Nat.reduceSub, Nat.reducePow, exB, resC_ptr, res_cell, nilb, nilf, faddr_p, c_law05_SoftRemains, h1, hK]) | (simp (maxSteps := 1000000) (disch := first | with_reducible assumption | omega) only [dxB]) | (simp only [kI_d, kG_dt, kG_df]; split) | (simp only [kI_v, kG_vt, kG_vf]; split))
  · by_cases hm : 1 ≤ m ∧ m ≤ 5
    · have o1 := ref05_Opens0 (G := G) (T := T) hD hE hU F hm
      have c1 := ref03_Class (G := G) (T := T) hD hF F hb
      by_cases n1 : F.cls b = 1
      · rw [n1] at c1
        repeat' (first | (simp (maxSteps := 1000000) only [evB, if_true, if_false, ne_eq, Nat.reduceEqDiff, Nat.reduceAdd, reduceCtorEq, Int.reduceLE, Int.reduceLT, Int.reduceEq, Int.reduceNeg, Int.reduceToNat, Int.reducePow, Int.reduceMod, Int.reduceDiv, Int.reduceSub, Int.reduceAdd, Int.reduceMul, Nat.reduceMul, Nat.reduceSub, Nat.reducePow, exB, resC_ptr, res_cell, nilb, nilf, faddr_p, c_law05_SoftRemains, h1, o1, c1, hK]) | (simp (maxSteps := 1000000) (disch := first | with_reducible assumption | omega) only [dxB]) | (simp only [kI_d, kG_dt, kG_df]; split) | (simp only [kI_v, kG_vt, kG_vf]; split))
      · have r1 := soft_Div (G := G) (T := T) hA hG hC hD hE hU hV F hm k1 k2
        have hfl := div_flag F fa fb n1 m
        have hrem := remains F (md := m) k1 k2 fa fb n1
        have hq := fun (q : Nat) (hq : q < 18446744073709551616) => ref03_Finite (G := G) (T := T) hD hF F hq
        by_cases hx : (divW2 F m a b).2 = 0 ∨ (divW2 F m a b).2 = 16
        · have a12 := and12_no hx
          have hrem := hrem hx
          obtain ⟨z1, v1⟩ := ref03_Value (G := G) (T := T) hA hB hC hD hF F ha fa
          obtain ⟨z2, v2⟩ := ref03_Value (G := G) (T := T) hA hB hC hD hF F hb fb
          rw [← vl_val fa] at v1
          rw [← vl_val fb] at v2
          have hS := div_fin F k1 k2 fa fb n1 hx
          obtain ⟨g1, g2⟩ := hS
          have f1 := hq _ (sg_64 g2)
          rw [decide_eq_true g1] at f1
          obtain ⟨z3, v3⟩ := ref03_Value (G := G) (T := T) hA hB hC hD hF F (sg_64 g2) g1
          rw [← vl_val g1] at v3
          have bq := Bd_vl F (divW2 F m a b).1
          have bb := Bd_vl F b
          have ba := Bd_vl F a
          obtain ⟨p1, p2, p3⟩ := bq
          obtain ⟨q1, q2, q3⟩ := bb
          have l1 := dl_len_blen (F.vl (divW2 F m a b).1).m
          have l2 := dl_len_blen (F.vl b).m
          obtain ⟨z4, m1⟩ := ref02_Mul (G := G) (T := T) hB hC hF (z := z3) (y := z2) (a := F.vl (divW2 F m a b).1) (b := F.vl b) (by omega) (by omega) (by omega) (by omega)
          rw [show mkD ((F.vl (divW2 F m a b).1).n != (F.vl b).n) ((F.vl (divW2 F m a b).1).m * (F.vl b).m) ((F.vl (divW2 F m a b).1).e + (F.vl b).e) = mulD (F.vl (divW2 F m a b).1) (F.vl b) from rfl] at m1
          have bm := Bd_mul (Bd_vl F (divW2 F m a b).1) (Bd_vl F b)
          obtain ⟨z5, d1⟩ := ref02_Sub (G := G) (T := T) hB hC (z := z1) (y := z4) (ba.mono (by decide)) (bm.mono (by decide))
          have lo := ref03_Low (G := G) (T := T) hD F
          have bs := (Bd_sub (ba.mono (show 4096 ≤ 4 * 4096 by decide)) bm).bl
          have hls := dl_len_blen (subD (F.vl a) (mulD (F.vl (divW2 F m a b).1) (F.vl b))).m
          have hl0 := dl_len0 (a := (subD (F.vl a) (mulD (F.vl (divW2 F m a b).1) (F.vl b))).m)
          have hs := fun z => same_dy (G := G) (T := T) hB hC (z := z) (y := z5) (a := subD (F.vl a) (mulD (F.vl (divW2 F m a b).1) (F.vl b))) (b := subD (F.vl a) (mulD (F.vl (divW2 F m a b).1) (F.vl b))) (by omega)
          rw [decide_eq_true (show sameD (subD (F.vl a) (mulD (F.vl (divW2 F m a b).1) (F.vl b))) (subD (F.vl a) (mulD (F.vl (divW2 F m a b).1) (F.vl b))) from ⟨rfl, rfl, rfl⟩)] at hs
          have sn := ref03_Sign (G := G) (T := T) hD F
          have sd := ref03_Signed (G := G) (T := T) hD F (n := decide (b < F.sg)) (w := b)
          rw [signed_flip] at sd
          have r2 := soft_MulAdd (G := G) (T := T) hA hG hC hD hE hU F hm g2 (flip_facts k2).1 k1
          have hV2 := fun (w : Nat) (hw : w < 2 * F.sg) (hf : F.fin w) => ref03_Value (G := G) (T := T) hA hB hC hD hF F (sg_64 hw) hf
          have c2 : decide ((b : Int) < (F.sg : Int)) = decide (b < F.sg) := by simp
          clear hx hfl p1 p2 p3 q1 q2 q3 l1 l2 bm bs hls ba
          generalize fmaW F m (divW2 F m a b).1 (F.flip b) a = R at *
          generalize subD (F.vl a) (mulD (F.vl (divW2 F m a b).1) (F.vl b)) = d at *
          generalize mulD (F.vl (divW2 F m a b).1) (F.vl b) = pr at *
          generalize F.vl (divW2 F m a b).1 = vq at *
          generalize divW2 F m a b = S at *
          generalize F.vl a = va at *
          generalize F.vl b = vb at *
          obtain ⟨s, x⟩ := S
          simp only at *
          by_cases h0 : (dl d.m).length = 0
          · have hm0 := hl0.1 h0
            obtain ⟨_, _, r, rfl, t1, t2, t3⟩ := hrem (fun h => absurd hm0 h)
            have f2 := hq r (sg_64 t1)
            rw [decide_eq_true t2] at f2
            obtain ⟨z6, v4⟩ := hV2 r t1 t2
            rw [← vl_val t2, t3] at v4
            have hs := hs z6
            have h0' : ¬ (0 : Int) < ((dl d.m).length : Int) := by omega
            clear hrem hq hV2 t3 hl0
            simp only [cast0] at r2
            generalize F.flip b = fb' at *
            generalize decide (b < F.sg) = bs at *
            simp only [DyA, A3] at *
            repeat' (first | (simp (maxSteps := 1000000) only [evB, if_true, if_false, ne_eq, Nat.reduceEqDiff, Nat.reduceAdd, reduceCtorEq, Int.reduceLE, Int.reduceLT, Int.reduceEq, Int.reduceNeg, Int.reduceToNat, Int.reducePow, Int.reduceMod, Int.reduceDiv, Int.reduceSub, Int.reduceAdd, Int.reduceMul, Nat.reduceMul, Nat.reduceSub, Nat.reducePow, exB, resC_ptr, res_cell, nilb, nilf, faddr_p, c_law05_SoftRemains, h1, o1, c1, n1, r1, a12, f1, v1, v2, v3, m1, d1, lo, h0', c2, sn, sd, r2, f2, v4, hs, hK]) | (simp (maxSteps := 1000000) (disch := first | with_reducible assumption | omega) only [dxB]) | (simp only [kI_d, kG_dt, kG_df]; split) | (simp only [kI_v, kG_vt, kG_vf]; split))
          · have h0' : (0 : Int) < ((dl d.m).length : Int) := by omega
            have hm0 : d.m ≠ 0 := fun h => h0 (hl0.2 h)
            by_cases hl : F.low ≤ d.e
            · have c3 : ¬ d.e < F.low := by omega
              obtain ⟨_, _, r, rfl, t1, t2, t3⟩ := hrem (fun _ => hl)
              have f2 := hq r (sg_64 t1)
              rw [decide_eq_true t2] at f2
              obtain ⟨z6, v4⟩ := hV2 r t1 t2
              rw [← vl_val t2, t3] at v4
              have hs := hs z6
              clear hrem hq hV2 t3 hl0 hl
              simp only [cast0] at r2
              generalize F.flip b = fb' at *
              generalize decide (b < F.sg) = bs at *
              simp only [DyA, A3] at *
              repeat' (first | (simp (maxSteps := 1000000) only [evB, if_true, if_false, ne_eq, Nat.reduceEqDiff, Nat.reduceAdd, reduceCtorEq, Int.reduceLE, Int.reduceLT, Int.reduceEq, Int.reduceNeg, Int.reduceToNat, Int.reducePow, Int.reduceMod, Int.reduceDiv, Int.reduceSub, Int.reduceAdd, Int.reduceMul, Nat.reduceMul, Nat.reduceSub, Nat.reducePow, exB, resC_ptr, res_cell, nilb, nilf, faddr_p, c_law05_SoftRemains, h1, o1, c1, n1, r1, a12, f1, v1, v2, v3, m1, d1, lo, h0', c3, c2, sn, sd, r2, f2, v4, hs, hK]) | (simp (maxSteps := 1000000) (disch := first | with_reducible assumption | omega) only [dxB]) | (simp only [kI_d, kG_dt, kG_df]; split) | (simp only [kI_v, kG_vt, kG_vf]; split))
            · have c3 : d.e < F.low := by omega
              clear hrem hq hV2 hl0 hl hs
              simp only [DyA, A3] at *
              repeat' (first | (simp (maxSteps := 1000000) only [evB, if_true, if_false, ne_eq, Nat.reduceEqDiff, Nat.reduceAdd, reduceCtorEq, Int.reduceLE, Int.reduceLT, Int.reduceEq, Int.reduceNeg, Int.reduceToNat, Int.reducePow, Int.reduceMod, Int.reduceDiv, Int.reduceSub, Int.reduceAdd, Int.reduceMul, Nat.reduceMul, Nat.reduceSub, Nat.reducePow, exB, resC_ptr, res_cell, nilb, nilf, faddr_p, c_law05_SoftRemains, h1, o1, c1, n1, r1, a12, f1, v1, v2, v3, m1, d1, lo, h0', c3, hK]) | (simp (maxSteps := 1000000) (disch := first | with_reducible assumption | omega) only [dxB]) | (simp only [kI_d, kG_dt, kG_df]; split) | (simp only [kI_v, kG_vt, kG_vf]; split))
        · have a1 := and12_20
          have a2 := and12_24
          have hx2 : (divW2 F m a b).2 = 20 ∨ (divW2 F m a b).2 = 24 := by clear hrem hq; omega
          clear hrem hq hfl hx
          generalize divW2 F m a b = S at *
          obtain ⟨s, x⟩ := S
          simp only at *
          rcases hx2 with rfl | rfl
          · repeat' (first | (simp (maxSteps := 1000000) only [evB, if_true, if_false, ne_eq, Nat.reduceEqDiff, Nat.reduceAdd, reduceCtorEq, Int.reduceLE, Int.reduceLT, Int.reduceEq, Int.reduceNeg, Int.reduceToNat, Int.reducePow, Int.reduceMod, Int.reduceDiv, Int.reduceSub, Int.reduceAdd, Int.reduceMul, Nat.reduceMul, Nat.reduceSub, Nat.reducePow, exB, resC_ptr, res_cell, nilb, nilf, faddr_p, c_law05_SoftRemains, h1, o1, c1, n1, r1, a1, a2, hK]) | (simp (maxSteps := 1000000) (disch := first | with_reducible assumption | omega) only [dxB]) | (simp only [kI_d, kG_dt, kG_df]; split) | (simp only [kI_v, kG_vt, kG_vf]; split))
          · repeat' (first | (simp (maxSteps := 1000000) only [evB, if_true, if_false, ne_eq, Nat.reduceEqDiff, Nat.reduceAdd, reduceCtorEq, Int.reduceLE, Int.reduceLT, Int.reduceEq, Int.reduceNeg, Int.reduceToNat, Int.reducePow, Int.reduceMod, Int.reduceDiv, Int.reduceSub, Int.reduceAdd, Int.reduceMul, Nat.reduceMul, Nat.reduceSub, Nat.reducePow, exB, resC_ptr, res_cell, nilb, nilf, faddr_p, c_law05_SoftRemains, h1, o1, c1, n1, r1, a1, a2, hK]) | (simp (maxSteps := 1000000) (disch := first | with_reducible assumption | omega) only [dxB]) | (simp only [kI_d, kG_dt, kG_df]; split) | (simp only [kI_v, kG_vt, kG_vf]; split))
    · have o1 := ref05_Opens_mode (G := G) (T := T) hD hE hU F hm (v := .nil)
      repeat' (first | (simp (maxSteps := 1000000) only [evB, if_true, if_false, ne_eq, Nat.reduceEqDiff, Nat.reduceAdd, reduceCtorEq, Int.reduceLE, Int.reduceLT, Int.reduceEq, Int.reduceNeg, Int.reduceToNat, Int.reducePow, Int.reduceMod, Int.reduceDiv, Int.reduceSub, Int.reduceAdd, Int.reduceMul, Nat.reduceMul, Nat.reduceSub, Nat.reducePow, exB, resC_ptr, res_cell, nilb, nilf, faddr_p, c_law05_SoftRemains, h1, o1, hK]) | (simp (maxSteps := 1000000) (disch := first | with_reducible assumption | omega) only [dxB]) | (simp only [kI_d, kG_dt, kG_df]; split) | (simp only [kI_v, kG_vt, kG_vf]; split))
end Go.Cv
