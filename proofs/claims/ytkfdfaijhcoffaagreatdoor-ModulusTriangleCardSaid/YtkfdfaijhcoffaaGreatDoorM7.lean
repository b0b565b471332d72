/-
  A part of the proof of the statements of this seat (texts that the law's own text leans on): no condition.
-/
import Derived.Test.YtkfdfaijhcoffaaGreatDoorM6
set_option linter.unusedVariables false
set_option linter.unusedSimpArgs false
/-
  The statement on the triangle.
-/
namespace Go.Cv
variable {G : Nat → Option (List AV)} {T : Tbl} {g : Nat}

theorem or_ne0 {x y : Nat} (hx : Fl x) (hy : Fl y) (h : ¬ (x = 0 ∧ y = 0)) : ¬ orI .u8 (x : Int) (y : Int) = 0 := by
  rw [(or8 hx hy).1]
  have h1 : x ≤ x ||| y := Nat.left_le_or
  have h2 : y ≤ x ||| y := Nat.right_le_or
  omega
theorem or_00 : orI .u8 0 0 = 0 := by rw [orI_eq]; rfl

set_option maxHeartbeats 8000000 in
theorem law13_ModulusTriangle (hA : HasA g T) (hB : HasB g T) (hC : HasC g T) (hG : Glob G g) (hD : HasD g T) (hE : HasE g T) (hF : HasF g T) (hU : HasG g T) (hV : HasH g T) (hW : HasJ g T) (hK : run G T 168 [] = some (.bool true))
    {f : Int} {a b c d : Nat} (ha : a < 18446744073709551616) (hb : b < 18446744073709551616) (hc : c < 18446744073709551616) (hd : d < 18446744073709551616) :
    run G T 240 [.int .u8 f, .agg [.int .u64 (a : Int), .int .u64 (b : Int)], .agg [.int .u64 (c : Int), .int .u64 (d : Int)]] = some (.bool true) := by
  rw [run_k G T hW.law13_ModulusTriangle]
  rcases zopens2 (G := G) (T := T) (f := f) (md := 1) hD hE hF hU ha hb hc hd with ⟨e, he, o1⟩ | ⟨F, rfl, _, ⟨⟨k1, k2⟩, k3, k4⟩, o1⟩
  · repeat' (first | (simp (maxSteps := 1000000) only [evB, if_true, if_false, ne_eq, Nat.reduceEqDiff, Nat.reduceAdd, reduceCtorEq, Int.reduceLE, Int.reduceLT, Int.reduceEq, Int.reduceNeg, Int.reduceToNat, Int.reducePow, Int.reduceMod, Int.reduceDiv, Int.reduceSub, Int.reduceAdd, Int.reduceMul, Nat.reduceMul, Nat.reduceSub, Nat.reducePow, exB, resC_ptr, res_cell, nilb, nilf, faddr_p, c_law13_ModulusTriangle, st_bs2, repA_2, o1, he, hK]) | (simp (maxSteps := 1000000) (disch := first | with_reducible assumption | omega) only [dxB]) | (simp only [kI_d, kG_dt, kG_df]; split) | (simp only [kI_v, kG_vt, kG_vf]; split))
  · have f1 := ref10_Finite (G := G) (T := T) hD hF hW F k1 k2
    have f2 := ref10_Finite (G := G) (T := T) hD hF hW F k3 k4
    by_cases p : F.fin a ∧ F.fin b
    · rw [decide_eq_true p] at f1
      by_cases q : F.fin c ∧ F.fin d
      · rw [decide_eq_true q] at f2
        have r1 := modulus_Abs (G := G) (T := T) hA hG hC hD hE hU F (md := 4) (by omega) k1 k2
        have r2 := modulus_Abs (G := G) (T := T) hA hG hC hD hE hU F (md := 4) (by omega) k3 k4
        have s1 := ref12_Add (G := G) (T := T) hA hB hC hD hE hF hV hW F (md := 1) (by omega) k1 k2 k3 k4
        obtain ⟨i1, i2⟩ := addP_facts F (m := 1) (by omega) (F.cls a) (F.ng a) (F.vl a) (F.cls c) (F.ng c) (F.vl c)
        obtain ⟨j1, j2⟩ := addP_facts F (m := 1) (by omega) (F.cls b) (F.ng b) (F.vl b) (F.cls d) (F.ng d) (F.vl d)
        rw [show addP F 1 (F.cls a) (F.ng a) (F.vl a) (F.cls c) (F.ng c) (F.vl c) = addW F 1 a c from rfl] at i1 i2
        rw [show addP F 1 (F.cls b) (F.ng b) (F.vl b) (F.cls d) (F.ng d) (F.vl d) = addW F 1 b d from rfl] at j1 j2
        have r3 := modulus_Abs (G := G) (T := T) hA hG hC hD hE hU F (md := 5) (by omega) i1 j1
        rw [absZ_fin F 4 p.1 p.2] at r1
        rw [absZ_fin F 4 q.1 q.2] at r2
        obtain ⟨a1, a2⟩ := rt_up F (sq_pos F a b)
        obtain ⟨b1, b2⟩ := rt_up F (sq_pos F c d)
        have t1 := tri_w F p.1 p.2 q.1 q.2 (C := (rtW F 5 (sqD F (addW F 1 a c).1 (addW F 1 b d).1)).1) rfl rfl rfl
        have t2 := fun h => abs_le F p.1 p.2 rfl h
        have e1 := add_exact F (md := 1) (by omega) k1 k3 p.1 q.1
        have e2 := add_exact F (md := 1) (by omega) k2 k4 p.2 q.2
        have c5 := rt_dn F (sq_pos F (addW F 1 a c).1 (addW F 1 b d).1)
        have a5 := fun h1 h2 => absZ_fin F 5 (a := (addW F 1 a c).1) (b := (addW F 1 b d).1) h1 h2
        have cl := fun (w : Nat) (hw : w < 2 * F.sg) => ref03_Class (G := G) (T := T) hD hF F (sg_64 hw)
        have vv := fun (w : Nat) (hw : w < 2 * F.sg) (hf : F.fin w) => (by
          obtain ⟨z, h⟩ := ref03_Value (G := G) (T := T) hA hB hC hD hF F (sg_64 hw) hf
          rw [← vl_val hf] at h; exact ⟨z, h⟩ : ∃ z, run G T 151 [.int .u8 F.u, .int .u64 (w : Int)] = some (DyA z (F.vl w)))
        have g1 := cl _ a1
        have g2 := cl _ b1
        generalize hA' : (rtW F 4 (sqD F a b)).1 = A at *
        generalize hB' : (rtW F 4 (sqD F c d)).1 = B at *
        generalize (rtW F 4 (sqD F a b)).2 = A2 at *
        generalize (rtW F 4 (sqD F c d)).2 = B2 at *
        clear hA' hB'
        obtain ⟨s, x1, hs⟩ : ∃ s x, addW F 1 a c = (s, x) := ⟨_, _, rfl⟩
        obtain ⟨t, x2, ht⟩ : ∃ s x, addW F 1 b d = (s, x) := ⟨_, _, rfl⟩
        rw [hs, ht] at s1 t1 c5 a5 r3
        rw [hs] at i1 i2 e1
        rw [ht] at j1 j2 e2
        clear hs ht
        simp only at *
        by_cases hA4 : F.cls A = 4
        · rw [hA4] at g1
          clear a2 b2 t1 t2 e1 e2 c5 a5 cl vv i1 i2 j1 j2 p q
          generalize absZ F 5 s t = R at *
          simp only [zA, zrA] at *
          repeat' (first | (simp (maxSteps := 1000000) only [evB, if_true, if_false, ne_eq, Nat.reduceEqDiff, Nat.reduceAdd, reduceCtorEq, Int.reduceLE, Int.reduceLT, Int.reduceEq, Int.reduceNeg, Int.reduceToNat, Int.reducePow, Int.reduceMod, Int.reduceDiv, Int.reduceSub, Int.reduceAdd, Int.reduceMul, Nat.reduceMul, Nat.reduceSub, Nat.reducePow, exB, resC_ptr, res_cell, nilb, nilf, faddr_p, c_law13_ModulusTriangle, st_bs2, repA_2, o1, f1, f2, r1, r2, s1, r3, g1, hK]) | (simp (maxSteps := 1000000) (disch := first | with_reducible assumption | omega) only [dxB]) | (simp only [kI_d, kG_dt, kG_df]; split) | (simp only [kI_v, kG_vt, kG_vf]; split))
        · by_cases hB4 : F.cls B = 4
          · rw [hB4] at g2
            clear a2 b2 t1 t2 e1 e2 c5 a5 cl vv i1 i2 j1 j2 p q
            generalize absZ F 5 s t = R at *
            generalize F.cls A = ca at *
            simp only [zA, zrA] at *
            repeat' (first | (simp (maxSteps := 1000000) only [evB, if_true, if_false, ne_eq, Nat.reduceEqDiff, Nat.reduceAdd, reduceCtorEq, Int.reduceLE, Int.reduceLT, Int.reduceEq, Int.reduceNeg, Int.reduceToNat, Int.reducePow, Int.reduceMod, Int.reduceDiv, Int.reduceSub, Int.reduceAdd, Int.reduceMul, Nat.reduceMul, Nat.reduceSub, Nat.reducePow, exB, resC_ptr, res_cell, nilb, nilf, faddr_p, c_law13_ModulusTriangle, st_bs2, repA_2, o1, f1, f2, r1, r2, s1, r3, g1, hA4, g2, hK]) | (simp (maxSteps := 1000000) (disch := first | with_reducible assumption | omega) only [dxB]) | (simp only [kI_d, kG_dt, kG_df]; split) | (simp only [kI_v, kG_vt, kG_vf]; split))
          · have fA := (a2.resolve_left hA4).1
            have fB := (b2.resolve_left hB4).1
            obtain ⟨l1, l2⟩ := t2 fA
            obtain ⟨z1, v1⟩ := vv a k1 p.1
            obtain ⟨z2, v2⟩ := vv b k2 p.2
            obtain ⟨z3, v3⟩ := vv A a1 fA
            obtain ⟨z4, v4⟩ := vv B b1 fB
            have m1 := ref02_Abs (G := G) (T := T) hC (z := z1) (d := F.vl a)
            have m2 := ref02_Abs (G := G) (T := T) hC (z := z2) (d := F.vl b)
            have bA : ∀ w, Bd (absD (F.vl w)) 34359738368 := fun w => by
              obtain ⟨r1, r2, r3⟩ := Bd_vl F w
              exact ⟨by unfold absD; simp only; omega, by unfold absD; simp only; omega, by unfold absD; simp only; omega⟩
            have n1 := ref02_Cmp (G := G) (T := T) hB hC (z := z1) (y := z3) (a := absD (F.vl a)) (b := F.vl A) (bA a) ((Bd_vl F A).mono (by decide))
            have n2 := ref02_Cmp (G := G) (T := T) hB hC (z := z2) (y := z3) (a := absD (F.vl b)) (b := F.vl A) (bA b) ((Bd_vl F A).mono (by decide))
            have l1' : ¬ 0 < cmpD (absD (F.vl a)) (F.vl A) := by omega
            have l2' : ¬ 0 < cmpD (absD (F.vl b)) (F.vl A) := by omega
            clear bA l1 l2 t2 a2 b2
            by_cases hx : x1 = 0 ∧ x2 = 0
            · obtain ⟨rfl, rfl⟩ := hx
              obtain ⟨fs, es⟩ := e1 rfl
              obtain ⟨ft, et⟩ := e2 rfl
              rw [a5 fs ft] at r3
              have l3 := t1 fA fB fs ft es et
              have g3 := cl _ c5.1
              obtain ⟨z5, v5⟩ := vv _ c5.1 c5.2.1
              have fC := fin_iff.1 c5.2.1
              have nC : ¬ F.cls (rtW F 5 (sqD F s t)).1 = 4 := by omega
              obtain ⟨z6, d1⟩ := ref02_Add (G := G) (T := T) hB hC (z := z3) (y := z4) ((Bd_vl F A).mono (by decide)) ((Bd_vl F B).mono (by decide))
              have n3 := ref02_Cmp (G := G) (T := T) hB hC (z := z5) (y := z6) (a := F.vl (rtW F 5 (sqD F s t)).1) (b := addD (F.vl A) (F.vl B)) ((Bd_vl F _).mono (by decide)) ((Bd_add (Bd_vl F A) (Bd_vl F B)).mono (by decide))
              have o0 := or_00
              clear t1 c5 a5 cl vv i1 i2 j1 j2 p q e1 e2 es et fC
              generalize rtW F 5 (sqD F s t) = R at *
              generalize F.vl R.1 = vR at *
              generalize F.cls R.1 = cR at *
              generalize cmpD vR (addD (F.vl A) (F.vl B)) = y3 at *
              generalize addD (F.vl A) (F.vl B) = dAB at *
              generalize cmpD (absD (F.vl a)) (F.vl A) = y1 at *
              generalize cmpD (absD (F.vl b)) (F.vl A) = y2 at *
              generalize absD (F.vl a) = da at *
              generalize absD (F.vl b) = db at *
              generalize F.vl a = va at *
              generalize F.vl b = vb at *
              generalize F.vl A = vA at *
              generalize F.vl B = vB at *
              generalize F.cls A = ca at *
              generalize F.cls B = cb at *
              simp only [zA, zrA, DyA, A3, cast0] at *
              repeat' (first | (simp (maxSteps := 1000000) only [evB, if_true, if_false, ne_eq, Nat.reduceEqDiff, Nat.reduceAdd, reduceCtorEq, Int.reduceLE, Int.reduceLT, Int.reduceEq, Int.reduceNeg, Int.reduceToNat, Int.reducePow, Int.reduceMod, Int.reduceDiv, Int.reduceSub, Int.reduceAdd, Int.reduceMul, Nat.reduceMul, Nat.reduceSub, Nat.reducePow, exB, resC_ptr, res_cell, nilb, nilf, faddr_p, c_law13_ModulusTriangle, st_bs2, repA_2, o1, f1, f2, r1, r2, s1, r3, g1, hA4, g2, hB4, v1, v2, v3, m1, m2, n1, n2, l1', l2', o0, g3, nC, v5, v4, d1, n3, l3, hK]) | (simp (maxSteps := 1000000) (disch := first | with_reducible assumption | omega) only [dxB]) | (simp only [kI_d, kG_dt, kG_df]; split) | (simp only [kI_v, kG_vt, kG_vf]; split))
            · have hor := or_ne0 i2 j2 hx
              clear t1 c5 a5 cl vv i1 i2 j1 j2 p q e1 e2
              generalize absZ F 5 s t = R at *
              generalize cmpD (absD (F.vl a)) (F.vl A) = y1 at *
              generalize cmpD (absD (F.vl b)) (F.vl A) = y2 at *
              generalize absD (F.vl a) = da at *
              generalize absD (F.vl b) = db at *
              generalize F.vl a = va at *
              generalize F.vl b = vb at *
              generalize F.vl A = vA at *
              generalize F.vl B = vB at *
              generalize F.cls A = ca at *
              generalize F.cls B = cb at *
              simp only [zA, zrA, DyA, A3] at *
              repeat' (first | (simp (maxSteps := 1000000) only [evB, if_true, if_false, ne_eq, Nat.reduceEqDiff, Nat.reduceAdd, reduceCtorEq, Int.reduceLE, Int.reduceLT, Int.reduceEq, Int.reduceNeg, Int.reduceToNat, Int.reducePow, Int.reduceMod, Int.reduceDiv, Int.reduceSub, Int.reduceAdd, Int.reduceMul, Nat.reduceMul, Nat.reduceSub, Nat.reducePow, exB, resC_ptr, res_cell, nilb, nilf, faddr_p, c_law13_ModulusTriangle, st_bs2, repA_2, o1, f1, f2, r1, r2, s1, r3, g1, hA4, g2, hB4, v1, v2, v3, m1, m2, n1, n2, l1', l2', hor, hK]) | (simp (maxSteps := 1000000) (disch := first | with_reducible assumption | omega) only [dxB]) | (simp only [kI_d, kG_dt, kG_df]; split) | (simp only [kI_v, kG_vt, kG_vf]; split))
      · rw [decide_eq_false q] at f2
        simp only [zA] at *
        repeat' (first | (simp (maxSteps := 1000000) only [evB, if_true, if_false, ne_eq, Nat.reduceEqDiff, Nat.reduceAdd, reduceCtorEq, Int.reduceLE, Int.reduceLT, Int.reduceEq, Int.reduceNeg, Int.reduceToNat, Int.reducePow, Int.reduceMod, Int.reduceDiv, Int.reduceSub, Int.reduceAdd, Int.reduceMul, Nat.reduceMul, Nat.reduceSub, Nat.reducePow, exB, resC_ptr, res_cell, nilb, nilf, faddr_p, c_law13_ModulusTriangle, st_bs2, repA_2, o1, f1, f2, hK]) | (simp (maxSteps := 1000000) (disch := first | with_reducible assumption | omega) only [dxB]) | (simp only [kI_d, kG_dt, kG_df]; split) | (simp only [kI_v, kG_vt, kG_vf]; split))
    · rw [decide_eq_false p] at f1
      simp only [zA] at *
      repeat' (first | (simp (maxSteps := 1000000) only [evB, if_true, if_false, ne_eq, Nat.reduceEqDiff, Nat.reduceAdd, reduceCtorEq, Int.reduceLE, Int.reduceLT, Int.reduceEq, Int.reduceNeg, Int.reduceToNat, Int.reducePow, Int.reduceMod, Int.reduceDiv, Int.reduceSub, Int.reduceAdd, Int.reduceMul, Nat.reduceMul, Nat.reduceSub, Nat.reducePow, exB, resC_ptr, res_cell, nilb, nilf, faddr_p, c_law13_ModulusTriangle, st_bs2, repA_2, o1, f1, hK]) | (simp (maxSteps := 1000000) (disch := first | with_reducible assumption | omega) only [dxB]) | (simp only [kI_d, kG_dt, kG_df]; split) | (simp only [kI_v, kG_vt, kG_vf]; split))
end Go.Cv
