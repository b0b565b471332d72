/-
  A part of the proof of the statements of this seat (texts that the law's own text leans on): no condition.
-/
import Derived.Test.YtabmkppfiklbaaaGreatDoorM6
set_option linter.unusedVariables false
set_option linter.unusedSimpArgs false
namespace Go.Cv
variable {G : Nat → Option (List AV)} {T : Tbl} {g : Nat}
def smS (F : Fm) (a b c d : Nat) : Bool := !decide (zcl (F.cls a) (F.cls b) ≤ 2 ∧ zcl (F.cls c) (F.cls d) ≤ 2)
def bx (F : Fm) (a b : Nat) : (Int × Bool) × (Int × Bool) := (sd F a (decide (zcl (F.cls a) (F.cls b) = 3)), sd F b (decide (zcl (F.cls a) (F.cls b) = 3)))
def smP (F : Fm) (md : Int) (a b c d : Nat) : (Int × Bool) × (Int × Bool) := bxT md (bx F a b).1 (bx F a b).2 (bx F c d).1 (bx F c d).2
def smW (F : Fm) (md : Int) (a b c d : Nat) : (Nat × Nat) × (Nat × Nat) :=
  if zcl (F.cls a) (F.cls b) ≤ 2 ∧ zcl (F.cls c) (F.cls d) ≤ 2 then ((0, 0), (0, 0))
  else if zcl (F.cls a) (F.cls b) = 4 ∨ zcl (F.cls c) (F.cls d) = 4 then ((F.nan, 0), (F.nan, 0))
  else if zcl (F.cls a) (F.cls b) = 1 ∨ zcl (F.cls c) (F.cls d) = 1 then ((F.nan, 1), (F.nan, 1))
  else ((sideW F (F.inf false) (smP F md a b c d).1, 0), (sideW F (F.inf false) (smP F md a b c d).2, 0))
def bxd (F : Fm) (c d : Nat) : (Int × Bool) × (Int × Bool) := (if zcl (F.cls c) (F.cls d) = 1 then (if (bx F c d).1.2 then -1 else 1, (bx F c d).1.2) else (bx F c d).1, sM (bx F c d).2)
def sdP (F : Fm) (md : Int) (a b c d : Nat) : (Int × Bool) × (Int × Bool) := bxT md (bx F a b).1 (bx F a b).2 (bxd F c d).1 (bxd F c d).2
def sdS (F : Fm) (a b c d : Nat) : Bool := !decide (zcl (F.cls a) (F.cls b) ≤ 2 ∧ zcl (F.cls c) (F.cls d) = 2)
def sdW (F : Fm) (md : Int) (a b c d : Nat) : (Nat × Nat) × (Nat × Nat) :=
  if zcl (F.cls a) (F.cls b) ≤ 2 ∧ zcl (F.cls c) (F.cls d) = 2 then ((0, 0), (0, 0))
  else if zcl (F.cls a) (F.cls b) = 4 ∨ zcl (F.cls c) (F.cls d) = 4 then ((F.nan, 0), (F.nan, 0))
  else if zcl (F.cls a) (F.cls b) = zcl (F.cls c) (F.cls d) then ((F.nan, 1), (F.nan, 1))
  else if zcl (F.cls c) (F.cls d) = 3 then ((sideW F 0 (sdP F md a b c d).1, 0), (sideW F 0 (sdP F md a b c d).2, 0))
  else if zcl (F.cls a) (F.cls b) = 3 then ((sideW F (F.inf false) (sdP F md a b c d).1, 0), (sideW F (F.inf false) (sdP F md a b c d).2, 0))
  else ((sideW F (F.inf false) (sdP F md a b c d).1, 2), (sideW F (F.inf false) (sdP F md a b c d).2, 2))
theorem zcl_range (F : Fm) (a b : Nat) : zcl (F.cls a) (F.cls b) = 1 ∨ zcl (F.cls a) (F.cls b) = 2 ∨ zcl (F.cls a) (F.cls b) = 3 ∨ zcl (F.cls a) (F.cls b) = 4 := by
  unfold zcl; repeat' split
  all_goals omega
theorem inf_lt (F : Fm) (n : Bool) : F.inf n < 2 * F.sg := by cases F <;> cases n <;> decide
theorem bx_c (F : Fm) (a b : Nat) : SdC (bx F a b).1 ∧ SdC (bx F a b).2 := ⟨sd_c _ _ _, sd_c _ _ _⟩
theorem bxd_c (F : Fm) (c d : Nat) : SdC (bxd F c d).1 ∧ SdC (bxd F c d).2 := by
  refine ⟨?_, sM_c (bx_c F c d).2⟩
  unfold bxd
  by_cases h : zcl (F.cls c) (F.cls d) = 1
  · simp only [if_pos h]; unfold SdC; cases (bx F c d).1.2 <;> simp
  · simp only [if_neg h]; exact (bx_c F c d).1
theorem i1_20 (x y : AV) (k : IntKind) : iaddrV 1 (.imm 2 [x, y]) (.int k 0) = some (.iptr [x, y] 0) := rfl
theorem i1_21 (x y : AV) (k : IntKind) : iaddrV 1 (.imm 2 [x, y]) (.int k 1) = some (.iptr [x, y] 1) := rfl
set_option maxHeartbeats 8000000 in
theorem special_Mul (J : Al G T g) (F : Fm) {md : Int} (hm : 1 ≤ md ∧ md ≤ 5) {a b c d : Nat} (ha : a < 2 * F.sg) (hb : b < 2 * F.sg) (hc : c < 2 * F.sg) (hd : d < 2 * F.sg) :
    run G T 268 [.int .u8 F.u, .int .u8 md, zA a b, zA c d] = some (.tup [zrA (smW F md a b c d).1 (smW F md a b c d).2, .bool (smS F a b c d), .int .i64 0]) := by
  rw [run_k G T J.J.special_Mul]
  have o1 := special_open2 J F hm ha hb hc hd
  have i1 := word_Inf J F (n := false)
  have n0 := special_none J F (x := 0)
  have n1 := special_none J F (x := 1)
  have b1 := special_boxOf J F (c := zcl (F.cls a) (F.cls b)) ha hb
  have b2 := special_boxOf J F (c := zcl (F.cls c) (F.cls d)) hc hd
  have t1 := special_box_times J (md := md) (bx_c F a b).1 (bx_c F a b).2 (bx_c F c d).1 (bx_c F c d).2
  have w1 := special_box_words J F (inf_lt F false) (p := (smP F md a b c d).1) (q := (smP F md a b c d).2)
  have ra := zcl_range F a b
  have rc := zcl_range F c d
  rw [show sd F a (decide (zcl (F.cls a) (F.cls b) = 3)) = (bx F a b).1 from rfl, show sd F b (decide (zcl (F.cls a) (F.cls b) = 3)) = (bx F a b).2 from rfl] at b1
  rw [show sd F c (decide (zcl (F.cls c) (F.cls d) = 3)) = (bx F c d).1 from rfl, show sd F d (decide (zcl (F.cls c) (F.cls d) = 3)) = (bx F c d).2 from rfl] at b2
  rw [show bxT md (bx F a b).1 (bx F a b).2 (bx F c d).1 (bx F c d).2 = smP F md a b c d from rfl] at t1
  unfold smW smS
  generalize smP F md a b c d = P at *
  generalize bx F a b = p at *
  generalize bx F c d = q at *
  generalize zcl (F.cls a) (F.cls b) = x at *
  generalize zcl (F.cls c) (F.cls d) = y at *
  by_cases k0 : x ≤ 2 ∧ y ≤ 2
  · obtain ⟨x2, y2⟩ := k0
    rw [if_pos ⟨x2, y2⟩, decide_eq_true (show x ≤ 2 ∧ y ≤ 2 from ⟨x2, y2⟩)]
    simp only [zA, zrA, im2, cast0, Bool.not_true] at *
    repeat' (first | (simp (maxSteps := 1000000) only [seval, evB, exB, c_special_Mul, st_bs2, repA_2, o1, i1_20, i1_21, rp_0, rp_1, i1, x2, y2]) | (simp (maxSteps := 1000000) (disch := first | with_reducible assumption | omega) only [dxB]) | (simp only [kI_d, kG_dt, kG_df]; split) | (simp only [kI_v, kG_vt, kG_vf]; split))
  · rw [if_neg k0, decide_eq_false k0]
    by_cases k4 : x = 4 ∨ y = 4
    · rw [if_pos k4]
      simp only [zA, zrA, im2, cast0, Bool.not_false] at *
      rcases k4 with rfl | rfl
      · repeat' (first | (simp (maxSteps := 1000000) only [seval, evB, exB, c_special_Mul, st_bs2, repA_2, o1, i1_20, i1_21, rp_0, rp_1, i1, n0]) | (simp (maxSteps := 1000000) (disch := first | with_reducible assumption | omega) only [dxB]) | (simp only [kI_d, kG_dt, kG_df]; split) | (simp only [kI_v, kG_vt, kG_vf]; split))
      · by_cases h4 : x = 4
        · subst h4
          repeat' (first | (simp (maxSteps := 1000000) only [seval, evB, exB, c_special_Mul, st_bs2, repA_2, o1, i1_20, i1_21, rp_0, rp_1, i1, n0]) | (simp (maxSteps := 1000000) (disch := first | with_reducible assumption | omega) only [dxB]) | (simp only [kI_d, kG_dt, kG_df]; split) | (simp only [kI_v, kG_vt, kG_vf]; split))
        · by_cases h2 : x ≤ 2
          · repeat' (first | (simp (maxSteps := 1000000) only [seval, evB, exB, c_special_Mul, st_bs2, repA_2, o1, i1_20, i1_21, rp_0, rp_1, i1, h2, h4, n0]) | (simp (maxSteps := 1000000) (disch := first | with_reducible assumption | omega) only [dxB]) | (simp only [kI_d, kG_dt, kG_df]; split) | (simp only [kI_v, kG_vt, kG_vf]; split))
          · repeat' (first | (simp (maxSteps := 1000000) only [seval, evB, exB, c_special_Mul, st_bs2, repA_2, o1, i1_20, i1_21, rp_0, rp_1, i1, h2, h4, n0]) | (simp (maxSteps := 1000000) (disch := first | with_reducible assumption | omega) only [dxB]) | (simp only [kI_d, kG_dt, kG_df]; split) | (simp only [kI_v, kG_vt, kG_vf]; split))
    · rw [if_neg k4]
      have e4 : ¬ x = 4 := fun h => k4 (Or.inl h)
      have f4 : ¬ y = 4 := fun h => k4 (Or.inr h)
      by_cases k1 : x = 1 ∨ y = 1
      · rw [if_pos k1]
        simp only [zA, zrA, im2, cast0, Bool.not_false, Int.cast_ofNat_Int] at *
        rcases k1 with rfl | rfl
        · have y2 : ¬ y ≤ 2 := fun h => k0 ⟨by omega, h⟩
          repeat' (first | (simp (maxSteps := 1000000) only [seval, evB, exB, c_special_Mul, st_bs2, repA_2, o1, i1_20, i1_21, rp_0, rp_1, i1, y2, f4, n1]) | (simp (maxSteps := 1000000) (disch := first | with_reducible assumption | omega) only [dxB]) | (simp only [kI_d, kG_dt, kG_df]; split) | (simp only [kI_v, kG_vt, kG_vf]; split))
        · have x2 : ¬ x ≤ 2 := fun h => k0 ⟨h, by omega⟩
          have x1 : ¬ x = 1 := by omega
          repeat' (first | (simp (maxSteps := 1000000) only [seval, evB, exB, c_special_Mul, st_bs2, repA_2, o1, i1_20, i1_21, rp_0, rp_1, i1, x2, e4, x1, n1]) | (simp (maxSteps := 1000000) (disch := first | with_reducible assumption | omega) only [dxB]) | (simp only [kI_d, kG_dt, kG_df]; split) | (simp only [kI_v, kG_vt, kG_vf]; split))
      · rw [if_neg k1]
        have e1 : ¬ x = 1 := fun h => k1 (Or.inl h)
        have f1 : ¬ y = 1 := fun h => k1 (Or.inr h)
        simp only [zA, zrA, im2, cast0, boxA, Bool.not_false] at *
        by_cases x2 : x ≤ 2
        · have y2 : ¬ y ≤ 2 := fun h => k0 ⟨x2, h⟩
          repeat' (first | (simp (maxSteps := 1000000) only [seval, evB, exB, c_special_Mul, st_bs2, repA_2, o1, i1_20, i1_21, rp_0, rp_1, i1, x2, y2, e4, f4, e1, f1, b1, b2, t1, w1]) | (simp (maxSteps := 1000000) (disch := first | with_reducible assumption | omega) only [dxB]) | (simp only [kI_d, kG_dt, kG_df]; split) | (simp only [kI_v, kG_vt, kG_vf]; split))
        · repeat' (first | (simp (maxSteps := 1000000) only [seval, evB, exB, c_special_Mul, st_bs2, repA_2, o1, i1_20, i1_21, rp_0, rp_1, i1, x2, e4, f4, e1, f1, b1, b2, t1, w1]) | (simp (maxSteps := 1000000) (disch := first | with_reducible assumption | omega) only [dxB]) | (simp only [kI_d, kG_dt, kG_df]; split) | (simp only [kI_v, kG_vt, kG_vf]; split))
theorem zcl_fin2 (F : Fm) {a b : Nat} : (F.fin a ∧ F.fin b) ↔ zcl (F.cls a) (F.cls b) ≤ 2 := by
  have ra := cls_range F a
  have rb := cls_range F b
  rw [fin_iff, fin_iff]
  unfold zcl
  by_cases h1 : F.cls a = 4 ∨ F.cls b = 4
  · rw [if_pos h1]; omega
  · rw [if_neg h1]
    by_cases h2 : F.cls a = 5 ∨ F.cls b = 5
    · rw [if_pos h2]; omega
    · rw [if_neg h2]; split <;> omega
set_option maxHeartbeats 16000000 in
theorem special_Div (J : Al G T g) (F : Fm) {md : Int} (hm : 1 ≤ md ∧ md ≤ 5) {a b c d : Nat} (ha : a < 2 * F.sg) (hb : b < 2 * F.sg) (hc : c < 2 * F.sg) (hd : d < 2 * F.sg) :
    run G T 277 [.int .u8 F.u, .int .u8 md, zA a b, zA c d] = some (.tup [zrA (sdW F md a b c d).1 (sdW F md a b c d).2, .bool (sdS F a b c d), .int .i64 0]) := by
  rw [run_k G T J.J.special_Div]
  have o1 := special_open2 J F hm ha hb hc hd
  have i1 := word_Inf J F (n := false)
  have n0 := special_none J F (x := 0)
  have n1 := special_none J F (x := 1)
  have b1 := special_boxOf J F (c := zcl (F.cls a) (F.cls b)) ha hb
  have b2 := special_boxOf J F (c := zcl (F.cls c) (F.cls d)) hc hd
  have mi := special_side_minus J (bx_c F c d).2
  have t1 := special_box_times J (md := md) (bx_c F a b).1 (bx_c F a b).2 (bxd_c F c d).1 (bxd_c F c d).2
  have w1 := special_box_words J F (inf_lt F false) (p := (sdP F md a b c d).1) (q := (sdP F md a b c d).2)
  have w0 := special_box_words J F (size := 0) (by cases F <;> decide) (p := (sdP F md a b c d).1) (q := (sdP F md a b c d).2)
  have ra := zcl_range F a b
  have rc := zcl_range F c d
  rw [show sd F a (decide (zcl (F.cls a) (F.cls b) = 3)) = (bx F a b).1 from rfl, show sd F b (decide (zcl (F.cls a) (F.cls b) = 3)) = (bx F a b).2 from rfl] at b1
  rw [show sd F c (decide (zcl (F.cls c) (F.cls d) = 3)) = (bx F c d).1 from rfl, show sd F d (decide (zcl (F.cls c) (F.cls d) = 3)) = (bx F c d).2 from rfl] at b2
  rw [show bxT md (bx F a b).1 (bx F a b).2 (bxd F c d).1 (bxd F c d).2 = sdP F md a b c d from rfl] at t1
  have hx2 : (bxd F c d).2 = sM (bx F c d).2 := rfl
  rw [← hx2] at mi
  have hx1 : (bxd F c d).1 = if zcl (F.cls c) (F.cls d) = 1 then (if (bx F c d).1.2 then -1 else 1, (bx F c d).1.2) else (bx F c d).1 := rfl
  clear hx2
  unfold sdW sdS
  generalize sdP F md a b c d = P at *
  generalize bxd F c d = r at *
  generalize bx F a b = p at *
  generalize bx F c d = q at *
  generalize zcl (F.cls a) (F.cls b) = x at *
  generalize zcl (F.cls c) (F.cls d) = y at *
  obtain ⟨⟨p1, p2⟩, p3, p4⟩ := p
  obtain ⟨⟨q1, q2⟩, q3, q4⟩ := q
  obtain ⟨⟨r1, r2⟩, r3, r4⟩ := r
  by_cases k0 : x ≤ 2 ∧ y = 2
  · obtain ⟨x2, rfl⟩ := k0
    rw [if_pos ⟨x2, rfl⟩, decide_eq_true (show x ≤ 2 ∧ (2 : Int) = 2 from ⟨x2, rfl⟩)]
    clear hx1
    simp only [zA, zrA, im2, cast0, Bool.not_true] at *
    repeat' (first | (simp (maxSteps := 1000000) only [seval, evB, exB, c_special_Div, st_bs2, repA_2, o1, i1_20, i1_21, rp_0, rp_1, i1, x2]) | (simp (maxSteps := 1000000) (disch := first | with_reducible assumption | omega) only [dxB]) | (simp only [kI_d, kG_dt, kG_df]; split) | (simp only [kI_v, kG_vt, kG_vf]; split))
  · rw [if_neg k0, decide_eq_false k0]
    have hk : ¬ x ≤ 2 ∨ ¬ y = 2 := by omega
    by_cases k4 : x = 4 ∨ y = 4
    · rw [if_pos k4]
      clear hx1
      simp only [zA, zrA, im2, cast0, Bool.not_false] at *
      by_cases h4 : x = 4
      · subst h4
        repeat' (first | (simp (maxSteps := 1000000) only [seval, evB, exB, c_special_Div, st_bs2, repA_2, o1, i1_20, i1_21, rp_0, rp_1, i1, n0]) | (simp (maxSteps := 1000000) (disch := first | with_reducible assumption | omega) only [dxB]) | (simp only [kI_d, kG_dt, kG_df]; split) | (simp only [kI_v, kG_vt, kG_vf]; split))
      · have h5 : y = 4 := by omega
        subst h5
        by_cases h2 : x ≤ 2
        · repeat' (first | (simp (maxSteps := 1000000) only [seval, evB, exB, c_special_Div, st_bs2, repA_2, o1, i1_20, i1_21, rp_0, rp_1, i1, h2, h4, n0]) | (simp (maxSteps := 1000000) (disch := first | with_reducible assumption | omega) only [dxB]) | (simp only [kI_d, kG_dt, kG_df]; split) | (simp only [kI_v, kG_vt, kG_vf]; split))
        · repeat' (first | (simp (maxSteps := 1000000) only [seval, evB, exB, c_special_Div, st_bs2, repA_2, o1, i1_20, i1_21, rp_0, rp_1, i1, h2, h4, n0]) | (simp (maxSteps := 1000000) (disch := first | with_reducible assumption | omega) only [dxB]) | (simp only [kI_d, kG_dt, kG_df]; split) | (simp only [kI_v, kG_vt, kG_vf]; split))
    · rw [if_neg k4]
      have e4 : ¬ x = 4 := fun h => k4 (Or.inl h)
      have f4 : ¬ y = 4 := fun h => k4 (Or.inr h)
      by_cases k1 : x = y
      · rw [if_pos k1]
        subst k1
        clear hx1
        simp only [zA, zrA, im2, cast0, Bool.not_false, Int.cast_ofNat_Int] at *
        by_cases h2 : x ≤ 2
        · have h3 : ¬ x = 2 := by omega
          repeat' (first | (simp (maxSteps := 1000000) only [seval, evB, exB, c_special_Div, st_bs2, repA_2, o1, i1_20, i1_21, rp_0, rp_1, i1, h2, h3, e4, n1]) | (simp (maxSteps := 1000000) (disch := first | with_reducible assumption | omega) only [dxB]) | (simp only [kI_d, kG_dt, kG_df]; split) | (simp only [kI_v, kG_vt, kG_vf]; split))
        · repeat' (first | (simp (maxSteps := 1000000) only [seval, evB, exB, c_special_Div, st_bs2, repA_2, o1, i1_20, i1_21, rp_0, rp_1, i1, h2, e4, n1]) | (simp (maxSteps := 1000000) (disch := first | with_reducible assumption | omega) only [dxB]) | (simp only [kI_d, kG_dt, kG_df]; split) | (simp only [kI_v, kG_vt, kG_vf]; split))
      · rw [if_neg k1]
        have k1' : ¬ y = x := fun h => k1 h.symm
        by_cases y3 : y = 3
        · subst y3
          rw [if_pos rfl]
          have x2 : x ≤ 2 := by omega
          rw [if_neg (by decide)] at hx1
          injection hx1 with hr1 hr2
          subst hr1 hr2
          clear k4 k0 hk ra rc
          simp only [zA, zrA, im2, cast0, boxA, sideA, Bool.not_false] at *
          repeat' (first | (simp (maxSteps := 1000000) only [seval, evB, exB, c_special_Div, st_bs2, repA_2, ia22_0, ia22_1, o1, i1_20, i1_21, rp_0, rp_1, i1, x2, e4, k1, b1, b2, mi, t1, w0]) | (simp (maxSteps := 1000000) (disch := first | with_reducible assumption | omega) only [dxB]) | (simp only [kI_d, kG_dt, kG_df]; split) | (simp only [kI_v, kG_vt, kG_vf]; split))
        · rw [if_neg y3]
          by_cases y1 : y = 1
          · subst y1
            have x1 : ¬ x = 1 := k1
            rw [if_pos rfl] at hx1
            injection hx1 with hr1 hr2
            simp only at hr1 hr2
            subst hr2
            clear k4 k0 rc
            cases r2
            · simp only [Bool.false_eq_true, if_false] at hr1
              subst hr1
              by_cases x3 : x = 3
              · subst x3
                rw [if_pos rfl]
                simp only [zA, zrA, im2, cast0, boxA, sideA, Bool.not_false] at *
                repeat' (first | (simp (maxSteps := 1000000) only [seval, evB, exB, c_special_Div, st_bs2, repA_2, ia22_0, ia22_1, o1, i1_20, i1_21, rp_0, rp_1, i1, b1, b2, mi, t1, w1]) | (simp (maxSteps := 1000000) (disch := first | with_reducible assumption | omega) only [dxB]) | (simp only [kI_d, kG_dt, kG_df]; split) | (simp only [kI_v, kG_vt, kG_vf]; split))
              · rw [if_neg x3]
                have x2 : x ≤ 2 := by omega
                simp only [zA, zrA, im2, cast0, boxA, sideA, Bool.not_false, Int.cast_ofNat_Int] at *
                repeat' (first | (simp (maxSteps := 1000000) only [seval, evB, exB, c_special_Div, st_bs2, repA_2, ia22_0, ia22_1, o1, i1_20, i1_21, rp_0, rp_1, i1, x2, x1, x3, e4, b1, b2, mi, t1, w1]) | (simp (maxSteps := 1000000) (disch := first | with_reducible assumption | omega) only [dxB]) | (simp only [kI_d, kG_dt, kG_df]; split) | (simp only [kI_v, kG_vt, kG_vf]; split))
            · simp only [if_true] at hr1
              subst hr1
              by_cases x3 : x = 3
              · subst x3
                rw [if_pos rfl]
                simp only [zA, zrA, im2, cast0, boxA, sideA, Bool.not_false] at *
                repeat' (first | (simp (maxSteps := 1000000) only [seval, evB, exB, c_special_Div, st_bs2, repA_2, ia22_0, ia22_1, o1, i1_20, i1_21, rp_0, rp_1, i1, b1, b2, mi, t1, w1]) | (simp (maxSteps := 1000000) (disch := first | with_reducible assumption | omega) only [dxB]) | (simp only [kI_d, kG_dt, kG_df]; split) | (simp only [kI_v, kG_vt, kG_vf]; split))
              · rw [if_neg x3]
                have x2 : x ≤ 2 := by omega
                simp only [zA, zrA, im2, cast0, boxA, sideA, Bool.not_false, Int.cast_ofNat_Int] at *
                repeat' (first | (simp (maxSteps := 1000000) only [seval, evB, exB, c_special_Div, st_bs2, repA_2, ia22_0, ia22_1, o1, i1_20, i1_21, rp_0, rp_1, i1, x2, x1, x3, e4, b1, b2, mi, t1, w1]) | (simp (maxSteps := 1000000) (disch := first | with_reducible assumption | omega) only [dxB]) | (simp only [kI_d, kG_dt, kG_df]; split) | (simp only [kI_v, kG_vt, kG_vf]; split))
          · have y2 : y = 2 := by omega
            subst y2
            have x3 : x = 3 := by omega
            subst x3
            rw [if_pos rfl]
            rw [if_neg (by decide)] at hx1
            injection hx1 with hr1 hr2
            subst hr1 hr2
            clear k4 k0 hk ra rc
            simp only [zA, zrA, im2, cast0, boxA, sideA, Bool.not_false] at *
            repeat' (first | (simp (maxSteps := 1000000) only [seval, evB, exB, c_special_Div, st_bs2, repA_2, ia22_0, ia22_1, o1, i1_20, i1_21, rp_0, rp_1, i1, b1, b2, mi, t1, w1]) | (simp (maxSteps := 1000000) (disch := first | with_reducible assumption | omega) only [dxB]) | (simp only [kI_d, kG_dt, kG_df]; split) | (simp only [kI_v, kG_vt, kG_vf]; split))
theorem ref_can_bw (F : Fm) {p : Int × Bool} (hp : SdC p) : F.can (bw F p) = bw F p ∧ F.min (bw F p) = bw F (sM p) := by
  have h := fin_iff.1 (bw_facts F hp).2.2.1
  unfold Fm.can Fm.min
  rw [if_neg (by omega), if_neg (by omega), bw_flip F hp]; exact ⟨rfl, rfl⟩
theorem bxd_one (F : Fm) {c d : Nat} (h : zcl (F.cls c) (F.cls d) = 1) : bw F (bxd F c d).1 = F.one + F.sgn (F.ng c) := by
  have hc : F.cls c = 1 ∧ F.cls d = 1 := by
    unfold zcl at h
    by_cases q : F.cls c = 4 ∨ F.cls d = 4
    · rw [if_pos q] at h; omega
    · rw [if_neg q] at h
      by_cases r : F.cls c = 5 ∨ F.cls d = 5
      · rw [if_pos r] at h; omega
      · rw [if_neg r] at h
        by_cases s : F.cls c = 1 ∧ F.cls d = 1
        · exact s
        · rw [if_neg s] at h; omega
  have hs : (bx F c d).1 = (0, F.ng c) := by
    unfold bx sd
    rw [h, hc.1]; simp
  unfold bxd bw
  simp only [if_pos h, hs]
  cases F.ng c <;> simp
set_option maxHeartbeats 16000000 in
theorem ref11_Div (J : Al G T g) (F : Fm) {md : Int} (hm : 1 ≤ md ∧ md ≤ 5) {a b c d : Nat} (ha : a < 2 * F.sg) (hb : b < 2 * F.sg) (hc : c < 2 * F.sg) (hd : d < 2 * F.sg) :
    run G T 280 [.int .u8 F.u, .int .u8 md, zA a b, zA c d] = some (.tup [zrA (sdW F md a b c d).1 (sdW F md a b c d).2, .bool (sdS F a b c d)]) := by
  rw [run_k G T J.J.ref11_Div]
  have c1 := ref10_Class J F ha hb
  have c2 := ref10_Class J F hc hd
  have f1 := ref10_Finite J F ha hb
  have n0 := ref11_nothing J F (x := 0)
  have n1 := ref11_nothing J F (x := 1)
  have b1 := fun h => ref11_Box J F ha hb h
  have b2 := fun h => ref11_Box J F hc hd h
  have i1 := ref03_Inf J F (n := false)
  have sp := ref03_Split J F (sg_64 hc)
  have on := ref11_One J F (n := F.ng c)
  obtain ⟨dc1, dc2⟩ := bxd_c F c d
  have cj := ref10_Conj J F (bw_facts F dc1).1 (bw_facts F (bx_c F c d).2).1
  rw [(ref_can_bw F dc1).1, (ref_can_bw F (bx_c F c d).2).2, show sM (bx F c d).2 = (bxd F c d).2 from rfl] at cj
  have t1 := ref11_product J F hm (bx_c F a b).1 (bx_c F a b).2 dc1 dc2
  have w := fun (to : Nat) => ref11_turned J F (to := to) (bw_add F md (sT_c (bx_c F a b).1 dc1) (sM_c (sT_c (bx_c F a b).2 dc2))).1 (bw_add F md (sT_c (bx_c F a b).1 dc2) (sT_c (bx_c F a b).2 dc1)).1
  have w1 := w (F.inf false)
  have w0 := w 0
  clear w
  rw [trn_side F md (Or.inr rfl) (sT_c (bx_c F a b).1 dc1) (sM_c (sT_c (bx_c F a b).2 dc2)), trn_side F md (Or.inr rfl) (sT_c (bx_c F a b).1 dc2) (sT_c (bx_c F a b).2 dc1)] at w1
  rw [trn_side F md (Or.inl rfl) (sT_c (bx_c F a b).1 dc1) (sM_c (sT_c (bx_c F a b).2 dc2)), trn_side F md (Or.inl rfl) (sT_c (bx_c F a b).1 dc2) (sT_c (bx_c F a b).2 dc1)] at w0
  rw [show sP md (sT (bx F a b).1 (bxd F c d).1) (sM (sT (bx F a b).2 (bxd F c d).2)) = (sdP F md a b c d).1 from rfl, show sP md (sT (bx F a b).1 (bxd F c d).2) (sT (bx F a b).2 (bxd F c d).1) = (sdP F md a b c d).2 from rfl] at w1 w0
  rw [show sd F a (decide (zcl (F.cls a) (F.cls b) = 3)) = (bx F a b).1 from rfl, show sd F b (decide (zcl (F.cls a) (F.cls b) = 3)) = (bx F a b).2 from rfl] at b1
  rw [show sd F c (decide (zcl (F.cls c) (F.cls d) = 3)) = (bx F c d).1 from rfl, show sd F d (decide (zcl (F.cls c) (F.cls d) = 3)) = (bx F c d).2 from rfl] at b2
  have ra := zcl_range F a b
  have rc := zcl_range F c d
  have fa := zcl_fin2 F (a := a) (b := b)
  have h11 := bxd_one F (c := c) (d := d)
  have h12 : zcl (F.cls c) (F.cls d) ≠ 1 → bw F (bx F c d).1 = bw F (bxd F c d).1 := fun h => by unfold bxd; simp only [if_neg h]
  unfold sdW sdS
  generalize (addW F md (bw F (sT (bx F a b).1 (bxd F c d).1)) (bw F (sM (sT (bx F a b).2 (bxd F c d).2)))).1 = u1 at *
  generalize (addW F md (bw F (sT (bx F a b).1 (bxd F c d).2)) (bw F (sT (bx F a b).2 (bxd F c d).1))).1 = u2 at *
  generalize sdP F md a b c d = P at *
  generalize F.one + F.sgn (F.ng c) = one at *
  generalize F.ng c = nc at *
  generalize F.ex c = xc at *
  generalize F.fc c = yc at *
  generalize bw F (bx F a b).1 = p1 at *
  generalize bw F (bx F a b).2 = p2 at *
  generalize bw F (bx F c d).1 = q1 at *
  generalize bw F (bx F c d).2 = q2 at *
  generalize bw F (bxd F c d).1 = r1 at *
  generalize bw F (bxd F c d).2 = r2 at *
  generalize zcl (F.cls a) (F.cls b) = x at *
  generalize zcl (F.cls c) (F.cls d) = y at *
  have f1 : (x ≤ 2 ∧ run G T 250 [.int .u8 F.u, zA a b] = some (.bool true)) ∨ (¬ x ≤ 2 ∧ run G T 250 [.int .u8 F.u, zA a b] = some (.bool false)) := by
    by_cases h : x ≤ 2
    · rw [decide_eq_true (fa.2 h)] at f1; exact Or.inl ⟨h, f1⟩
    · rw [decide_eq_false (fun q => h (fa.1 q))] at f1; exact Or.inr ⟨h, f1⟩
  clear fa
  by_cases k0 : x ≤ 2 ∧ y = 2
  · obtain ⟨x2, rfl⟩ := k0
    rw [if_pos ⟨x2, rfl⟩, decide_eq_true (show x ≤ 2 ∧ (2 : Int) = 2 from ⟨x2, rfl⟩)]
    rcases f1 with ⟨_, f1⟩ | ⟨h, _⟩
    · simp only [zA, zrA, cast0, Bool.not_true] at *
      repeat' (first | (simp (maxSteps := 1000000) only [seval, evB, exB, c_ref11_Div, c1, c2, f1]) | (simp (maxSteps := 1000000) (disch := first | with_reducible assumption | omega) only [dxB]) | (simp only [kI_d, kG_dt, kG_df]; split) | (simp only [kI_v, kG_vt, kG_vf]; split))
    · exact absurd x2 h
  · rw [if_neg k0, decide_eq_false k0]
    by_cases k4 : x = 4 ∨ y = 4
    · rw [if_pos k4]
      clear b1 b2 h11 h12
      simp only [zA, zrA, cast0, Bool.not_false] at *
      by_cases h4 : x = 4
      · subst h4
        rcases f1 with ⟨h, _⟩ | ⟨_, f1⟩
        · exact absurd h (by decide)
        · repeat' (first | (simp (maxSteps := 1000000) only [seval, evB, exB, c_ref11_Div, c1, c2, f1, n0]) | (simp (maxSteps := 1000000) (disch := first | with_reducible assumption | omega) only [dxB]) | (simp only [kI_d, kG_dt, kG_df]; split) | (simp only [kI_v, kG_vt, kG_vf]; split))
      · have h5 : y = 4 := by omega
        subst h5
        rcases f1 with ⟨_, f1⟩ | ⟨_, f1⟩ <;> repeat' (first | (simp (maxSteps := 1000000) only [seval, evB, exB, c_ref11_Div, c1, c2, f1, h4, n0]) | (simp (maxSteps := 1000000) (disch := first | with_reducible assumption | omega) only [dxB]) | (simp only [kI_d, kG_dt, kG_df]; split) | (simp only [kI_v, kG_vt, kG_vf]; split))
    · rw [if_neg k4]
      have e4 : ¬ x = 4 := fun h => k4 (Or.inl h)
      have f4 : ¬ y = 4 := fun h => k4 (Or.inr h)
      have b1 := b1 e4
      have b2 := b2 f4
      by_cases k1 : x = y
      · rw [if_pos k1]
        subst k1
        have x2 : ¬ x = 2 := fun h => k0 ⟨by omega, h⟩
        clear h11 h12 k0 k4
        simp only [zA, zrA, cast0, Bool.not_false, Int.cast_ofNat_Int] at *
        rcases f1 with ⟨_, f1⟩ | ⟨_, f1⟩ <;> repeat' (first | (simp (maxSteps := 1000000) only [seval, evB, exB, c_ref11_Div, c1, c2, f1, e4, x2, n1]) | (simp (maxSteps := 1000000) (disch := first | with_reducible assumption | omega) only [dxB]) | (simp only [kI_d, kG_dt, kG_df]; split) | (simp only [kI_v, kG_vt, kG_vf]; split))
      · rw [if_neg k1]
        by_cases y3 : y = 3
        · subst y3
          rw [if_pos rfl]
          have e := h12 (by decide)
          subst e
          clear h11 h12 k0 k4 ra rc
          simp only [zA, zrA, cast0, Bool.not_false] at *
          rcases f1 with ⟨_, f1⟩ | ⟨_, f1⟩ <;> repeat' (first | (simp (maxSteps := 1000000) only [seval, evB, exB, c_ref11_Div, c1, c2, f1, e4, k1, b1, b2, cj, t1, w0]) | (simp (maxSteps := 1000000) (disch := first | with_reducible assumption | omega) only [dxB]) | (simp only [kI_d, kG_dt, kG_df]; split) | (simp only [kI_v, kG_vt, kG_vf]; split))
        · rw [if_neg y3]
          by_cases y1 : y = 1
          · subst y1
            have e := h11 rfl
            subst e
            clear h11 h12 k0 k4 rc
            by_cases x3 : x = 3
            · subst x3
              rw [if_pos rfl]
              simp only [zA, zrA, fldA, cast0, Bool.not_false] at *
              rcases f1 with ⟨h, _⟩ | ⟨_, f1⟩
              · exact absurd h (by decide)
              · repeat' (first | (simp (maxSteps := 1000000) only [seval, evB, exB, c_ref11_Div, fd_3, c1, c2, f1, sp, on, b1, b2, cj, t1, i1, w1]) | (simp (maxSteps := 1000000) (disch := first | with_reducible assumption | omega) only [dxB]) | (simp only [kI_d, kG_dt, kG_df]; split) | (simp only [kI_v, kG_vt, kG_vf]; split))
            · rw [if_neg x3]
              simp only [zA, zrA, fldA, cast0, Bool.not_false, Int.cast_ofNat_Int] at *
              rcases f1 with ⟨_, f1⟩ | ⟨_, f1⟩ <;> repeat' (first | (simp (maxSteps := 1000000) only [seval, evB, exB, c_ref11_Div, fd_3, c1, c2, f1, e4, k1, x3, sp, on, b1, b2, cj, t1, i1, w1]) | (simp (maxSteps := 1000000) (disch := first | with_reducible assumption | omega) only [dxB]) | (simp only [kI_d, kG_dt, kG_df]; split) | (simp only [kI_v, kG_vt, kG_vf]; split))
          · have y2 : y = 2 := by omega
            subst y2
            have x3 : x = 3 := by omega
            subst x3
            rw [if_pos rfl]
            have e := h12 (by decide)
            subst e
            clear h11 h12 k0 k4 ra rc
            simp only [zA, zrA, cast0, Bool.not_false] at *
            rcases f1 with ⟨h, f1⟩ | ⟨_, f1⟩
            · omega
            · repeat' (first | (simp (maxSteps := 1000000) only [seval, evB, exB, c_ref11_Div, c1, c2, f1, b1, b2, cj, t1, i1, w1]) | (simp (maxSteps := 1000000) (disch := first | with_reducible assumption | omega) only [dxB]) | (simp only [kI_d, kG_dt, kG_df]; split) | (simp only [kI_v, kG_vt, kG_vf]; split))
end Go.Cv
namespace Go.Cv
variable {G : Nat → Option (List AV)} {T : Tbl} {g : Nat}
theorem DyA_nil : DyA true ⟨false, 0, 0⟩ = .agg [.bool false, .nil, .int .i64 0] := by simp only [DyA, A3, dl_zero, D_nil.symm]
theorem ref12_neg (J : Al G T g) (F : Fm) {w : Nat} (hw : w < 2 * F.sg) : run G T 306 [.int .u8 F.u, .int .u64 (w : Int)] = some (.bool (F.ng w)) := by
  rw [run_k G T J.J.ref12_neg]
  have h2 := ref03_Split J F (sg_64 hw)
  generalize F.ng w = n at *
  simp only [fldA] at *
  repeat' (first | (simp (maxSteps := 1000000) only [seval, evB, exB, c_ref12_neg, fd_3, h2]) | (simp (maxSteps := 1000000) (disch := first | with_reducible assumption | omega) only [dxB]) | (simp only [kI_d, kG_dt, kG_df]; split) | (simp only [kI_v, kG_vt, kG_vf]; split))
theorem ref_mul (J : Al G T g) {z y : Bool} {a b : Dy} (ha : Bd a 16384) (hb : Bd b 16384) : ∃ z', run G T 154 [DyA z a, DyA y b] = some (DyA z' (mulD a b)) := by
  obtain ⟨p1, p2, p3⟩ := ha
  obtain ⟨q1, q2, q3⟩ := hb
  have l1 := dl_len_blen a.m
  have l2 := dl_len_blen b.m
  exact ref02_Mul J (z := z) (y := y) (a := a) (b := b) (by omega) (by omega) (by omega) (by omega)
theorem ref12_times (J : Al G T g) (F : Fm) {a b : Nat} {minus : Bool} (ha : a < 2 * F.sg) (hb : b < 2 * F.sg) (fa : F.fin a) (fb : F.fin b) :
    ∃ z, run G T 301 [.int .u8 F.u, .int .u64 (a : Int), .int .u64 (b : Int), .bool minus] = some (numA z (tm F a b minus)) := by
  apply exP
  rw [run_k G T J.J.ref12_times]
  obtain ⟨z1, v1⟩ := ref03_Value J F (sg_64 ha) fa
  obtain ⟨z2, v2⟩ := ref03_Value J F (sg_64 hb) fb
  rw [← vl_val fa] at v1
  rw [← vl_val fb] at v2
  obtain ⟨z3, m1⟩ := ref_mul J (z := z1) (y := z2) ((Bd_vl F a).mono (by decide)) ((Bd_vl F b).mono (by decide))
  have n1 := ref02_Neg J (z := z3) (d := mulD (F.vl a) (F.vl b))
  have g1 := ref12_neg J F ha
  have g2 := ref12_neg J F hb
  unfold tm
  generalize negD (mulD (F.vl a) (F.vl b)) = e at *
  generalize mulD (F.vl a) (F.vl b) = d at *
  generalize F.vl a = va at *
  generalize F.vl b = vb at *
  generalize F.ng a = na at *
  generalize F.ng b = nb at *
  have q1 : ((na != nb) != true) = decide (na = nb) := by cases na <;> cases nb <;> rfl
  have q2 : ((na != nb) != false) = !decide (na = nb) := by cases na <;> cases nb <;> rfl
  simp only [DyA, A3, numA] at *
  cases minus
  · rw [q2]
    simp only [Bool.false_eq_true, if_false]
    repeat' (first | (simp (maxSteps := 1000000) only [seval, evB, exB, c_ref12_times, v1, v2, m1, g1, g2]) | (simp (maxSteps := 1000000) (disch := first | with_reducible assumption | omega) only [dxB]) | (simp only [kI_d, kG_dt, kG_df]; split) | (simp only [kI_v, kG_vt, kG_vf]; split))
    all_goals exact ⟨_, rfl, z3, by cases na <;> cases nb <;> rfl⟩
  · rw [q1]
    simp only [if_true]
    repeat' (first | (simp (maxSteps := 1000000) only [seval, evB, exB, c_ref12_times, v1, v2, m1, n1, g1, g2]) | (simp (maxSteps := 1000000) (disch := first | with_reducible assumption | omega) only [dxB]) | (simp only [kI_d, kG_dt, kG_df]; split) | (simp only [kI_v, kG_vt, kG_vf]; split))
    all_goals exact ⟨_, rfl, z3, by cases na <;> cases nb <;> rfl⟩
def cellsN (z : Bool) (x : Dy × Bool) : List AV := [.bool x.1.n, D z (dl x.1.m), .int .i64 x.1.e, .bool x.2]
theorem su_loop (e : Env) (h : Heap) : evL G T c_ref12_Sum_l1 e h = kS G T (evL G T c_ref12_Sum_b1 (keepE [0, 1, 4, 6, 7, 8] e) h) c_ref12_Sum_l1 := s_loopc G T rfl e h
section
variable (a1 a2 a3 a4 b1 b2 b3 b4 c1 c2 c3 c4 : AV) (k : IntKind) (h : Mem) (l : List AV)
theorem i4_20 : iaddrV 4 (.imm 2 [a1, a2, a3, a4, b1, b2, b3, b4]) (.int k 0) = some (.iptr [a1, a2, a3, a4, b1, b2, b3, b4] 0) := rfl
theorem i4_21 : iaddrV 4 (.imm 2 [a1, a2, a3, a4, b1, b2, b3, b4]) (.int k 1) = some (.iptr [a1, a2, a3, a4, b1, b2, b3, b4] 4) := rfl
theorem r3_0 : rdAt G h 3 (.iptr (a1 :: a2 :: a3 :: l) 0) = some [a1, a2, a3] := by simp [rdAt]
theorem r3_4 : rdAt G h 3 (.iptr (a1 :: a2 :: a3 :: a4 :: b1 :: b2 :: b3 :: l) 4) = some [b1, b2, b3] := by simp [rdAt]
theorem r1_3 : rdAt G h 1 (.iptr (a1 :: a2 :: a3 :: a4 :: l) 3) = some [a4] := by simp [rdAt]
theorem r1_7 : rdAt G h 1 (.iptr (a1 :: a2 :: a3 :: a4 :: b1 :: b2 :: b3 :: b4 :: l) 7) = some [b4] := by simp [rdAt]
end
theorem addD_nil (d : Dy) : addD ⟨false, 0, 0⟩ d = d := by unfold addD; rw [if_pos rfl]
theorem sgn_cases (d : Dy) : (d.m = 0 ∧ sgnD d = 0) ∨ (d.m ≠ 0 ∧ ¬ sgnD d = 0) := by
  by_cases h : d.m = 0
  · exact Or.inl ⟨h, sgnD_zero.2 h⟩
  · exact Or.inr ⟨h, fun q => h (sgnD_zero.1 q)⟩
set_option maxHeartbeats 8000000 in
theorem ref12_Sum2 (J : Al G T g) {md : Int} {z y : Bool} {x w : Dy × Bool} (hx : Bd x.1 1073741824) (hw : Bd w.1 1073741824) :
    ∃ z', run G T 275 [.int .u8 md, .imm 2 (cellsN z x ++ cellsN y w)] = some (.tup [DyA z' (addD x.1 w.1), .bool (zsg md x w)]) := by
  rw [run_k G T J.J.ref12_Sum]
  obtain ⟨z1, d1⟩ := ref02_Add J (z := true) (y := z) (a := ⟨false, 0, 0⟩) (b := x.1) ⟨by simp only [blen_zero]; omega, by simp, by simp⟩ (hx.mono (by decide))
  rw [addD_nil, DyA_nil] at d1
  obtain ⟨z2, d2⟩ := ref02_Add J (z := z1) (y := y) (a := x.1) (b := w.1) (hx.mono (by decide)) (hw.mono (by decide))
  have s1 := ref02_Sign J (z := z) (d := x.1)
  have s2 := ref02_Sign J (z := y) (d := w.1)
  refine ⟨z2, ?_⟩
  unfold zsg cellsN
  have c1 := sgn_cases x.1
  have c2 := sgn_cases w.1
  generalize addD x.1 w.1 = s at *
  clear hx hw
  obtain ⟨d, n⟩ := x
  obtain ⟨e, k⟩ := w
  simp only at *
  rcases c1 with ⟨c1, q1⟩ | ⟨c1, q1⟩
  · rw [q1] at s1
    rcases c2 with ⟨c2, q2⟩ | ⟨c2, q2⟩
    · rw [q2] at s2
      by_cases hk : k = n
      · subst hk
        rw [if_pos ⟨c1, c2, rfl⟩]
        simp only [DyA, A3, List.cons_append, List.nil_append] at *
        repeat' (first | (simp (maxSteps := 1000000) only [seval, evB, exB, c_ref12_Sum, apart_ip, su_loop, c_ref12_Sum_b1, i4_20, i4_21, fa_i, r3_0, r3_4, r1_3, r1_7, wr_1, wr1, wr_2, wr2, d1, d2, s1, s2]) | (simp (maxSteps := 1000000) (disch := first | with_reducible assumption | omega) only [dxB]) | (simp only [kI_d, kG_dt, kG_df]; split) | (simp only [kI_v, kG_vt, kG_vf]; split))
      · rw [if_neg (fun h => hk h.2.2.symm)]
        simp only [DyA, A3, List.cons_append, List.nil_append] at *
        repeat' (first | (simp (maxSteps := 1000000) only [seval, evB, exB, c_ref12_Sum, apart_ip, su_loop, c_ref12_Sum_b1, i4_20, i4_21, fa_i, r3_0, r3_4, r1_3, r1_7, wr_1, wr1, wr_2, wr2, d1, d2, s1, s2, hk]) | (simp (maxSteps := 1000000) (disch := first | with_reducible assumption | omega) only [dxB]) | (simp only [kI_d, kG_dt, kG_df]; split) | (simp only [kI_v, kG_vt, kG_vf]; split))
    · rw [if_neg (fun h => c2 h.2.1)]
      generalize sgnD e = t at *
      simp only [DyA, A3, List.cons_append, List.nil_append] at *
      repeat' (first | (simp (maxSteps := 1000000) only [seval, evB, exB, c_ref12_Sum, apart_ip, su_loop, c_ref12_Sum_b1, i4_20, i4_21, fa_i, r3_0, r3_4, r1_3, r1_7, wr_1, wr1, wr_2, wr2, d1, d2, s1, s2, q2]) | (simp (maxSteps := 1000000) (disch := first | with_reducible assumption | omega) only [dxB]) | (simp only [kI_d, kG_dt, kG_df]; split) | (simp only [kI_v, kG_vt, kG_vf]; split))
  · rw [if_neg (fun h => c1 h.1)]
    generalize sgnD d = t at *
    simp only [DyA, A3, List.cons_append, List.nil_append] at *
    repeat' (first | (simp (maxSteps := 1000000) only [seval, evB, exB, c_ref12_Sum, apart_ip, su_loop, c_ref12_Sum_b1, i4_20, i4_21, fa_i, r3_0, r3_4, r1_3, r1_7, wr_1, wr1, wr_2, wr2, d1, d2, s1, q1]) | (simp (maxSteps := 1000000) (disch := first | with_reducible assumption | omega) only [dxB]) | (simp only [kI_d, kG_dt, kG_df]; split) | (simp only [kI_v, kG_vt, kG_vf]; split))
theorem ref12_rounded (J : Al G T g) (F : Fm) {md : Int} (hm : 1 ≤ md ∧ md ≤ 5) {z y s : Bool} {d b : Dy} (hd : Bd d 65537) (hb : Bd b 65537) (b0 : b.m ≠ 0) :
    run G T 276 [.int .u8 F.u, .int .u8 md, DyA z d, .bool s, DyA y b] = some (.tup [.int .u64 ((ptQ F md d s b).1 : Int), .int .u8 ((ptQ F md d s b).2 : Int)]) := by
  rw [run_k G T J.J.ref12_rounded]
  have s1 := ref02_Sign J (z := z) (d := d)
  have c1 := sgn_cases d
  unfold ptQ
  rcases c1 with ⟨c1, q1⟩ | ⟨c1, q1⟩
  · rw [q1] at s1
    rw [if_pos c1]
    have w1 := ref03_Signed J F (n := s) (w := 0)
    rw [Nat.zero_mod, Nat.zero_add] at w1
    generalize F.sgn s = S at *
    simp only [DyA, A3, cast0] at *
    repeat' (first | (simp (maxSteps := 1000000) only [seval, evB, exB, c_ref12_rounded, s1, w1]) | (simp (maxSteps := 1000000) (disch := first | with_reducible assumption | omega) only [dxB]) | (simp only [kI_d, kG_dt, kG_df]; split) | (simp only [kI_v, kG_vt, kG_vf]; split))
  · rw [if_neg c1]
    have hbl := hd.bl
    have hbb := hb.bl
    have r1 := ref04_Quo J F hm (z := z) (y := y) c1 b0 (hd.mono (by decide)) (hb.mono (by decide)) (by omega) (by omega)
    generalize quoW F md d b = S at *
    generalize sgnD d = t at *
    simp only [DyA, A3] at *
    repeat' (first | (simp (maxSteps := 1000000) only [seval, evB, exB, c_ref12_rounded, s1, q1, r1]) | (simp (maxSteps := 1000000) (disch := first | with_reducible assumption | omega) only [dxB]) | (simp only [kI_d, kG_dt, kG_df]; split) | (simp only [kI_v, kG_vt, kG_vf]; split))
end Go.Cv
namespace Go.Cv
variable {G : Nat → Option (List AV)} {T : Tbl} {g : Nat}
def tw (F : Fm) (md : Int) (x y : Dy × Bool) (b : Dy) : Nat × Nat := ptQ F md (addD x.1 y.1) (zsg md x y) b
theorem tw_comm (F : Fm) (md : Int) {x y : Dy × Bool} {b : Dy} (hx : Nz x.1) (hy : Nz y.1) : tw F md x y b = tw F md y x b := by
  unfold tw zsg
  rw [addD_comm hx hy]
  by_cases h : x.1.m = 0 ∧ y.1.m = 0 ∧ x.2 = y.2
  · rw [if_pos h, if_pos ⟨h.2.1, h.1, h.2.2.symm⟩, h.2.2]
  · rw [if_neg h, if_neg (fun q => h ⟨q.2.1, q.1, q.2.2.symm⟩)]
theorem tw_s (F : Fm) (md : Int) {x y : Dy × Bool} {b : Dy} {s : Bool} (h : (addD x.1 y.1).m = 0 → s = zsg md x y) : ptQ F md (addD x.1 y.1) s b = tw F md x y b := by
  unfold tw ptQ
  by_cases h0 : (addD x.1 y.1).m = 0
  · rw [if_pos h0, if_pos h0, h h0]
  · rw [if_neg h0, if_neg h0]
theorem negD_negD {d : Dy} : negD (negD d) = d := by
  unfold negD
  by_cases h : d.m = 0
  · rw [if_pos h, if_pos h]
  · rw [if_neg h, if_neg h]; simp
def mulR (F : Fm) (md : Int) (a b c d : Nat) : (Nat × Nat) × (Nat × Nat) := (tw F md (tm F a c false) (tm F b d true) oneD, tw F md (tm F a d false) (tm F b c false) oneD)
def divR (F : Fm) (md : Int) (a b c d : Nat) : (Nat × Nat) × (Nat × Nat) := (tw F md (tm F a c false) (tm F b d false) (sqD F c d), tw F md (tm F b c false) (tm F a d true) (sqD F c d))
def mulZ (F : Fm) (md : Int) (a b c d : Nat) : (Nat × Nat) × (Nat × Nat) := if smS F a b c d then smW F md a b c d else mulR F md a b c d
def divZ (F : Fm) (md : Int) (a b c d : Nat) : (Nat × Nat) × (Nat × Nat) := if sdS F a b c d then sdW F md a b c d else divR F md a b c d
theorem Nz_one : Nz oneD := ⟨fun h => absurd h (by decide), fun _ => rfl⟩
theorem Bd_one {K : Nat} (h : 1 ≤ K) : Bd oneD K := by
  have : blen 1 = 1 := by decide
  exact ⟨by show blen 1 ≤ K; omega, by show -(K : Int) ≤ 0; omega, by show (0 : Int) ≤ K; omega⟩
theorem sq_m0 (F : Fm) {c d : Nat} (hc : c < 2 * F.sg) (hd : d < 2 * F.sg) (h : zcl (F.cls c) (F.cls d) = 2) : (sqD F c d).m ≠ 0 := by
  have hf := zcl_fin2 F (a := c) (b := d)
  obtain ⟨fc, fd⟩ := hf.2 (by omega)
  intro h0
  obtain ⟨L, l1, l2⟩ : ∃ L : Int, LoE (F.vl c) L ∧ LoE (F.vl d) L := ⟨F.low, LoE_vl fc, LoE_vl fd⟩
  have e := iv_sq F l1 l2
  rw [iv_zero h0] at e
  have n1 := sq_nn (iv (F.vl c) L)
  have n2 := sq_nn (iv (F.vl d) L)
  have z : ∀ {w : Nat}, w < 2 * F.sg → F.fin w → LoE (F.vl w) L → iv (F.vl w) L * iv (F.vl w) L = 0 → F.cls w = 1 := fun {w} hw fw lw q => by
    have q0 : iv (F.vl w) L = 0 := by rcases Int.mul_eq_zero.1 q with q | q <;> exact q
    have := nz_eq (Nz_vl F w) (b := ⟨false, 0, 0⟩) ⟨fun _ => rfl, fun h => absurd rfl h⟩ lw (Or.inl rfl) (by rw [q0, iv_zero rfl])
    exact (cls_val1 hw fw).2 (by rw [this])
  have c1 := z hc fc l1 (by omega)
  have c2 := z hd fd l2 (by omega)
  unfold zcl at h
  rw [c1, c2] at h
  simp at h
set_option maxHeartbeats 8000000 in
theorem exact_Mul (J : Al G T g) (F : Fm) {md : Int} (hm : 1 ≤ md ∧ md ≤ 5) {a b c d : Nat} (ha : a < 2 * F.sg) (hb : b < 2 * F.sg) (hc : c < 2 * F.sg) (hd : d < 2 * F.sg) :
    run G T 252 [.int .u8 F.u, .int .u8 md, zA a b, zA c d] = some (.tup [zrA (mulZ F md a b c d).1 (mulZ F md a b c d).2, .int .i64 0]) := by
  rw [run_k G T J.J.exact_Mul]
  have s1 := special_Mul J F hm ha hb hc hd
  unfold mulZ
  by_cases hs : smS F a b c d = true
  · rw [if_pos hs]
    rw [hs] at s1
    generalize smW F md a b c d = S at *
    simp only [zA, zrA] at *
    repeat' (first | (simp (maxSteps := 1000000) only [seval, evB, exB, c_exact_Mul, s1]) | (simp (maxSteps := 1000000) (disch := first | with_reducible assumption | omega) only [dxB]) | (simp only [kI_d, kG_dt, kG_df]; split) | (simp only [kI_v, kG_vt, kG_vf]; split))
  · rw [if_neg hs]
    rw [Bool.not_eq_true] at hs
    rw [hs] at s1
    obtain ⟨z1, y1, g1⟩ := exact_gaussOf J F ha hb
    obtain ⟨z2, y2, g2⟩ := exact_gaussOf J F hc hd
    obtain ⟨z, y, s, t, t1, e1, e2⟩ := exact_work_times J F (md := md) (z1 := z1) (z2 := y1) (y1 := z2) (y2 := y2) (n1 := F.ng a) (n2 := F.ng b) (k1 := F.ng c) (k2 := F.ng d) (Nz_vl F a) (Nz_vl F b) (Nz_vl F c) (Nz_vl F d) (Bd_vl F a) (Bd_vl F b) (Bd_vl F c) (Bd_vl F d)
    obtain ⟨zo, i1⟩ := dyad_Int1 J
    have b1 := Bd_prod F a c
    have b2 := (Bd_prod F b d).neg
    have b3 := Bd_prod F a d
    have b4 := Bd_prod F b c
    have k1 := exact_work_both J F hm (z := z) (z' := y) (y := zo) (s := s) (t := t) (Nz_add (Nz_mul (F.vl a) (F.vl c)) (Nz_neg (Nz_mul (F.vl b) (F.vl d)))) (Nz_add (Nz_mul (F.vl a) (F.vl d)) (Nz_mul (F.vl b) (F.vl c))) Nz_one ((Bd_add b1 b2).mono (by decide)) ((Bd_add b3 b4).mono (by decide)) (Bd_one (by decide)) (by decide)
    have r1 : ptQ F md (addD (mulD (F.vl a) (F.vl c)) (negD (mulD (F.vl b) (F.vl d)))) s oneD = (mulR F md a b c d).1 := by
      have := tw_s F md (x := tm F a c false) (y := tm F b d true) (b := oneD) (s := s) (fun h => by
        have h2 := e1 h
        unfold tm
        simp only [Bool.false_eq_true, if_false, if_true, Bool.bne_false, Bool.bne_true]
        exact h2)
      exact this
    have r2 : ptQ F md (addD (mulD (F.vl a) (F.vl d)) (mulD (F.vl b) (F.vl c))) t oneD = (mulR F md a b c d).2 := by
      have := tw_s F md (x := tm F a d false) (y := tm F b c false) (b := oneD) (s := t) (fun h => by
        have h2 := e2 h
        unfold tm
        simp only [Bool.false_eq_true, if_false, Bool.bne_false]
        exact h2)
      exact this
    rw [r1, r2] at k1
    clear r1 r2 e1 e2 b1 b2 b3 b4
    generalize mulR F md a b c d = R at *
    generalize smW F md a b c d = S at *
    generalize addD (mulD (F.vl a) (F.vl c)) (negD (mulD (F.vl b) (F.vl d))) = X at *
    generalize addD (mulD (F.vl a) (F.vl d)) (mulD (F.vl b) (F.vl c)) = Y at *
    generalize oneD = one at *
    generalize F.vl a = va at *
    generalize F.vl b = vb at *
    generalize F.vl c = vc at *
    generalize F.vl d = vd at *
    generalize F.ng a = na at *
    generalize F.ng b = nb at *
    generalize F.ng c = nc at *
    generalize F.ng d = nd at *
    simp only [zA, zrA, gaussA, workA, DyA, A3] at *
    repeat' (first | (simp (maxSteps := 1000000) only [seval, evB, exB, c_exact_Mul, s1, g1, g2, t1, i1, k1]) | (simp (maxSteps := 1000000) (disch := first | with_reducible assumption | omega) only [dxB]) | (simp only [kI_d, kG_dt, kG_df]; split) | (simp only [kI_v, kG_vt, kG_vf]; split))
theorem fd4_3 (x y z w : AV) : fieldA true 0 3 (.agg [x, y, z, w]) = some (.agg [x, y, z]) := rfl
set_option maxHeartbeats 8000000 in
theorem exact_Div (J : Al G T g) (F : Fm) {md : Int} (hm : 1 ≤ md ∧ md ≤ 5) {a b c d : Nat} (ha : a < 2 * F.sg) (hb : b < 2 * F.sg) (hc : c < 2 * F.sg) (hd : d < 2 * F.sg) :
    run G T 257 [.int .u8 F.u, .int .u8 md, zA a b, zA c d] = some (.tup [zrA (divZ F md a b c d).1 (divZ F md a b c d).2, .int .i64 0]) := by
  rw [run_k G T J.J.exact_Div]
  have s1 := special_Div J F hm ha hb hc hd
  unfold divZ
  by_cases hs : sdS F a b c d = true
  · rw [if_pos hs]
    rw [hs] at s1
    generalize sdW F md a b c d = S at *
    simp only [zA, zrA] at *
    repeat' (first | (simp (maxSteps := 1000000) only [seval, evB, exB, c_exact_Div, s1]) | (simp (maxSteps := 1000000) (disch := first | with_reducible assumption | omega) only [dxB]) | (simp only [kI_d, kG_dt, kG_df]; split) | (simp only [kI_v, kG_vt, kG_vf]; split))
  · rw [if_neg hs]
    have hz : zcl (F.cls c) (F.cls d) = 2 := by
      unfold sdS at hs
      simp only [Bool.not_eq_true', decide_eq_false_iff_not, Decidable.not_not] at hs
      exact hs.2
    have hq := sq_m0 F hc hd hz
    rw [Bool.not_eq_true] at hs
    rw [hs] at s1
    obtain ⟨z1, y1, g1⟩ := exact_gaussOf J F ha hb
    obtain ⟨z2, y2, g2⟩ := exact_gaussOf J F hc hd
    obtain ⟨u1, m1⟩ := exact_num_times J (z := z2) (y := z2) (n := F.ng c) (k := F.ng c) (Nz_vl F c) (Nz_vl F c) ((Bd_vl F c).mono (by decide)) ((Bd_vl F c).mono (by decide))
    obtain ⟨u2, m2⟩ := exact_num_times J (z := y2) (y := y2) (n := F.ng d) (k := F.ng d) (Nz_vl F d) (Nz_vl F d) ((Bd_vl F d).mono (by decide)) ((Bd_vl F d).mono (by decide))
    have bc := Bd_prod F c c
    have bd := Bd_prod F d d
    obtain ⟨u3, q1⟩ := dyad_Add J (z := u1) (y := u2) (bc.mono (by decide)) (bd.mono (by decide)) (mayD_nzb (Nz_mul (F.vl c) (F.vl c)) (bc.mono (by decide))) (mayD_nzb (Nz_mul (F.vl d) (F.vl d)) (bd.mono (by decide)))
    rw [show addD (mulD (F.vl c) (F.vl c)) (mulD (F.vl d) (F.vl d)) = sqD F c d from rfl] at q1
    obtain ⟨u4, n1⟩ := exact_num_minus J (z := y2) (n := F.ng d) (Nz_vl F d) ((Bd_vl F d).mono (by decide))
    obtain ⟨z, y, s, t, t1, e1, e2⟩ := exact_work_times J F (md := md) (z1 := z1) (z2 := y1) (y1 := z2) (y2 := u4) (n1 := F.ng a) (n2 := F.ng b) (k1 := F.ng c) (k2 := !F.ng d) (Nz_vl F a) (Nz_vl F b) (Nz_vl F c) (Nz_neg (Nz_vl F d)) (Bd_vl F a) (Bd_vl F b) (Bd_vl F c) (Bd_vl F d).neg
    simp only [mulD_neg, negD_negD] at t1 e1 e2
    have b1 := Bd_prod F a c
    have b2 := Bd_prod F b d
    have b3 := (Bd_prod F a d).neg
    have b4 := Bd_prod F b c
    have k1 := exact_work_both J F hm (z := z) (z' := y) (y := u3) (s := s) (t := t) (Nz_add (Nz_mul (F.vl a) (F.vl c)) (Nz_mul (F.vl b) (F.vl d))) (Nz_add (Nz_neg (Nz_mul (F.vl a) (F.vl d))) (Nz_mul (F.vl b) (F.vl c))) (Nz_sq F c d) ((Bd_add b1 b2).mono (by decide)) ((Bd_add b3 b4).mono (by decide)) ((Bd_add bc bd).mono (by decide)) hq
    have r1 : ptQ F md (addD (mulD (F.vl a) (F.vl c)) (mulD (F.vl b) (F.vl d))) s (sqD F c d) = (divR F md a b c d).1 := by
      have := tw_s F md (x := tm F a c false) (y := tm F b d false) (b := sqD F c d) (s := s) (fun h => by
        have h2 := e1 h
        unfold tm
        simp only [Bool.false_eq_true, if_false, Bool.bne_false]
        rw [show (F.ng b != F.ng d) = !(F.ng b != !F.ng d) by cases F.ng b <;> cases F.ng d <;> rfl]
        exact h2)
      exact this
    have r2 : ptQ F md (addD (negD (mulD (F.vl a) (F.vl d))) (mulD (F.vl b) (F.vl c))) t (sqD F c d) = (divR F md a b c d).2 := by
      have := tw_s F md (x := tm F a d true) (y := tm F b c false) (b := sqD F c d) (s := t) (fun h => by
        have h2 := e2 h
        unfold tm
        simp only [Bool.false_eq_true, if_false, if_true, Bool.bne_false, Bool.bne_true]
        rw [show (!(F.ng a != F.ng d)) = (F.ng a != !F.ng d) by cases F.ng a <;> cases F.ng d <;> rfl]
        exact h2)
      rw [show (divR F md a b c d).2 = tw F md (tm F b c false) (tm F a d true) (sqD F c d) from rfl, tw_comm F md (Bd_tm F b c false).2 (Bd_tm F a d true).2]
      exact this
    rw [r1, r2] at k1
    clear r1 r2 e1 e2 b1 b2 b3 b4 bc bd hq hz
    generalize divR F md a b c d = R at *
    generalize sdW F md a b c d = S at *
    generalize addD (mulD (F.vl a) (F.vl c)) (mulD (F.vl b) (F.vl d)) = X at *
    generalize addD (negD (mulD (F.vl a) (F.vl d))) (mulD (F.vl b) (F.vl c)) = Y at *
    generalize sqD F c d = by' at *
    generalize mulD (F.vl c) (F.vl c) = cc at *
    generalize mulD (F.vl d) (F.vl d) = dd at *
    generalize negD (F.vl d) = nvd at *
    generalize (!F.ng d) = nnd at *
    generalize (F.ng c != F.ng c) = x1 at *
    generalize (F.ng d != F.ng d) = x2 at *
    generalize F.vl a = va at *
    generalize F.vl b = vb at *
    generalize F.vl c = vc at *
    generalize F.vl d = vd at *
    generalize F.ng a = na at *
    generalize F.ng b = nb at *
    generalize F.ng c = nc at *
    generalize F.ng d = nd at *
    simp only [zA, zrA, gaussA, workA, numA, DyA, A3] at *
    repeat' (first | (simp (maxSteps := 1000000) only [seval, evB, exB, c_exact_Div, fd4_3, s1, g1, g2, m1, m2, q1, n1, t1, k1]) | (simp (maxSteps := 1000000) (disch := first | with_reducible assumption | omega) only [dxB]) | (simp only [kI_d, kG_dt, kG_df]; split) | (simp only [kI_v, kG_vt, kG_vf]; split))
theorem ref12_Quotient (J : Al G T g) (F : Fm) {a b c d : Nat} (ha : a < 2 * F.sg) (hb : b < 2 * F.sg) (hc : c < 2 * F.sg) (hd : d < 2 * F.sg) (fa : F.fin a) (fb : F.fin b) (fc : F.fin c) (fd : F.fin d) :
    ∃ z y u v w, run G T 281 [.int .u8 F.u, zA a b, zA c d] = some (.tup [gaussA z y (tm F a c false) (tm F b d false), gaussA u v (tm F b c false) (tm F a d true), DyA w (sqD F c d)]) := by
  rw [run_k G T J.J.ref12_Quotient]
  obtain ⟨z, h1⟩ := ref12_times J F (minus := false) ha hc fa fc
  obtain ⟨y, h2⟩ := ref12_times J F (minus := false) hb hd fb fd
  obtain ⟨u, h3⟩ := ref12_times J F (minus := false) hb hc fb fc
  obtain ⟨v, h4⟩ := ref12_times J F (minus := true) ha hd fa fd
  obtain ⟨z1, v1⟩ := ref03_Value J F (sg_64 hc) fc
  obtain ⟨z2, v2⟩ := ref03_Value J F (sg_64 hd) fd
  rw [← vl_val fc] at v1
  rw [← vl_val fd] at v2
  obtain ⟨z3, m1⟩ := ref_mul J (z := z1) (y := z1) ((Bd_vl F c).mono (by decide)) ((Bd_vl F c).mono (by decide))
  obtain ⟨z4, m2⟩ := ref_mul J (z := z2) (y := z2) ((Bd_vl F d).mono (by decide)) ((Bd_vl F d).mono (by decide))
  obtain ⟨z5, q1⟩ := ref02_Add J (z := z3) (y := z4) (a := mulD (F.vl c) (F.vl c)) (b := mulD (F.vl d) (F.vl d)) ((Bd_prod F c c).mono (by decide)) ((Bd_prod F d d).mono (by decide))
  rw [show addD (mulD (F.vl c) (F.vl c)) (mulD (F.vl d) (F.vl d)) = sqD F c d from rfl] at q1
  refine ⟨z, y, u, v, z5, ?_⟩
  generalize sqD F c d = q at *
  generalize mulD (F.vl c) (F.vl c) = cc at *
  generalize mulD (F.vl d) (F.vl d) = dd at *
  generalize F.vl c = vc at *
  generalize F.vl d = vd at *
  generalize tm F a c false = t1 at *
  generalize tm F b d false = t2 at *
  generalize tm F b c false = t3 at *
  generalize tm F a d true = t4 at *
  simp only [zA, gaussA, numA, DyA, A3] at *
  repeat' (first | (simp (maxSteps := 1000000) only [seval, evB, exB, c_ref12_Quotient, h1, h2, h3, h4, v1, v2, m1, m2, q1]) | (simp (maxSteps := 1000000) (disch := first | with_reducible assumption | omega) only [dxB]) | (simp only [kI_d, kG_dt, kG_df]; split) | (simp only [kI_v, kG_vt, kG_vf]; split))
theorem st_bs4 (F : CallF) (d : Option Nat) (os : List IOper) (e : Env) (h : Heap) (n : Nat) (zero : List AV) (ps : List (Nat × Nat × IOpd)) : evOps G F (⟨d, .bslice n 4 zero ps, none⟩ :: os) e h =
    kBs G F (fillA (repA n zero) (ps.map fun (o, n, x) => (o, n, opd e x))) (.own h.b.length 0 n 4) d os e h := st_bslice G F d os e h n 4 zero ps
theorem ia24_0 (b : Nat) (k : IntKind) : iaddrAV 2 4 (.ptr b 0) (.int k 0) = some (.ptr b 0) := rfl
theorem ia24_1 (b : Nat) (k : IntKind) : iaddrAV 2 4 (.ptr b 0) (.int k 1) = some (.ptr b 4) := rfl
def eqsA (neg : Bool) (ls : List Bool) : AV → AV → Option AV
  | .agg a, .agg b => if (kindsA ls a && kindsA ls b) = true then (eqCells a b).map fun r => .bool (if neg then !r else r) else none
  | _, _ => none
theorem st_eqs (F : CallF) (d : Option Nat) (os : List IOper) (e : Env) (h : Heap) (neg : Bool) (ls : List Bool) (x y : IOpd) : evOps G F (⟨d, .eqs neg ls x y, none⟩ :: os) e h = kV G F (eqsA neg ls (opd e x) (opd e y)) d os e h := by
  rw [st_pure G F d _ os e h rfl]
  simp only [evQ]
  cases opd e x <;> cases opd e y <;> try rfl
  simp only [eqsA]
  split
  · cases eqCells _ _ <;> rfl
  · rfl
theorem zr_self (a b c d : Int) : eqsA false [false, false, false, false] (.agg [.int .u64 a, .int .u64 b, .int .u8 c, .int .u8 d]) (.agg [.int .u64 a, .int .u64 b, .int .u8 c, .int .u8 d]) = some (.bool true) := by
  simp [eqsA, kindsA, eqCells]
theorem zr_selfn (a b c d : Int) : eqsA true [false, false, false, false] (.agg [.int .u64 a, .int .u64 b, .int .u8 c, .int .u8 d]) (.agg [.int .u64 a, .int .u64 b, .int .u8 c, .int .u8 d]) = some (.bool false) := by
  simp [eqsA, kindsA, eqCells]
def zr0 : AV := zrA (0, 0) (0, 0)
theorem law12_is_ok (J : Al G T g) {p q : Nat × Nat} : run G T 254 [zrA p q, .int .i64 0, zrA p q, .int .i64 0] = some (.bool true) := by
  rw [run_k G T J.J.law12_is]
  simp only [zrA]
  repeat' (first | (simp (maxSteps := 1000000) only [seval, evB, exB, c_law12_is, st_eqs, zr_self]) | (simp (maxSteps := 1000000) (disch := first | with_reducible assumption | omega) only [dxB]) | (simp only [kI_d, kG_dt, kG_df]; split) | (simp only [kI_v, kG_vt, kG_vf]; split))
theorem law12_is_err (J : Al G T g) {e : Int} (he : e ≠ 0) : run G T 254 [zr0, .int .i64 e, zr0, .int .i64 e] = some (.bool true) := by
  rw [run_k G T J.J.law12_is]
  simp only [zr0, zrA, cast0]
  repeat' (first | (simp (maxSteps := 1000000) only [seval, evB, exB, c_law12_is, he, st_eqs, zr_self]) | (simp (maxSteps := 1000000) (disch := first | with_reducible assumption | omega) only [dxB]) | (simp only [kI_d, kG_dt, kG_df]; split) | (simp only [kI_v, kG_vt, kG_vf]; split))
theorem law12_opens_no (J : Al G T g) {f md : Int} (h : ¬ (f = 1 ∨ f = 2)) {v : AV} : run G T 253 [.int .u8 f, .int .u8 md, v] = some (.int .i64 4) := by
  rw [run_k G T J.J.law12_opens]
  have o1 := ref05_Opens_no J h (md := md) (v := .nil)
  repeat' (first | (simp (maxSteps := 1000000) only [seval, evB, exB, c_law12_opens, o1]) | (simp (maxSteps := 1000000) (disch := first | with_reducible assumption | omega) only [dxB]) | (simp only [kI_d, kG_dt, kG_df]; split) | (simp only [kI_v, kG_vt, kG_vf]; split))
theorem law12_opens_mode (J : Al G T g) (F : Fm) {md : Int} (h : ¬ (1 ≤ md ∧ md ≤ 5)) {v : AV} : run G T 253 [.int .u8 F.u, .int .u8 md, v] = some (.int .i64 5) := by
  rw [run_k G T J.J.law12_opens]
  have o1 := ref05_Opens_mode J F h (v := .nil)
  repeat' (first | (simp (maxSteps := 1000000) only [seval, evB, exB, c_law12_opens, o1]) | (simp (maxSteps := 1000000) (disch := first | with_reducible assumption | omega) only [dxB]) | (simp only [kI_d, kG_dt, kG_df]; split) | (simp only [kI_v, kG_vt, kG_vf]; split))
theorem law12_opens_k (J : Al G T g) (F : Fm) {md : Int} (h : 1 ≤ md ∧ md ≤ 5) {n : Nat} {cs : List AV} {e : Int} (h2 : run G T 185 [.int .u8 F.u, .imm n cs] = some (.int .i64 e)) : run G T 253 [.int .u8 F.u, .int .u8 md, .imm n cs] = some (.int .i64 e) := by
  rw [run_k G T J.J.law12_opens]
  have o1 := ref05_Opens0 J F h
  repeat' (first | (simp (maxSteps := 1000000) only [seval, evB, exB, c_law12_opens, o1, h2]) | (simp (maxSteps := 1000000) (disch := first | with_reducible assumption | omega) only [dxB]) | (simp only [kI_d, kG_dt, kG_df]; split) | (simp only [kI_v, kG_vt, kG_vf]; split))
theorem xopens_s (J : Al G T g) {f md : Int} {a b c d : Nat} (ha : a < 18446744073709551616) (hb : b < 18446744073709551616) (hc : c < 18446744073709551616) (hd : d < 18446744073709551616) :
    (∃ e, e ≠ 0 ∧ run G T 253 [.int .u8 f, .int .u8 md, im2 a b c d] = some (.int .i64 e) ∧ run G T 289 [.int .u8 f, .int .u8 md, im2 a b c d] = some (.tup [.nil, .int .i64 e])) ∨
    (∃ F, f = Fm.u F ∧ (1 ≤ md ∧ md ≤ 5) ∧ ((a < 2 * F.sg ∧ b < 2 * F.sg) ∧ (c < 2 * F.sg ∧ d < 2 * F.sg)) ∧ run G T 253 [.int .u8 f, .int .u8 md, im2 a b c d] = some (.int .i64 0)) := by
  by_cases hf : f = 1 ∨ f = 2
  · obtain ⟨F, rfl⟩ := fm_of hf
    by_cases hm : 1 ≤ md ∧ md ≤ 5
    · have h1 := ref10_Good2 J F ha hb hc hd
      by_cases k1 : (a < 2 * F.sg ∧ b < 2 * F.sg) ∧ (c < 2 * F.sg ∧ d < 2 * F.sg)
      · rw [if_pos k1] at h1
        exact Or.inr ⟨F, rfl, hm, k1, law12_opens_k J F hm h1⟩
      · rw [if_neg k1] at h1
        exact Or.inl ⟨6, by decide, law12_opens_k J F hm h1, special_open2_bad J F hm ha hb hc hd k1⟩
    · exact Or.inl ⟨5, by decide, law12_opens_mode J F hm, special_open_mode J F hm⟩
  · exact Or.inl ⟨4, by decide, law12_opens_no J hf, special_open_no J hf⟩
theorem exact_Div_err (J : Al G T g) {f md e : Int} {a b c d : Nat} (he : e ≠ 0) (h : run G T 289 [.int .u8 f, .int .u8 md, im2 a b c d] = some (.tup [.nil, .int .i64 e])) :
    run G T 257 [.int .u8 f, .int .u8 md, zA a b, zA c d] = some (.tup [zr0, .int .i64 e]) := by
  have s1 : run G T 277 [.int .u8 f, .int .u8 md, zA a b, zA c d] = some (.tup [zr0, .bool false, .int .i64 e]) := by
    rw [run_k G T J.J.special_Div]
    simp only [zA, zr0, zrA, im2, cast0] at *
    repeat' (first | (simp (maxSteps := 1000000) only [seval, evB, exB, c_special_Div, st_bs2, repA_2, h, he]) | (simp (maxSteps := 1000000) (disch := first | with_reducible assumption | omega) only [dxB]) | (simp only [kI_d, kG_dt, kG_df]; split) | (simp only [kI_v, kG_vt, kG_vf]; split))
  rw [run_k G T J.J.exact_Div]
  simp only [zA, zr0, zrA, im2, cast0] at *
  repeat' (first | (simp (maxSteps := 1000000) only [seval, evB, exB, c_exact_Div, s1, he]) | (simp (maxSteps := 1000000) (disch := first | with_reducible assumption | omega) only [dxB]) | (simp only [kI_d, kG_dt, kG_df]; split) | (simp only [kI_v, kG_vt, kG_vf]; split))
theorem exact_parts_ok (J : Al G T g) {f md : Int} {a b c d k : Nat} {p q : Nat × Nat} (h : run G T 286 [.int .u8 f, .int .u8 md, im2 a b c d] = some (.int .i64 0))
    (h1 : run G T k [.int .u8 f, .int .u8 md, .int .u64 (a : Int), .int .u64 (c : Int)] = some (.tup [.int .u64 (p.1 : Int), .int .u8 (p.2 : Int), .int .i64 0]))
    (h2 : run G T k [.int .u8 f, .int .u8 md, .int .u64 (b : Int), .int .u64 (d : Int)] = some (.tup [.int .u64 (q.1 : Int), .int .u8 (q.2 : Int), .int .i64 0])) :
    run G T 285 [.int .u8 f, .int .u8 md, zA a b, zA c d, .fn k []] = some (.tup [zrA p q, .int .i64 0]) := by
  rw [run_k G T J.J.exact_parts]
  simp only [zA, zrA, im2] at *
  repeat' (first | (simp (maxSteps := 1000000) only [seval, evB, exB, c_exact_parts, st_bs2, repA_2, h, h1, h2]) | (simp (maxSteps := 1000000) (disch := first | with_reducible assumption | omega) only [dxB]) | (simp only [kI_d, kG_dt, kG_df]; split) | (simp only [kI_v, kG_vt, kG_vf]; split))
theorem exact_Add (J : Al G T g) (F : Fm) {md : Int} (hm : 1 ≤ md ∧ md ≤ 5) {a b c d : Nat} (ha : a < 2 * F.sg) (hb : b < 2 * F.sg) (hc : c < 2 * F.sg) (hd : d < 2 * F.sg) :
    run G T 262 [.int .u8 F.u, .int .u8 md, zA a b, zA c d] = some (.tup [zrA (addW F md a c) (addW F md b d), .int .i64 0]) := by
  rw [run_k G T J.J.exact_Add]
  have o1 := exact_open2 J F hm (sg_64 ha) (sg_64 hb) (sg_64 hc) (sg_64 hd)
  rw [if_pos ⟨⟨ha, hb⟩, hc, hd⟩] at o1
  have p1 := exact_parts_ok J o1 (soft_Add J F hm ha hc) (soft_Add J F hm hb hd)
  generalize addW F md a c = S1 at *
  generalize addW F md b d = S2 at *
  simp only [zA, zrA] at *
  repeat' (first | (simp (maxSteps := 1000000) only [seval, evB, exB, c_exact_Add, p1]) | (simp (maxSteps := 1000000) (disch := first | with_reducible assumption | omega) only [dxB]) | (simp only [kI_d, kG_dt, kG_df]; split) | (simp only [kI_v, kG_vt, kG_vf]; split))
set_option maxHeartbeats 16000000 in
theorem ref12_Div (J : Al G T g) (F : Fm) {md : Int} (hm : 1 ≤ md ∧ md ≤ 5) {a b c d : Nat} (ha : a < 2 * F.sg) (hb : b < 2 * F.sg) (hc : c < 2 * F.sg) (hd : d < 2 * F.sg) :
    run G T 258 [.int .u8 F.u, .int .u8 md, zA a b, zA c d] = some (zrA (divZ F md a b c d).1 (divZ F md a b c d).2) := by
  rw [run_k G T J.J.ref12_Div]
  have s1 := ref11_Div J F hm ha hb hc hd
  unfold divZ
  by_cases hs : sdS F a b c d = true
  · rw [if_pos hs]
    rw [hs] at s1
    generalize sdW F md a b c d = S at *
    simp only [zA, zrA] at *
    repeat' (first | (simp (maxSteps := 1000000) only [seval, evB, exB, c_ref12_Div, s1]) | (simp (maxSteps := 1000000) (disch := first | with_reducible assumption | omega) only [dxB]) | (simp only [kI_d, kG_dt, kG_df]; split) | (simp only [kI_v, kG_vt, kG_vf]; split))
  · rw [if_neg hs]
    have hz : (zcl (F.cls a) (F.cls b) ≤ 2 ∧ zcl (F.cls c) (F.cls d) = 2) := by
      unfold sdS at hs
      simpa using hs
    obtain ⟨fa, fb⟩ := (zcl_fin2 F).2 hz.1
    obtain ⟨fc, fd⟩ := (zcl_fin2 F (a := c) (b := d)).2 (by omega)
    have hq := sq_m0 F hc hd hz.2
    rw [Bool.not_eq_true] at hs
    rw [hs] at s1
    obtain ⟨z, y, u, v, w, p1⟩ := ref12_Quotient J F ha hb hc hd fa fb fc fd
    have b1 := Bd_tm F a c false
    have b2 := Bd_tm F b d false
    have b3 := Bd_tm F b c false
    have b4 := Bd_tm F a d true
    have bq := Bd_sq F c d
    obtain ⟨w1, q1⟩ := ref12_Sum2 J (md := md) (z := z) (y := y) (b1.1.mono (by decide)) (b2.1.mono (by decide))
    obtain ⟨w2, q2⟩ := ref12_Sum2 J (md := md) (z := u) (y := v) (b3.1.mono (by decide)) (b4.1.mono (by decide))
    have r1 := ref12_rounded J F hm (z := w1) (y := w) (s := zsg md (tm F a c false) (tm F b d false)) ((Bd_add b1.1 b2.1).mono (by decide)) (bq.mono (by decide)) hq
    have r2 := ref12_rounded J F hm (z := w2) (y := w) (s := zsg md (tm F b c false) (tm F a d true)) ((Bd_add b3.1 b4.1).mono (by decide)) (bq.mono (by decide)) hq
    rw [show ptQ F md (addD (tm F a c false).1 (tm F b d false).1) (zsg md (tm F a c false) (tm F b d false)) (sqD F c d) = (divR F md a b c d).1 from rfl] at r1
    rw [show ptQ F md (addD (tm F b c false).1 (tm F a d true).1) (zsg md (tm F b c false) (tm F a d true)) (sqD F c d) = (divR F md a b c d).2 from rfl] at r2
    clear b1 b2 b3 b4 hz bq hq
    generalize divR F md a b c d = R at *
    generalize sdW F md a b c d = S at *
    generalize zsg md (tm F a c false) (tm F b d false) = g1 at *
    generalize zsg md (tm F b c false) (tm F a d true) = g2 at *
    generalize addD (tm F a c false).1 (tm F b d false).1 = X at *
    generalize addD (tm F b c false).1 (tm F a d true).1 = Y at *
    generalize tm F a c false = t1 at *
    generalize tm F b d false = t2 at *
    generalize tm F b c false = t3 at *
    generalize tm F a d true = t4 at *
    generalize sqD F c d = one at *
    simp only [zA, zrA, gaussA, cellsN, List.cons_append, List.nil_append, DyA, A3] at *
    repeat' (first | (simp (maxSteps := 1000000) only [seval, evB, exB, c_ref12_Div, st_bs4, repA_2, ia24_0, ia24_1, s1, p1, q1, q2, r1, r2]) | (simp (maxSteps := 1000000) (disch := first | with_reducible assumption | omega) only [dxB]) | (simp only [kI_d, kG_dt, kG_df]; split) | (simp only [kI_v, kG_vt, kG_vf]; split))
set_option maxHeartbeats 4000000 in
theorem law12_ExactQuotients (J : Al G T g) (hK : run G T 255 [] = some (.bool true))
    {f m : Int} {a b c d : Nat} (ha : a < 18446744073709551616) (hb : b < 18446744073709551616) (hc : c < 18446744073709551616) (hd : d < 18446744073709551616) :
    run G T 243 [.int .u8 f, .int .u8 m, .agg [.int .u64 (a : Int), .int .u64 (b : Int)], .agg [.int .u64 (c : Int), .int .u64 (d : Int)]] = some (.bool true) := by
  rw [run_k G T J.J.law12_ExactQuotients]
  rcases xopens_s (G := G) (T := T) (f := f) (md := m) J ha hb hc hd with ⟨e, he, o1, o2⟩ | ⟨F, rfl, hm, ⟨⟨k1, k2⟩, k3, k4⟩, o1⟩
  · have r1 := exact_Div_err J he o2
    have i1 := law12_is_err J he
    simp only [zA, zr0, zrA, im2, cast0] at *
    repeat' (first | (simp (maxSteps := 1000000) only [seval, evB, exB, c_law12_ExactQuotients, st_bs2, repA_2, r1, o1, he, i1, hK]) | (simp (maxSteps := 1000000) (disch := first | with_reducible assumption | omega) only [dxB]) | (simp only [kI_d, kG_dt, kG_df]; split) | (simp only [kI_v, kG_vt, kG_vf]; split))
  · have r1 := exact_Div J F hm k1 k2 k3 k4
    have r2 := ref12_Div J F hm k1 k2 k3 k4
    have i1 := law12_is_ok J (p := (divZ F m a b c d).1) (q := (divZ F m a b c d).2)
    generalize divZ F m a b c d = S at *
    simp only [zA, zrA, im2] at *
    repeat' (first | (simp (maxSteps := 1000000) only [seval, evB, exB, c_law12_ExactQuotients, st_bs2, repA_2, r1, o1, r2, i1, hK]) | (simp (maxSteps := 1000000) (disch := first | with_reducible assumption | omega) only [dxB]) | (simp only [kI_d, kG_dt, kG_df]; split) | (simp only [kI_v, kG_vt, kG_vf]; split))
def pl (F : Fm) (w : Nat) : Int := if F.ng w then -((w % F.sg : Nat) : Int) else ((w % F.sg : Nat) : Int)
def ordI (a b : Int) : Int := if a < b then 1 else if b < a then 3 else 2
theorem tmod_sg (F : Fm) (w : Nat) : (w : Int).tmod (F.sg : Int) = ((w % F.sg : Nat) : Int) := by rw [Int.tmod_eq_emod_of_nonneg (by omega)]; omega
theorem ref07_Place (J : Al G T g) (F : Fm) {w : Nat} (hw : w < 2 * F.sg) : run G T 283 [.int .u8 F.u, .int .u64 (w : Int)] = some (.int .i64 (pl F w)) := by
  rw [run_k G T J.J.ref07_Place]
  have h1 := ref03_Sign J F
  have h2 := ref03_Split J F (sg_64 hw)
  have hi := fm_i0 F
  have hm := Nat.mod_lt w (show 0 < F.sg by omega)
  have e1 := tmod_sg F w
  have h0 : ¬ (F.sg : Int) = 0 := by omega
  unfold pl
  have w1 : IntKind.i64.wrap ((w % F.sg : Nat) : Int) = ((w % F.sg : Nat) : Int) := wrap_i64 (by omega)
  have w2 : IntKind.i64.wrap (0 - ((w % F.sg : Nat) : Int)) = -((w % F.sg : Nat) : Int) := by rw [Int.zero_sub]; exact wrap_i64 (by omega)
  generalize ((w % F.sg : Nat) : Int) = m at *
  generalize F.ng w = n at *
  generalize (F.sg : Int) = s at *
  clear hm hi
  simp only [fldA] at *
  cases n <;> repeat' (first | (simp (maxSteps := 1000000) only [seval, evB, exB, c_ref07_Place, fd_3, h1, h2, e1, h0, w1, w2]) | (simp (maxSteps := 1000000) (disch := first | with_reducible assumption | omega) only [dxB]) | (simp only [kI_d, kG_dt, kG_df]; split) | (simp only [kI_v, kG_vt, kG_vf]; split))
def stepsI (a b : Int) : Int := if a < b then IntKind.u64.wrap (IntKind.i64.wrap (b - a)) else IntKind.u64.wrap (IntKind.i64.wrap (a - b))
theorem ref07_Steps (J : Al G T g) (F : Fm) {a b : Nat} (ha : a < 2 * F.sg) (hb : b < 2 * F.sg) : run G T 260 [.int .u8 F.u, .int .u64 (a : Int), .int .u64 (b : Int)] = some (.int .u64 (stepsI (pl F a) (pl F b))) := by
  rw [run_k G T J.J.ref07_Steps]
  have h1 := ref07_Place J F ha
  have h2 := ref07_Place J F hb
  unfold stepsI
  generalize pl F a = x at *
  generalize pl F b = y at *
  by_cases h : x < y
  · rw [if_pos h]
    generalize hv : IntKind.i64.wrap (y - x) = v at *
    repeat' (first | (simp (maxSteps := 1000000) only [seval, evB, exB, c_ref07_Steps, h1, h2, h, hv]) | (simp (maxSteps := 1000000) (disch := first | with_reducible assumption | omega) only [dxB]) | (simp only [kI_d, kG_dt, kG_df]; split) | (simp only [kI_v, kG_vt, kG_vf]; split))
  · rw [if_neg h]
    generalize hv : IntKind.i64.wrap (x - y) = v at *
    repeat' (first | (simp (maxSteps := 1000000) only [seval, evB, exB, c_ref07_Steps, h1, h2, h, hv]) | (simp (maxSteps := 1000000) (disch := first | with_reducible assumption | omega) only [dxB]) | (simp only [kI_d, kG_dt, kG_df]; split) | (simp only [kI_v, kG_vt, kG_vf]; split))
theorem w_mod (F : Fm) {w : Nat} (hw : w < 2 * F.sg) (h5 : F.cls w ≠ 5) : w % F.sg ≤ F.i0 ∧ (F.fin w ↔ w % F.sg < F.i0) := by
  obtain ⟨h1, h2, h3, h4⟩ := w_split hw
  have hp := Nat.two_pow_pos F.fr
  have e1 : F.i0 = 2 ^ F.fr * F.most := Nat.mul_comm ..
  have hlt : F.ex w < F.most → 2 ^ F.fr * F.ex w + F.fc w < 2 ^ F.fr * F.most := fun h => by
    have := Nat.mul_le_mul_left (2 ^ F.fr) (show F.ex w + 1 ≤ F.most from h)
    rw [Nat.mul_add] at this; omega
  unfold Fm.fin
  rw [h2, e1]
  by_cases h : F.ex w < F.most
  · exact ⟨Nat.le_of_lt (hlt h), fun _ => hlt h, fun _ => h⟩
  · have he : F.ex w = F.most := by omega
    have hm0 : F.most ≠ 0 := by cases F <;> decide
    have hf : F.fc w = 0 := by
      by_cases q : F.fc w = 0
      · exact q
      · exfalso; apply h5; unfold Fm.cls; rw [if_neg (by omega), if_neg h, if_neg q]
    rw [he, hf]
    exact ⟨Nat.le_refl _, fun q => absurd q (Nat.lt_irrefl _), fun q => absurd q (Nat.lt_irrefl _)⟩
theorem pl_inf (F : Fm) (n : Bool) : pl F (F.inf n) = if n then -(F.i0 : Int) else F.i0 := by cases F <;> cases n <;> decide
theorem pl_eq (F : Fm) {w : Nat} (hw : w < 2 * F.sg) : w = w % F.sg + F.sgn (F.ng w) := (w_split hw).1
theorem ivp (F : Fm) {w : Nat} (hw : w < 2 * F.sg) (hf : F.fin w) : iv (F.val w) F.low = (if F.ng w then -1 else 1) * (magN F (w % F.sg) : Int) ∧ LoE (F.val w) F.low := by
  have h5 : F.cls w ≠ 5 := by have := fin_iff.1 hf; omega
  have h := iv_val (F := F) (F.ng w) ((w_mod F hw h5).2.1 hf)
  rw [← pl_eq F hw] at h
  exact ⟨h.1, h.2.1⟩
theorem sgI_ord {x y : Int} : (sgI (x - y) < 0 ↔ x < y) ∧ (0 < sgI (x - y) ↔ y < x) := by rw [sgI_neg, sgI_pos]; omega
theorem cmp_pl (F : Fm) {a b : Nat} (ha : a < 2 * F.sg) (hb : b < 2 * F.sg) (fa : F.fin a) (fb : F.fin b) : (cmpD (F.val a) (F.val b) < 0 ↔ pl F a < pl F b) ∧ (0 < cmpD (F.val a) (F.val b) ↔ pl F b < pl F a) := by
  obtain ⟨i1, l1⟩ := ivp F ha fa
  obtain ⟨i2, l2⟩ := ivp F hb fb
  rw [cmp_iv l1 l2, i1, i2, sgI_ord.1, sgI_ord.2]
  unfold pl
  generalize a % F.sg = x
  generalize b % F.sg = y
  have m1 : magN F x < magN F y ↔ x < y := ⟨fun h => by
    rcases Nat.lt_or_ge x y with q | q
    · exact q
    · have := magN_le F q; omega, magN_lt F⟩
  have m2 : magN F y < magN F x ↔ y < x := ⟨fun h => by
    rcases Nat.lt_or_ge y x with q | q
    · exact q
    · have := magN_le F q; omega, magN_lt F⟩
  have z0 := magN_zero F
  have z1 : 0 < magN F x ↔ 0 < x := ⟨fun h => by
    rcases Nat.eq_zero_or_pos x with q | q
    · rw [q, z0] at h; exact absurd h (Nat.lt_irrefl _)
    · exact q, fun h => by have := magN_lt F h; omega⟩
  have z2 : 0 < magN F y ↔ 0 < y := ⟨fun h => by
    rcases Nat.eq_zero_or_pos y with q | q
    · rw [q, z0] at h; exact absurd h (Nat.lt_irrefl _)
    · exact q, fun h => by have := magN_lt F h; omega⟩
  cases F.ng a <;> cases F.ng b <;> simp <;> omega
set_option maxHeartbeats 4000000 in
theorem ref07_Cmp (J : Al G T g) (F : Fm) {a b : Nat} (ha : a < 2 * F.sg) (hb : b < 2 * F.sg) (na : F.cls a ≠ 5) (nb : F.cls b ≠ 5) :
    run G T 282 [.int .u8 F.u, .int .u64 (a : Int), .int .u64 (b : Int)] = some (.int .u8 (ordI (pl F a) (pl F b))) := by
  rw [run_k G T J.J.ref07_Cmp]
  have c1 := ref03_Class J F (sg_64 ha)
  have c2 := ref03_Class J F (sg_64 hb)
  have i1 := ref03_Inf J F (n := false)
  have i2 := ref03_Inf J F (n := true)
  obtain ⟨ma, fa⟩ := w_mod F ha na
  obtain ⟨mb, fb⟩ := w_mod F hb nb
  have hi := fm_i0 F
  have pa := pl_eq F ha
  have pb := pl_eq F hb
  have eqI : ∀ {x y : Nat}, ((x : Int) = (y : Int)) ↔ x = y := fun {x y} => by omega
  have isinf : ∀ {w : Nat}, w < 2 * F.sg → w % F.sg ≤ F.i0 → ¬ w % F.sg < F.i0 → w = F.inf (F.ng w) := fun {w} hw h1 h2 => by
    have e := pl_eq F hw
    rw [show w % F.sg = F.i0 by omega] at e
    exact e
  by_cases e : a = b
  · subst e
    rw [show ordI (pl F a) (pl F a) = 2 by unfold ordI; rw [if_neg (by omega), if_neg (by omega)]]
    repeat' (first | (simp (maxSteps := 1000000) only [seval, evB, exB, c_ref07_Cmp, c1, na]) | (simp (maxSteps := 1000000) (disch := first | with_reducible assumption | omega) only [dxB]) | (simp only [kI_d, kG_dt, kG_df]; split) | (simp only [kI_v, kG_vt, kG_vf]; split))
  · have e' : ¬ (a : Int) = (b : Int) := by omega
    have lt_p : ∀ {w : Nat}, w < 2 * F.sg → w % F.sg ≤ F.i0 → w ≠ F.inf false → pl F w < F.i0 := fun {w} hw h1 h2 => by
      unfold pl
      by_cases q : w % F.sg < F.i0
      · split <;> omega
      · have := isinf hw h1 q
        cases h : F.ng w
        · rw [h] at this; exact absurd this h2
        · simp; omega
    have gt_p : ∀ {w : Nat}, w < 2 * F.sg → w % F.sg ≤ F.i0 → w ≠ F.inf true → -(F.i0 : Int) < pl F w := fun {w} hw h1 h2 => by
      unfold pl
      by_cases q : w % F.sg < F.i0
      · split <;> omega
      · have := isinf hw h1 q
        cases h : F.ng w
        · simp; omega
        · rw [h] at this; exact absurd this h2
    have t0 := pl_inf F false
    have t1 := pl_inf F true
    simp only [Bool.false_eq_true, if_false, if_true] at t0 t1
    by_cases k1 : a = F.inf false
    · have : pl F b < pl F a := by rw [k1, t0]; exact lt_p hb mb (fun h => e (k1.trans h.symm))
      rw [show ordI (pl F a) (pl F b) = 3 by unfold ordI; rw [if_neg (by omega), if_pos (by omega)]]
      have k1' : (F.inf false : Int) = (a : Int) := by omega
      generalize (F.inf false : Int) = I1 at *
      generalize (F.inf true : Int) = I2 at *
      repeat' (first | (simp (maxSteps := 1000000) only [seval, evB, exB, c_ref07_Cmp, c1, na, c2, nb, e', i1, i2, k1']) | (simp (maxSteps := 1000000) (disch := first | with_reducible assumption | omega) only [dxB]) | (simp only [kI_d, kG_dt, kG_df]; split) | (simp only [kI_v, kG_vt, kG_vf]; split))
    · have k1' : ¬ (a : Int) = (F.inf false : Int) := by omega
      by_cases k2 : b = F.inf true
      · have : pl F b < pl F a := by rw [k2, t1]; exact gt_p ha ma (fun h => e (h.trans k2.symm))
        rw [show ordI (pl F a) (pl F b) = 3 by unfold ordI; rw [if_neg (by omega), if_pos (by omega)]]
        have k2' : (F.inf true : Int) = (b : Int) := by omega
        generalize (F.inf false : Int) = I1 at *
        generalize (F.inf true : Int) = I2 at *
        repeat' (first | (simp (maxSteps := 1000000) only [seval, evB, exB, c_ref07_Cmp, c1, na, c2, nb, e', i1, i2, k1', k2']) | (simp (maxSteps := 1000000) (disch := first | with_reducible assumption | omega) only [dxB]) | (simp only [kI_d, kG_dt, kG_df]; split) | (simp only [kI_v, kG_vt, kG_vf]; split))
      · have k2' : ¬ (b : Int) = (F.inf true : Int) := by omega
        by_cases k3 : b = F.inf false
        · have : pl F a < pl F b := by rw [k3, t0]; exact lt_p ha ma k1
          rw [show ordI (pl F a) (pl F b) = 1 by unfold ordI; rw [if_pos (by omega)]]
          have k3' : (F.inf false : Int) = (b : Int) := by omega
          generalize (F.inf false : Int) = I1 at *
          generalize (F.inf true : Int) = I2 at *
          repeat' (first | (simp (maxSteps := 1000000) only [seval, evB, exB, c_ref07_Cmp, c1, na, c2, nb, e', i1, i2, k1', k2', k3']) | (simp (maxSteps := 1000000) (disch := first | with_reducible assumption | omega) only [dxB]) | (simp only [kI_d, kG_dt, kG_df]; split) | (simp only [kI_v, kG_vt, kG_vf]; split))
        · have k3' : ¬ (b : Int) = (F.inf false : Int) := by omega
          by_cases k4 : a = F.inf true
          · have : pl F a < pl F b := by rw [k4, t1]; exact gt_p hb mb k2
            rw [show ordI (pl F a) (pl F b) = 1 by unfold ordI; rw [if_pos (by omega)]]
            have k4' : (F.inf true : Int) = (a : Int) := by omega
            generalize (F.inf false : Int) = I1 at *
            generalize (F.inf true : Int) = I2 at *
            repeat' (first | (simp (maxSteps := 1000000) only [seval, evB, exB, c_ref07_Cmp, c1, na, c2, nb, e', i1, i2, k1', k2', k3', k4']) | (simp (maxSteps := 1000000) (disch := first | with_reducible assumption | omega) only [dxB]) | (simp only [kI_d, kG_dt, kG_df]; split) | (simp only [kI_v, kG_vt, kG_vf]; split))
          · have k4' : ¬ (a : Int) = (F.inf true : Int) := by omega
            have ff : ∀ {w : Nat}, w < 2 * F.sg → w % F.sg ≤ F.i0 → w ≠ F.inf false → w ≠ F.inf true → w % F.sg < F.i0 := fun {w} hw h1 h2 h3 => by
              by_cases q : w % F.sg < F.i0
              · exact q
              · have := isinf hw h1 q
                cases h : F.ng w <;> rw [h] at this
                · exact absurd this h2
                · exact absurd this h3
            have fa' := fa.2 (ff ha ma k1 k4)
            have fb' := fb.2 (ff hb mb k3 k2)
            obtain ⟨z, v1⟩ := ref03_Value J F (sg_64 ha) fa'
            obtain ⟨y, v2⟩ := ref03_Value J F (sg_64 hb) fb'
            have ba := Bd_vl F a
            have bb := Bd_vl F b
            rw [vl_val fa'] at ba
            rw [vl_val fb'] at bb
            have d1 := ref02_Cmp J (z := z) (y := y) (ba.mono (by decide)) (bb.mono (by decide))
            obtain ⟨o1, o2⟩ := cmp_pl F ha hb fa' fb'
            have oe : ordI (pl F a) (pl F b) = if cmpD (F.val a) (F.val b) < 0 then 1 else if 0 < cmpD (F.val a) (F.val b) then 3 else 2 := by unfold ordI; simp only [o1, o2]
            rw [oe]
            clear oe
            generalize cmpD (F.val a) (F.val b) = c at *
            generalize F.val a = va at *
            generalize F.val b = vb at *
            generalize (F.inf false : Int) = I1 at *
            generalize (F.inf true : Int) = I2 at *
            clear ba bb fa fb ff fa' fb' lt_p gt_p isinf t0 t1 o1 o2 hi pa pb ma mb
            simp only [DyA, A3] at *
            by_cases c0 : c < 0
            · rw [if_pos c0]
              repeat' (first | (simp (maxSteps := 1000000) only [seval, evB, exB, c_ref07_Cmp, c1, na, c2, nb, e', i1, i2, k1', k2', k3', k4', v1, v2, d1, c0]) | (simp (maxSteps := 1000000) (disch := first | with_reducible assumption | omega) only [dxB]) | (simp only [kI_d, kG_dt, kG_df]; split) | (simp only [kI_v, kG_vt, kG_vf]; split))
            · rw [if_neg c0]
              by_cases c3 : 0 < c
              · rw [if_pos c3]
                repeat' (first | (simp (maxSteps := 1000000) only [seval, evB, exB, c_ref07_Cmp, c1, na, c2, nb, e', i1, i2, k1', k2', k3', k4', v1, v2, d1, c0, c3]) | (simp (maxSteps := 1000000) (disch := first | with_reducible assumption | omega) only [dxB]) | (simp only [kI_d, kG_dt, kG_df]; split) | (simp only [kI_v, kG_vt, kG_vf]; split))
              · rw [if_neg c3]
                repeat' (first | (simp (maxSteps := 1000000) only [seval, evB, exB, c_ref07_Cmp, c1, na, c2, nb, e', i1, i2, k1', k2', k3', k4', v1, v2, d1, c0, c3]) | (simp (maxSteps := 1000000) (disch := first | with_reducible assumption | omega) only [dxB]) | (simp only [kI_d, kG_dt, kG_df]; split) | (simp only [kI_v, kG_vt, kG_vf]; split))
theorem law12_between (J : Al G T g) (F : Fm) {a b c : Nat} (ha : a < 2 * F.sg) (hb : b < 2 * F.sg) (hc : c < 2 * F.sg) (na : F.cls a ≠ 5) (nb : F.cls b ≠ 5) (nc : F.cls c ≠ 5) (h : pl F a ≤ pl F b ∧ pl F b ≤ pl F c) :
    run G T 259 [.int .u8 F.u, .int .u64 (a : Int), .int .u64 (b : Int), .int .u64 (c : Int)] = some (.bool true) := by
  rw [run_k G T J.J.law12_between]
  have h1 := ref07_Cmp J F ha hb na nb
  have h2 := ref07_Cmp J F hb hc nb nc
  have o1 : ordI (pl F a) (pl F b) = 1 ∨ ordI (pl F a) (pl F b) = 2 := by unfold ordI; split; exact Or.inl rfl; rw [if_neg (by omega)]; exact Or.inr rfl
  have o2 : ordI (pl F b) (pl F c) = 1 ∨ ordI (pl F b) (pl F c) = 2 := by unfold ordI; split; exact Or.inl rfl; rw [if_neg (by omega)]; exact Or.inr rfl
  generalize ordI (pl F a) (pl F b) = x at *
  generalize ordI (pl F b) (pl F c) = y at *
  rcases o1 with rfl | rfl <;> rcases o2 with rfl | rfl <;> repeat' (first | (simp (maxSteps := 1000000) only [seval, evB, exB, c_law12_between, h1, h2]) | (simp (maxSteps := 1000000) (disch := first | with_reducible assumption | omega) only [dxB]) | (simp only [kI_d, kG_dt, kG_df]; split) | (simp only [kI_v, kG_vt, kG_vf]; split))
def Near (F : Fm) (a b : Nat) : Prop := a = b ∨ (F.cls a = 1 ∧ F.cls b = 1)
theorem law12_near (J : Al G T g) (F : Fm) {a b : Nat} (ha : a < 2 * F.sg) (hb : b < 2 * F.sg) (h : Near F a b) : run G T 284 [.int .u8 F.u, .int .u64 (a : Int), .int .u64 (b : Int)] = some (.bool true) := by
  rw [run_k G T J.J.law12_near]
  have c1 := ref03_Class J F (sg_64 ha)
  have c2 := ref03_Class J F (sg_64 hb)
  by_cases e : (a : Int) = b
  · repeat' (first | (simp (maxSteps := 1000000) only [seval, evB, exB, c_law12_near, e]) | (simp (maxSteps := 1000000) (disch := first | with_reducible assumption | omega) only [dxB]) | (simp only [kI_d, kG_dt, kG_df]; split) | (simp only [kI_v, kG_vt, kG_vf]; split))
  · rcases h with h | ⟨h1, h2⟩
    · exfalso; omega
    · rw [h1] at c1
      rw [h2] at c2
      repeat' (first | (simp (maxSteps := 1000000) only [seval, evB, exB, c_law12_near, e, c1, c2]) | (simp (maxSteps := 1000000) (disch := first | with_reducible assumption | omega) only [dxB]) | (simp only [kI_d, kG_dt, kG_df]; split) | (simp only [kI_v, kG_vt, kG_vf]; split))
theorem law12_alike (J : Al G T g) (F : Fm) {a b c d : Nat} (ha : a < 2 * F.sg) (hb : b < 2 * F.sg) (hc : c < 2 * F.sg) (hd : d < 2 * F.sg) (h1 : Near F a c) (h2 : Near F b d) : run G T 261 [.int .u8 F.u, zA a b, zA c d] = some (.bool true) := by
  rw [run_k G T J.J.law12_alike]
  have n1 := law12_near J F ha hc h1
  have n2 := law12_near J F hb hd h2
  simp only [zA] at *
  repeat' (first | (simp (maxSteps := 1000000) only [seval, evB, exB, c_law12_alike, n1, n2]) | (simp (maxSteps := 1000000) (disch := first | with_reducible assumption | omega) only [dxB]) | (simp only [kI_d, kG_dt, kG_df]; split) | (simp only [kI_v, kG_vt, kG_vf]; split))
def Wd (F : Fm) (w : Nat) : Prop := w < 2 * F.sg ∧ F.cls w ≠ 5
theorem pt_size (F : Fm) (neg : Bool) {s : Nat} (h : s ≤ F.i0) : pl F (s + F.sgn neg) = plz F neg s ∧ Wd F (s + F.sgn neg) := pl_size F neg h
theorem part_between (F : Fm) {md : Int} (hm : 1 ≤ md ∧ md ≤ 5) {X b : Dy} (hb : b.m ≠ 0) (s5 s s4 : Bool) :
    (Wd F (ptQ F 5 X s5 b).1 ∧ Wd F (ptQ F md X s b).1 ∧ Wd F (ptQ F 4 X s4 b).1) ∧ (pl F (ptQ F 5 X s5 b).1 ≤ pl F (ptQ F md X s b).1 ∧ pl F (ptQ F md X s b).1 ≤ pl F (ptQ F 4 X s4 b).1) ∧ pl F (ptQ F 4 X s4 b).1 ≤ pl F (ptQ F 5 X s5 b).1 + 1 := by
  unfold ptQ
  by_cases h0 : X.m = 0
  · simp only [if_pos h0]
    have z : ∀ n, pl F (F.sgn n) = 0 ∧ Wd F (F.sgn n) := fun n => by
      have h := pt_size F n (s := 0) (Nat.zero_le _)
      rw [Nat.zero_add] at h
      refine ⟨h.1.trans ?_, h.2⟩
      unfold plz; cases n <;> rfl
    rw [(z s5).1, (z s).1, (z s4).1]
    exact ⟨⟨(z s5).2, (z s).2, (z s4).2⟩, ⟨Int.le_refl _, Int.le_refl _⟩, by decide⟩
  · simp only [if_neg h0]
    obtain ⟨s0, o, h, m, hs⟩ := quo_size F h0 hb
    have k5 := sz_between F (md := 5) (by decide) (X.n != b.n) o h m s0
    have k4 := sz_between F (md := 4) (by decide) (X.n != b.n) o h m s0
    have k := sz_between F hm (X.n != b.n) o h m s0
    simp only at k5 k4 k
    rw [hs md hm, hs 5 (by decide), hs 4 (by decide), (pt_size F _ k5.2.2.2).1, (pt_size F _ k4.2.2.2).1, (pt_size F _ k.2.2.2).1]
    exact ⟨⟨(pt_size F _ k5.2.2.2).2, (pt_size F _ k.2.2.2).2, (pt_size F _ k4.2.2.2).2⟩, ⟨k.1, k.2.1⟩, k.2.2.1⟩
theorem steps_one {a b : Int} (h1 : a ≤ b) (h2 : b ≤ a + 1) : stepsI a b ≤ 1 := by
  unfold stepsI
  by_cases h : a < b
  · rw [if_pos h, show b - a = 1 by omega]; decide
  · rw [if_neg h, show a - b = 0 by omega]; decide
theorem zcl_wd {F : Fm} {a b : Nat} (ha : Wd F a) (hb : Wd F b) : ¬ zcl (F.cls a) (F.cls b) = 4 := by
  have h1 := ha.2
  have h2 := hb.2
  unfold zcl
  split
  · decide
  · rw [if_neg (by rintro (h | h); exact h1 h; exact h2 h)]
    split <;> decide
theorem ia34_0 (b : Nat) (k : IntKind) : iaddrAV 3 4 (.ptr b 0) (.int k 0) = some (.ptr b 0) := rfl
theorem ia34_1 (b : Nat) (k : IntKind) : iaddrAV 3 4 (.ptr b 0) (.int k 1) = some (.ptr b 4) := rfl
theorem ia34_2 (b : Nat) (k : IntKind) : iaddrAV 3 4 (.ptr b 0) (.int k 2) = some (.ptr b 8) := rfl
theorem xb_loop (e : Env) (h : Heap) : evL G T c_law12_ExactBetween_l1 e h = kS G T (evL G T c_law12_ExactBetween_b1 (keepE [0, 4, 7, 8, 11, 46, 47, 48] e) h) c_law12_ExactBetween_l1 := s_loopc G T rfl e h
structure Btw (F : Fm) (x y z : Nat) : Prop where
  w : Wd F x ∧ Wd F y ∧ Wd F z
  b : pl F x ≤ pl F y ∧ pl F y ≤ pl F z
  s : pl F z ≤ pl F x + 1
theorem tw_btw (F : Fm) {md : Int} (hm : 1 ≤ md ∧ md ≤ 5) (x y : Dy × Bool) {b : Dy} (hb : b.m ≠ 0) : Btw F (tw F 5 x y b).1 (tw F md x y b).1 (tw F 4 x y b).1 := by
  have h := part_between F hm (X := addD x.1 y.1) hb (zsg 5 x y) (zsg md x y) (zsg 4 x y)
  exact ⟨h.1, h.2.1, h.2.2⟩
set_option maxHeartbeats 16000000 in
theorem law12_btw (J : Al G T g) (hK : run G T 255 [] = some (.bool true))
    (F : Fm) {md : Int} {a b c d : Nat} (ha : a < 2 * F.sg) (hb : b < 2 * F.sg) (hc : c < 2 * F.sg) (hd : d < 2 * F.sg) (o1 : run G T 253 [.int .u8 F.u, .int .u8 md, im2 a b c d] = some (.int .i64 0)) (fz : F.fin a ∧ F.fin b) (fw : F.fin c ∧ F.fin d) {dv : Bool} (hdv : dv = true → ¬ zcl (F.cls c) (F.cls d) = 1)
    {p5 p p4 q5 q q4 : Nat × Nat} (b1 : Btw F p5.1 p.1 p4.1) (b2 : Btw F q5.1 q.1 q4.1)
    (m5 : ∃ x y, run G T 252 [.int .u8 F.u, .int .u8 5, zA a b, zA c d] = some (.tup [zrA x y, .int .i64 0]) ∧ (dv = false → x = p5 ∧ y = q5))
    (m : ∃ x y, run G T 252 [.int .u8 F.u, .int .u8 md, zA a b, zA c d] = some (.tup [zrA x y, .int .i64 0]) ∧ (dv = false → x = p ∧ y = q))
    (m4 : ∃ x y, run G T 252 [.int .u8 F.u, .int .u8 4, zA a b, zA c d] = some (.tup [zrA x y, .int .i64 0]) ∧ (dv = false → x = p4 ∧ y = q4))
    (d5 : dv = true → run G T 257 [.int .u8 F.u, .int .u8 5, zA a b, zA c d] = some (.tup [zrA p5 q5, .int .i64 0]))
    (dd : dv = true → run G T 257 [.int .u8 F.u, .int .u8 md, zA a b, zA c d] = some (.tup [zrA p q, .int .i64 0]))
    (d4 : dv = true → run G T 257 [.int .u8 F.u, .int .u8 4, zA a b, zA c d] = some (.tup [zrA p4 q4, .int .i64 0])) :
    run G T 244 [.int .u8 F.u, .int .u8 md, zA a b, zA c d, .bool dv] = some (.bool true) := by
  rw [run_k G T J.J.law12_ExactBetween]
  have f1 := ref10_Finite J F ha hb
  have f2 := ref10_Finite J F hc hd
  rw [decide_eq_true fz] at f1
  rw [decide_eq_true fw] at f2
  have c1 := ref10_Class J F hc hd
  have k5 := ref10_Class J F b1.w.1.1 b2.w.1.1
  have k := ref10_Class J F b1.w.2.1.1 b2.w.2.1.1
  have k4 := ref10_Class J F b1.w.2.2.1 b2.w.2.2.1
  have n5 := zcl_wd b1.w.1 b2.w.1
  have n := zcl_wd b1.w.2.1 b2.w.2.1
  have n4 := zcl_wd b1.w.2.2 b2.w.2.2
  have t1 := law12_between J F b1.w.1.1 b1.w.2.1.1 b1.w.2.2.1 b1.w.1.2 b1.w.2.1.2 b1.w.2.2.2 b1.b
  have t2 := law12_between J F b2.w.1.1 b2.w.2.1.1 b2.w.2.2.1 b2.w.1.2 b2.w.2.1.2 b2.w.2.2.2 b2.b
  have s1 := ref07_Steps J F b1.w.1.1 b1.w.2.2.1
  have s2 := ref07_Steps J F b2.w.1.1 b2.w.2.2.1
  have l1 := steps_one (Int.le_trans b1.b.1 b1.b.2) b1.s
  have l2 := steps_one (Int.le_trans b2.b.1 b2.b.2) b2.s
  obtain ⟨x5, y5, m5, e5⟩ := m5
  obtain ⟨x, y, m, e⟩ := m
  obtain ⟨x4, y4, m4, e4⟩ := m4
  generalize stepsI (pl F p5.1) (pl F p4.1) = v1 at *
  generalize stepsI (pl F q5.1) (pl F q4.1) = v2 at *
  generalize zcl (F.cls p5.1) (F.cls q5.1) = z5 at *
  generalize zcl (F.cls p.1) (F.cls q.1) = z at *
  generalize zcl (F.cls p4.1) (F.cls q4.1) = z4 at *
  generalize zcl (F.cls c) (F.cls d) = zw at *
  clear b1 b2 fz fw
  cases dv
  · obtain ⟨rfl, rfl⟩ := e5 rfl
    obtain ⟨rfl, rfl⟩ := e rfl
    obtain ⟨rfl, rfl⟩ := e4 rfl
    clear e5 e e4 d5 dd d4 hdv
    simp only [zA, zrA, im2] at *
    repeat' (first | (simp (maxSteps := 1000000) only [seval, evB, exB, c_law12_ExactBetween, c_law12_ExactBetween_b1, xb_loop, st_bs2, st_bslice3, repA_2, repA_3, ia34_0, ia34_1, ia34_2, o1, f1, f2, c1, m5, m, m4, k5, k, k4, n5, n, n4, t1, t2, s1, s2, l1, l2, wr_1, wr1, wr_2, wr2, wr_3, wr3, hK]) | (simp (maxSteps := 1000000) (disch := first | with_reducible assumption | omega) only [dxB]) | (simp only [kI_d, kG_dt, kG_df]; split) | (simp only [kI_v, kG_vt, kG_vf]; split))
  · have d5 := d5 rfl
    have dd := dd rfl
    have d4 := d4 rfl
    have hdv := hdv rfl
    clear e5 e e4
    simp only [zA, zrA, im2] at *
    repeat' (first | (simp (maxSteps := 1000000) only [seval, evB, exB, c_law12_ExactBetween, c_law12_ExactBetween_b1, xb_loop, st_bs2, st_bslice3, repA_2, repA_3, ia34_0, ia34_1, ia34_2, o1, f1, f2, c1, hdv, m5, m, m4, d5, dd, d4, k5, k, k4, n5, n, n4, t1, t2, s1, s2, l1, l2, wr_1, wr1, wr_2, wr2, wr_3, wr3, hK]) | (simp (maxSteps := 1000000) (disch := first | with_reducible assumption | omega) only [dxB]) | (simp only [kI_d, kG_dt, kG_df]; split) | (simp only [kI_v, kG_vt, kG_vf]; split))
theorem law12_btw_known (hK : run G T 255 [] = some (.bool true)) (J : Al G T g) (F : Fm) {md : Int} {a b c d : Nat} (ha : a < 2 * F.sg) (hb : b < 2 * F.sg) (hc : c < 2 * F.sg) (hd : d < 2 * F.sg) (o1 : run G T 253 [.int .u8 F.u, .int .u8 md, im2 a b c d] = some (.int .i64 0)) {dv : Bool}
    (h : ¬ (F.fin a ∧ F.fin b) ∨ ¬ (F.fin c ∧ F.fin d) ∨ dv = true ∧ zcl (F.cls c) (F.cls d) = 1) : run G T 244 [.int .u8 F.u, .int .u8 md, zA a b, zA c d, .bool dv] = some (.bool true) := by
  rw [run_k G T J.J.law12_ExactBetween]
  have f1 := ref10_Finite J F ha hb
  have f2 := ref10_Finite J F hc hd
  have c1 := ref10_Class J F hc hd
  generalize zcl (F.cls c) (F.cls d) = zw at *
  by_cases k1 : F.fin a ∧ F.fin b
  · rw [decide_eq_true k1] at f1
    by_cases k2 : F.fin c ∧ F.fin d
    · rw [decide_eq_true k2] at f2
      obtain ⟨rfl, rfl⟩ := (h.resolve_left (fun q => q k1)).resolve_left (fun q => q k2)
      clear h
      simp only [zA, im2] at *
      repeat' (first | (simp (maxSteps := 1000000) only [seval, evB, exB, c_law12_ExactBetween, st_bs2, repA_2, o1, f1, f2, c1, hK]) | (simp (maxSteps := 1000000) (disch := first | with_reducible assumption | omega) only [dxB]) | (simp only [kI_d, kG_dt, kG_df]; split) | (simp only [kI_v, kG_vt, kG_vf]; split))
    · rw [decide_eq_false k2] at f2
      clear h
      simp only [zA, im2] at *
      repeat' (first | (simp (maxSteps := 1000000) only [seval, evB, exB, c_law12_ExactBetween, st_bs2, repA_2, o1, f1, f2, hK]) | (simp (maxSteps := 1000000) (disch := first | with_reducible assumption | omega) only [dxB]) | (simp only [kI_d, kG_dt, kG_df]; split) | (simp only [kI_v, kG_vt, kG_vf]; split))
  · rw [decide_eq_false k1] at f1
    clear h
    simp only [zA, im2] at *
    repeat' (first | (simp (maxSteps := 1000000) only [seval, evB, exB, c_law12_ExactBetween, st_bs2, repA_2, o1, f1, hK]) | (simp (maxSteps := 1000000) (disch := first | with_reducible assumption | omega) only [dxB]) | (simp only [kI_d, kG_dt, kG_df]; split) | (simp only [kI_v, kG_vt, kG_vf]; split))
set_option maxHeartbeats 4000000 in
theorem law12_ExactBetween (J : Al G T g) (hK : run G T 255 [] = some (.bool true))
    {f m : Int} {a b c d : Nat} {dv : Bool} (ha : a < 18446744073709551616) (hb : b < 18446744073709551616) (hc : c < 18446744073709551616) (hd : d < 18446744073709551616) :
    run G T 244 [.int .u8 f, .int .u8 m, .agg [.int .u64 (a : Int), .int .u64 (b : Int)], .agg [.int .u64 (c : Int), .int .u64 (d : Int)], .bool dv] = some (.bool true) := by
  rcases xopens_s (G := G) (T := T) (f := f) (md := m) J ha hb hc hd with ⟨e, he, o1, o2⟩ | ⟨F, rfl, hm, ⟨⟨k1, k2⟩, k3, k4⟩, o1⟩
  · rw [run_k G T J.J.law12_ExactBetween]
    simp only [im2] at *
    repeat' (first | (simp (maxSteps := 1000000) only [seval, evB, exB, c_law12_ExactBetween, st_bs2, repA_2, o1, he, hK]) | (simp (maxSteps := 1000000) (disch := first | with_reducible assumption | omega) only [dxB]) | (simp only [kI_d, kG_dt, kG_df]; split) | (simp only [kI_v, kG_vt, kG_vf]; split))
  · show run G T 244 [.int .u8 F.u, .int .u8 m, zA a b, zA c d, .bool dv] = some (.bool true)
    by_cases h : ¬ (F.fin a ∧ F.fin b) ∨ ¬ (F.fin c ∧ F.fin d) ∨ dv = true ∧ zcl (F.cls c) (F.cls d) = 1
    · exact law12_btw_known hK J F k1 k2 k3 k4 o1 h
    · have fz : F.fin a ∧ F.fin b := Classical.not_not.1 (fun q => h (Or.inl q))
      have fw : F.fin c ∧ F.fin d := Classical.not_not.1 (fun q => h (Or.inr (Or.inl q)))
      have z1 := (zcl_fin2 F).1 fz
      have z2 := (zcl_fin2 F).1 fw
      have hs : smS F a b c d = false := by unfold smS; rw [decide_eq_true ⟨z1, z2⟩]; rfl
      have M := fun {n : Int} (hn : 1 ≤ n ∧ n ≤ 5) => exact_Mul J F hn k1 k2 k3 k4
      have Dv := fun {n : Int} (hn : 1 ≤ n ∧ n ≤ 5) => exact_Div J F hn k1 k2 k3 k4
      cases dv
      · have e : ∀ n, mulZ F n a b c d = mulR F n a b c d := fun n => by unfold mulZ; rw [hs]; rfl
        refine law12_btw J hK F k1 k2 k3 k4 o1 fz fw (fun q => by cases q) (tw_btw F hm (tm F a c false) (tm F b d true) (b := oneD) (by decide)) (tw_btw F hm (tm F a d false) (tm F b c false) (b := oneD) (by decide)) ⟨_, _, M (by decide), fun _ => ?_⟩ ⟨_, _, M hm, fun _ => ?_⟩ ⟨_, _, M (by decide), fun _ => ?_⟩ (fun q => by cases q) (fun q => by cases q) (fun q => by cases q)
        all_goals (rw [e]; exact ⟨rfl, rfl⟩)
      · have nz : ¬ zcl (F.cls c) (F.cls d) = 1 := fun q => h (Or.inr (Or.inr ⟨rfl, q⟩))
        have z3 : zcl (F.cls c) (F.cls d) = 2 := by have := zcl_range F c d; omega
        have hq := sq_m0 F k3 k4 z3
        have ht : sdS F a b c d = false := by unfold sdS; rw [decide_eq_true ⟨z1, z3⟩]; rfl
        have e : ∀ n, divZ F n a b c d = divR F n a b c d := fun n => by unfold divZ; rw [ht]; rfl
        have r : ∀ {n : Int}, (1 ≤ n ∧ n ≤ 5) → run G T 257 [.int .u8 F.u, .int .u8 n, zA a b, zA c d] = some (.tup [zrA (divR F n a b c d).1 (divR F n a b c d).2, .int .i64 0]) := fun {n} hn => by rw [← e]; exact Dv hn
        exact law12_btw J hK F k1 k2 k3 k4 o1 fz fw (fun _ => nz) (tw_btw F hm (tm F a c false) (tm F b d false) hq) (tw_btw F hm (tm F b c false) (tm F a d true) hq) ⟨_, _, M (by decide), fun q => by cases q⟩ ⟨_, _, M hm, fun q => by cases q⟩ ⟨_, _, M (by decide), fun q => by cases q⟩ (fun _ => r (by decide)) (fun _ => r hm) (fun _ => r (by decide))
theorem iv_eq0 {d : Dy} {L : Int} (hz : Nz d) (hl : LoE d L) (h : iv d L = 0) : d.m = 0 := by
  have := nz_eq hz (b := ⟨false, 0, 0⟩) ⟨fun _ => rfl, fun h => absurd rfl h⟩ hl (Or.inl rfl) (by rw [h, iv_zero rfl])
  rw [this]
theorem quo_exact (F : Fm) (md : Int) {X d b : Dy} (nX : Nz X) (nd : Nz d) (nb : Nz b) (d0 : d.m ≠ 0) (b0 : b.m ≠ 0) {K L : Int} (lX : LoE X (K + L)) (ld : LoE d K) (lb : LoE b L) (h : iv X (K + L) = iv d K * iv b L) : quoW F md X b = rndW F md d := by
  obtain ⟨m1, m2⟩ := iv_mul ld lb
  have e : X = mulD d b := nz_eq nX (Nz_mul d b) lX m2 (by rw [h, m1])
  rw [e]
  obtain ⟨n, m, x⟩ := d
  obtain ⟨n', m', x'⟩ := b
  exact quo_prod F md (nd.2 d0) (nb.2 b0)
theorem vl_round (F : Fm) (md : Int) {w : Nat} (hw : w < 2 * F.sg) (hf : F.fin w) (h0 : (F.vl w).m ≠ 0) : rndW F md (F.vl w) = (w, 0) := by
  have h5 : F.cls w ≠ 5 := by have := fin_iff.1 hf; omega
  have h1 := (w_mod F hw h5).2.1 hf
  have e := pl_eq F hw
  have n0 : w % F.sg ≠ 0 := fun q => by
    rw [q, Nat.zero_add] at e
    apply h0
    rw [e, (sgn_facts F _).2.2.2]
  have := (round_val F md (F.ng w) h1 n0).1
  rw [← e] at this
  rw [vl_val hf]; exact this
theorem mulD_one {d : Dy} (h : Nz d) : mulD d oneD = d := by
  by_cases h0 : d.m = 0
  · rw [mulD_z0 (Or.inl h0), h.1 h0]
  · unfold mulD oneD
    obtain ⟨n, m, e⟩ := d
    simp only [Bool.bne_false, Nat.mul_one, Int.add_zero]
    exact mkD_odd (h.2 h0)
theorem quo_flag0 (F : Fm) {md : Int} {a b : Dy} (na : Nz a) (h0 : a.m ≠ 0) (h1 : b.m ≠ 0) (hf : (quoW F md a b).2 = 0) : F.fin (quoW F md a b).1 ∧ (quoW F md a b).1 < 2 * F.sg ∧ a = mulD (F.vl (quoW F md a b).1) b := by
  obtain ⟨K, N, kk, u, f1, f2, f3, f4, _, _, _, f5⟩ := quo_core F h0 h1 (Or.inl hf)
  have f5 := f5 hf
  refine ⟨f1, f2, ?_⟩
  rw [vl_val f1, f3]
  have lb : LoE b b.e := Or.inr (Int.le_refl _)
  have lv : LoE (mkD (a.n != b.n) K u) (u - kk) := LoE_mk (by omega)
  obtain ⟨m1, m2⟩ := iv_mul lv lb
  have la : LoE a (u - kk + b.e) := Or.inr (by omega)
  refine nz_eq na (Nz_mul _ _) la m2 ?_
  rw [m1, iv_mk (by omega)]
  unfold iv
  rw [show (a.e - (u - kk + b.e)).toNat = N by omega, show (u - (u - (kk : Int))).toNat = kk by omega, show (b.e - b.e).toNat = 0 by omega, Nat.pow_zero, Nat.mul_one, f5]
  have e : K * b.m * 2 ^ kk = K * 2 ^ kk * b.m := by rw [Nat.mul_right_comm]
  rw [e, Int.natCast_mul (K * 2 ^ kk)]
  generalize ((K * 2 ^ kk : Nat) : Int) = x
  generalize (b.m : Int) = y
  cases a.n <;> cases b.n <;> simp [Int.neg_mul, Int.mul_neg]
theorem upB_sym {md : Int} (h : md = 1 ∨ md = 2 ∨ md = 3) (n o x y : Bool) : upB md n o x y = upB md false o x y := by
  rcases h with rfl | rfl | rfl <;> simp [upB]
theorem ovs_sym {F : Fm} {md : Int} (h : md = 1 ∨ md = 2 ∨ md = 3) (n : Bool) : ovs F md n = ovs F md false := by
  rcases h with rfl | rfl | rfl <;> simp [ovs]
theorem sW_sym (F : Fm) {md : Int} (h : md = 1 ∨ md = 2 ∨ md = 3) (Q : Nat) (more : Bool) (E : Int) (n : Bool) : sW F md n Q more E = ((sW F md false Q more E).1 + F.sgn n, (sW F md false Q more E).2) := by
  have hr : ∀ n M s k, rdN md n M s k = rdN md false M s k := fun n M s k => by unfold rdN; rw [upB_sym h n]
  have s0 : F.sgn false = 0 := rfl
  unfold sW wordOf
  simp only [hr n]
  by_cases hw : F.wide < blen (rdN md false Q more (F.eOf (E + blen Q) - E).toNat).1 + F.eOf (E + blen Q)
  · simp only [if_pos hw]; rw [ovr_eq, ovr_eq, ovs_sym h n, s0]; rfl
  · simp only [if_neg hw]; rw [s0]; rfl
theorem quo_turn (F : Fm) {md : Int} (h : md = 1 ∨ md = 2 ∨ md = 3) {a b : Dy} (h0 : a.m ≠ 0) (h1 : b.m ≠ 0) : quoW F md (negD a) b = (F.flip (quoW F md a b).1, (quoW F md a b).2) := by
  have hi := fm_i0 F
  obtain ⟨z, fl, hz⟩ : ∃ z fl, ∀ n, sW F md n (a.m * 2 ^ quoN 64 a.m b.m / b.m) (!decide (a.m * 2 ^ quoN 64 a.m b.m % b.m = 0)) (a.e - b.e - (quoN 64 a.m b.m : Nat)) = (z + F.sgn n, fl) := ⟨_, _, sW_sym F h (a.m * 2 ^ quoN 64 a.m b.m / b.m) (!decide (a.m * 2 ^ quoN 64 a.m b.m % b.m = 0)) (a.e - b.e - (quoN 64 a.m b.m : Nat))⟩
  obtain ⟨s0, o, x, y, hs⟩ := quo_size F h0 h1
  have e1 := hs md (by omega)
  have k := (sz_between F (md := md) (by omega) (a.n != b.n) o x y s0).2.2.2
  have e2 : quoW F md a b = (z + F.sgn (a.n != b.n), fl) := hz _
  have e3 : quoW F md (negD a) b = (z + F.sgn ((!a.n) != b.n), fl) := by
    unfold negD; rw [if_neg h0]; exact hz _
  rw [e2] at e1
  simp only at e1 k
  have hz0 : z ≤ F.i0 := by omega
  obtain ⟨q1, q2⟩ := sgn_mod (F := F) (s := z) (a.n != b.n) (by omega)
  rw [e3, e2]
  unfold Fm.flip
  simp only
  rw [q1, q2]
  all_goals (cases a.n <;> cases b.n <;> rfl)
theorem mulD_comm (a b : Dy) : mulD a b = mulD b a := by
  unfold mulD
  rw [Nat.mul_comm, Int.add_comm, show (a.n != b.n) = (b.n != a.n) by cases a.n <;> cases b.n <;> rfl]
theorem tm_comm (F : Fm) (a b : Nat) (s : Bool) : tm F a b s = tm F b a s := by
  unfold tm
  rw [mulD_comm, show (F.ng a != F.ng b) = (F.ng b != F.ng a) by cases F.ng a <;> cases F.ng b <;> rfl]
theorem tm_iv (F : Fm) {a b : Nat} {L : Int} (la : LoE (F.vl a) L) (lb : LoE (F.vl b) L) (s : Bool) : LoE (tm F a b s).1 (L + L) ∧ iv (tm F a b s).1 (L + L) = if s then -(iv (F.vl a) L * iv (F.vl b) L) else iv (F.vl a) L * iv (F.vl b) L := by
  obtain ⟨m1, m2⟩ := iv_mul la lb
  unfold tm
  cases s
  · exact ⟨m2, m1⟩
  · exact ⟨LoE_neg m2, by simp only [if_true]; rw [iv_neg, m1]⟩
theorem pt_wd (F : Fm) {md : Int} (hm : 1 ≤ md ∧ md ≤ 5) (X : Dy) (s : Bool) {b : Dy} (hb : b.m ≠ 0) : Wd F (ptQ F md X s b).1 := (part_between F hm (X := X) hb s s s).1.2.1
theorem pt_flag0 (F : Fm) {md : Int} (hm : 1 ≤ md ∧ md ≤ 5) {X : Dy} {s : Bool} (nX : Nz X) (h : (ptQ F md X s oneD).2 = 0) : F.fin (ptQ F md X s oneD).1 ∧ F.vl (ptQ F md X s oneD).1 = X := by
  unfold ptQ at h ⊢
  by_cases h0 : X.m = 0
  · simp only [if_pos h0]
    obtain ⟨_, _, q3, q4⟩ := sgn_facts F s
    exact ⟨fin_iff.2 (Or.inl q3), by rw [q4, nX.1 h0]⟩
  · rw [if_neg h0] at h
    simp only [if_neg h0]
    obtain ⟨f1, _, f3⟩ := quo_flag0 F nX h0 (show oneD.m ≠ 0 by decide) h
    exact ⟨f1, by rw [mulD_one (Nz_vl F _)] at f3; exact f3.symm⟩
theorem pt_exact (F : Fm) {md : Int} (hm : 1 ≤ md ∧ md ≤ 5) {w : Nat} (hw : w < 2 * F.sg) (hf : F.fin w) {X b : Dy} (nX : Nz X) (nb : Nz b) (hb : b.m ≠ 0) {K L : Int} (lX : LoE X (K + L)) (ld : LoE (F.vl w) K) (lb : LoE b L) (h : iv X (K + L) = iv (F.vl w) K * iv b L) (s : Bool) : (ptQ F md X s b).2 = 0 ∧ Near F (ptQ F md X s b).1 w := by
  unfold ptQ
  by_cases h0 : (F.vl w).m = 0
  · have hX : X.m = 0 := iv_eq0 nX lX (by rw [h, iv_zero h0, Int.zero_mul])
    simp only [if_pos hX]
    exact ⟨trivial, Or.inr ⟨(sgn_facts F s).2.2.1, (cls_val1 hw hf).2 h0⟩⟩
  · have hX : X.m ≠ 0 := fun q => by
      rw [iv_zero q] at h
      rcases Int.mul_eq_zero.1 h.symm with k | k
      · exact h0 (iv_eq0 (Nz_vl F w) ld k)
      · exact hb (iv_eq0 nb lb k)
    simp only [if_neg hX]
    rw [quo_exact F md nX (Nz_vl F w) nb h0 hb lX ld lb h, vl_round F md hw hf h0]
    exact ⟨rfl, Or.inl rfl⟩
theorem back (F : Fm) {md : Int} (hm : 1 ≤ md ∧ md ≤ 5) {a b c d : Nat} (ha : a < 2 * F.sg) (hb : b < 2 * F.sg) (hc : c < 2 * F.sg) (hd : d < 2 * F.sg) (fa : F.fin a) (fb : F.fin b) (hz : zcl (F.cls c) (F.cls d) = 2) (e1 : (mulR F md a b c d).1.2 = 0) (e2 : (mulR F md a b c d).2.2 = 0) :
    (F.fin (mulR F md a b c d).1.1 ∧ F.fin (mulR F md a b c d).2.1) ∧
    ((divR F md (mulR F md a b c d).1.1 (mulR F md a b c d).2.1 c d).1.2 = 0 ∧ Near F (divR F md (mulR F md a b c d).1.1 (mulR F md a b c d).2.1 c d).1.1 a) ∧
    ((divR F md (mulR F md a b c d).1.1 (mulR F md a b c d).2.1 c d).2.2 = 0 ∧ Near F (divR F md (mulR F md a b c d).1.1 (mulR F md a b c d).2.1 c d).2.1 b) := by
  obtain ⟨fc, fd⟩ := (zcl_fin2 F (a := c) (b := d)).2 (by omega)
  have hq := sq_m0 F hc hd hz
  obtain ⟨p1, v1⟩ := pt_flag0 F hm (Nz_add (Bd_tm F a c false).2 (Bd_tm F b d true).2) e1
  obtain ⟨p2, v2⟩ := pt_flag0 F hm (Nz_add (Bd_tm F a d false).2 (Bd_tm F b c false).2) e2
  have la := LoE_vl fa
  have lb := LoE_vl fb
  have lc := LoE_vl fc
  have ld := LoE_vl fd
  generalize F.low = L at *
  obtain ⟨x1, y1⟩ := tm_iv F la lc false
  obtain ⟨x2, y2⟩ := tm_iv F lb ld true
  obtain ⟨x3, y3⟩ := tm_iv F la ld false
  obtain ⟨x4, y4⟩ := tm_iv F lb lc false
  obtain ⟨i1, l1⟩ := iv_add x1 x2
  obtain ⟨i2, l2⟩ := iv_add x3 x4
  rw [y1, y2] at i1
  rw [y3, y4] at i2
  simp only [Bool.false_eq_true, if_false, if_true] at i1 i2
  have sq := iv_sq F lc ld
  have lsq : LoE (sqD F c d) (L + L) := (iv_add (iv_mul lc lc).2 (iv_mul ld ld).2).2
  rw [show 2 * L = L + L by omega] at sq
  have P : ∀ {p w : Nat} {X : Dy} {s : Bool}, F.vl p = X → LoE X (L + L) → LoE (F.vl w) L → LoE (tm F p w s).1 (L + (L + L)) ∧ iv (tm F p w s).1 (L + (L + L)) = if s then -(iv X (L + L) * iv (F.vl w) L) else iv X (L + L) * iv (F.vl w) L := fun {p w X s} hp lX lw => by
    obtain ⟨m1, m2⟩ := iv_mul lX lw
    rw [show L + L + L = L + (L + L) by omega] at m1 m2
    unfold tm
    rw [hp]
    cases s
    · exact ⟨m2, m1⟩
    · exact ⟨LoE_neg m2, by simp only [if_true]; rw [iv_neg, m1]⟩
  refine ⟨⟨p1, p2⟩, ?_, ?_⟩
  · obtain ⟨q1, r1⟩ := P (s := false) v1 l1 lc
    obtain ⟨q2, r2⟩ := P (s := false) v2 l2 ld
    obtain ⟨i3, l3⟩ := iv_add q1 q2
    refine pt_exact F hm ha fa (Nz_add (Bd_tm F _ _ _).2 (Bd_tm F _ _ _).2) (Nz_sq F c d) hq l3 la lsq ?_ _
    rw [i3, r1, r2, i1, i2, sq]
    simp only [Bool.false_eq_true, if_false]
    generalize iv (F.vl a) L = x
    generalize iv (F.vl b) L = y
    generalize iv (F.vl c) L = z
    generalize iv (F.vl d) L = w
    grind
  · obtain ⟨q1, r1⟩ := P (s := false) v2 l2 lc
    obtain ⟨q2, r2⟩ := P (s := true) v1 l1 ld
    obtain ⟨i3, l3⟩ := iv_add q1 q2
    refine pt_exact F hm hb fb (Nz_add (Bd_tm F _ _ _).2 (Bd_tm F _ _ _).2) (Nz_sq F c d) hq l3 lb lsq ?_ _
    rw [i3, r1, r2, i1, i2, sq]
    simp only [Bool.false_eq_true, if_false, if_true]
    generalize iv (F.vl a) L = x
    generalize iv (F.vl b) L = y
    generalize iv (F.vl c) L = z
    generalize iv (F.vl d) L = w
    grind
set_option maxHeartbeats 16000000 in
theorem law12_ExactBack (J : Al G T g) (hK : run G T 255 [] = some (.bool true))
    {f m : Int} {a b c d : Nat} (ha : a < 18446744073709551616) (hb : b < 18446744073709551616) (hc : c < 18446744073709551616) (hd : d < 18446744073709551616) :
    run G T 245 [.int .u8 f, .int .u8 m, .agg [.int .u64 (a : Int), .int .u64 (b : Int)], .agg [.int .u64 (c : Int), .int .u64 (d : Int)]] = some (.bool true) := by
  rw [run_k G T J.J.law12_ExactBack]
  rcases xopens_s (G := G) (T := T) (f := f) (md := m) J ha hb hc hd with ⟨e, he, o1, o2⟩ | ⟨F, rfl, hm, ⟨⟨k1, k2⟩, k3, k4⟩, o1⟩
  · simp only [im2] at *
    repeat' (first | (simp (maxSteps := 1000000) only [seval, evB, exB, c_law12_ExactBack, st_bs2, repA_2, o1, he, hK]) | (simp (maxSteps := 1000000) (disch := first | with_reducible assumption | omega) only [dxB]) | (simp only [kI_d, kG_dt, kG_df]; split) | (simp only [kI_v, kG_vt, kG_vf]; split))
  · have f1 := ref10_Finite J F k1 k2
    have c1 := ref10_Class J F k3 k4
    by_cases fz : F.fin a ∧ F.fin b
    · rw [decide_eq_true fz] at f1
      by_cases hz : zcl (F.cls c) (F.cls d) = 2
      · rw [hz] at c1
        have r1 := exact_Mul J F hm k1 k2 k3 k4
        have z1 := (zcl_fin2 F).1 fz
        rw [show mulZ F m a b c d = mulR F m a b c d by unfold mulZ smS; rw [decide_eq_true ⟨z1, by omega⟩]; rfl] at r1
        have w1 : Wd F (mulR F m a b c d).1.1 := pt_wd F hm _ _ (show oneD.m ≠ 0 by decide)
        have w2 : Wd F (mulR F m a b c d).2.1 := pt_wd F hm _ _ (show oneD.m ≠ 0 by decide)
        have BK := back F hm k1 k2 k3 k4 fz.1 fz.2 hz
        have r2 := exact_Div J F hm w1.1 w2.1 k3 k4
        generalize mulR F m a b c d = M at *
        by_cases e1 : M.1.2 = 0
        · by_cases e2 : M.2.2 = 0
          · obtain ⟨fp, ⟨g1, g2⟩, g3, g4⟩ := BK e1 e2
            rw [show divZ F m M.1.1 M.2.1 c d = divR F m M.1.1 M.2.1 c d by unfold divZ sdS; rw [decide_eq_true ⟨(zcl_fin2 F).1 fp, hz⟩]; rfl] at r2
            have u1 : Wd F (divR F m M.1.1 M.2.1 c d).1.1 := pt_wd F hm _ _ (sq_m0 F k3 k4 hz)
            have u2 : Wd F (divR F m M.1.1 M.2.1 c d).2.1 := pt_wd F hm _ _ (sq_m0 F k3 k4 hz)
            generalize divR F m M.1.1 M.2.1 c d = Q at *
            have al := law12_alike J F u1.1 u2.1 k1 k2 g2 g4
            have e1' : (M.1.2 : Int) = 0 := by omega
            have e2' : (M.2.2 : Int) = 0 := by omega
            have g1' : (Q.1.2 : Int) = 0 := by omega
            have g3' : (Q.2.2 : Int) = 0 := by omega
            simp only [zA, zrA, im2] at *
            repeat' (first | (simp (maxSteps := 1000000) only [seval, evB, exB, c_law12_ExactBack, st_bs2, repA_2, o1, f1, c1, r1, e1', e2', r2, g1', g3', al, hK]) | (simp (maxSteps := 1000000) (disch := first | with_reducible assumption | omega) only [dxB]) | (simp only [kI_d, kG_dt, kG_df]; split) | (simp only [kI_v, kG_vt, kG_vf]; split))
          · have e1' : (M.1.2 : Int) = 0 := by omega
            have e2' : ¬ (M.2.2 : Int) = 0 := by omega
            simp only [zA, zrA, im2] at *
            repeat' (first | (simp (maxSteps := 1000000) only [seval, evB, exB, c_law12_ExactBack, st_bs2, repA_2, o1, f1, c1, r1, e1', e2', hK]) | (simp (maxSteps := 1000000) (disch := first | with_reducible assumption | omega) only [dxB]) | (simp only [kI_d, kG_dt, kG_df]; split) | (simp only [kI_v, kG_vt, kG_vf]; split))
        · have e1' : ¬ (M.1.2 : Int) = 0 := by omega
          simp only [zA, zrA, im2] at *
          repeat' (first | (simp (maxSteps := 1000000) only [seval, evB, exB, c_law12_ExactBack, st_bs2, repA_2, o1, f1, c1, r1, e1', hK]) | (simp (maxSteps := 1000000) (disch := first | with_reducible assumption | omega) only [dxB]) | (simp only [kI_d, kG_dt, kG_df]; split) | (simp only [kI_v, kG_vt, kG_vf]; split))
      · generalize zcl (F.cls c) (F.cls d) = zc at *
        simp only [zA, im2] at *
        repeat' (first | (simp (maxSteps := 1000000) only [seval, evB, exB, c_law12_ExactBack, st_bs2, repA_2, o1, f1, c1, hz, hK]) | (simp (maxSteps := 1000000) (disch := first | with_reducible assumption | omega) only [dxB]) | (simp only [kI_d, kG_dt, kG_df]; split) | (simp only [kI_v, kG_vt, kG_vf]; split))
    · rw [decide_eq_false fz] at f1
      simp only [zA, im2] at *
      repeat' (first | (simp (maxSteps := 1000000) only [seval, evB, exB, c_law12_ExactBack, st_bs2, repA_2, o1, f1, hK]) | (simp (maxSteps := 1000000) (disch := first | with_reducible assumption | omega) only [dxB]) | (simp only [kI_d, kG_dt, kG_df]; split) | (simp only [kI_v, kG_vt, kG_vf]; split))
theorem sP_comm (md : Int) {p q : Int × Bool} (hp : SdC p) (hq : SdC q) : sP md p q = sP md q p := by
  rcases hp with rfl | rfl | rfl | rfl <;> rcases hq with rfl | rfl | rfl | rfl <;> simp [sP]
theorem sT_comm (p q : Int × Bool) : sT p q = sT q p := by
  unfold sT; rw [Int.mul_comm, show (p.2 != q.2) = (q.2 != p.2) by cases p.2 <;> cases q.2 <;> rfl]
theorem smW_comm (F : Fm) (md : Int) (a b c d : Nat) : smW F md c d a b = smW F md a b c d := by
  have hs : smP F md c d a b = smP F md a b c d := by
    unfold smP bxT
    rw [sT_comm (bx F c d).1 (bx F a b).1, sT_comm (bx F c d).2 (bx F a b).2, sT_comm (bx F c d).1 (bx F a b).2, sT_comm (bx F c d).2 (bx F a b).1,
      sP_comm md (sT_c (bx_c F a b).2 (bx_c F c d).1) (sT_c (bx_c F a b).1 (bx_c F c d).2)]
  unfold smW
  rw [hs]
  simp only [And.comm, Or.comm]
theorem mulZ_comm (F : Fm) (md : Int) (a b c d : Nat) : mulZ F md c d a b = mulZ F md a b c d := by
  have h1 : smS F c d a b = smS F a b c d := by unfold smS; simp only [And.comm]
  have h2 : mulR F md c d a b = mulR F md a b c d := by
    unfold mulR
    rw [tm_comm F c a, tm_comm F d b, tm_comm F c b, tm_comm F d a, tw_comm F md (Bd_tm F b c false).2 (Bd_tm F a d false).2]
  unfold mulZ
  rw [h1, h2, smW_comm]
theorem flip_Near (F : Fm) {a b : Nat} (h : F.cls a = 1) (hb : F.cls b = 1) (lb : b < 2 * F.sg) : Near F a (F.flip b) := Or.inr ⟨h, by rw [(flip_facts lb).2.2.1]; exact hb⟩
theorem pt_turn (F : Fm) {md : Int} (h : md = 1 ∨ md = 2 ∨ md = 3) (X : Dy) (s t : Bool) {b : Dy} (hb : b.m ≠ 0) : (ptQ F md (negD X) s b).2 = (ptQ F md X t b).2 ∧ Near F (ptQ F md (negD X) s b).1 (F.flip (ptQ F md X t b).1) := by
  unfold ptQ
  by_cases h0 : X.m = 0
  · have h1 : (negD X).m = 0 := by unfold negD; rw [if_pos h0]; exact h0
    simp only [if_pos h0, if_pos h1]
    exact ⟨trivial, flip_Near F (sgn_facts F s).2.2.1 (sgn_facts F t).2.2.1 (sgn_facts F t).1⟩
  · have h1 : ¬ (negD X).m = 0 := by unfold negD; rw [if_neg h0]; exact h0
    simp only [if_neg h0, if_neg h1]
    rw [quo_turn F h h0 hb]
    exact ⟨rfl, Or.inl rfl⟩
theorem pt_same (F : Fm) (md : Int) (X : Dy) (s t : Bool) (b : Dy) : (ptQ F md X s b).2 = (ptQ F md X t b).2 ∧ Near F (ptQ F md X s b).1 (ptQ F md X t b).1 := by
  unfold ptQ
  by_cases h0 : X.m = 0
  · simp only [if_pos h0]
    exact ⟨trivial, Or.inr ⟨(sgn_facts F s).2.2.1, (sgn_facts F t).2.2.1⟩⟩
  · simp only [if_neg h0]
    exact ⟨trivial, Or.inl rfl⟩
theorem negD_add {a b : Dy} (ha : Nz a) (hb : Nz b) : addD (negD a) (negD b) = negD (addD a b) := by
  obtain ⟨L, l1, l2⟩ : ∃ L : Int, LoE a L ∧ LoE b L := ⟨min a.e b.e, Or.inr (by omega), Or.inr (by omega)⟩
  obtain ⟨i1, m1⟩ := iv_add (LoE_neg l1) (LoE_neg l2)
  obtain ⟨i2, m2⟩ := iv_add l1 l2
  refine nz_eq (Nz_add (Nz_neg ha) (Nz_neg hb)) (Nz_neg (Nz_add ha hb)) m1 (LoE_neg m2) ?_
  rw [i1, iv_neg, iv_neg, iv_neg, i2]; omega
theorem tm_flip (F : Fm) {b c : Nat} (hb : b < 2 * F.sg) (s : Bool) : (tm F (F.flip b) c s).1 = negD (tm F b c s).1 := by
  unfold tm
  rw [(flip_facts hb).2.2.2, mulD_comm (negD _), mulD_neg, mulD_comm (F.vl c)]
  cases s <;> rfl
theorem tm_true (F : Fm) (a b : Nat) : (tm F a b true).1 = negD (tm F a b false).1 := rfl
theorem turned (F : Fm) {md : Int} (h : md = 1 ∨ md = 2 ∨ md = 3) {a b c d : Nat} (hb : b < 2 * F.sg) :
    ((mulR F md (F.flip b) a c d).1.2 = (mulR F md a b c d).2.2 ∧ Near F (mulR F md (F.flip b) a c d).1.1 (F.flip (mulR F md a b c d).2.1)) ∧
    ((mulR F md (F.flip b) a c d).2.2 = (mulR F md a b c d).1.2 ∧ Near F (mulR F md (F.flip b) a c d).2.1 (mulR F md a b c d).1.1) := by
  unfold mulR tw
  simp only
  rw [tm_flip F hb, tm_flip F hb, tm_true F a d, tm_true F b d]
  have n1 := (Bd_tm F b c false).2
  have n2 := (Bd_tm F a d false).2
  rw [negD_add n1 n2, addD_comm n1 n2, addD_comm (Nz_neg (Bd_tm F b d false).2) (Bd_tm F a c false).2]
  exact ⟨pt_turn F h _ _ _ (show oneD.m ≠ 0 by decide), pt_same F md _ _ _ _⟩
theorem ref10_Turn1 (J : Al G T g) (F : Fm) {a b : Nat} (ha : a < 2 * F.sg) (hb : b < 2 * F.sg) (na : F.cls a ≠ 5) (nb : F.cls b ≠ 5) :
    run G T 170 [.int .u8 F.u, zA a b, .int .i64 1] = some (zA (F.flip b) a) := by
  have c0 := ref10_Canon J F ha hb
  have m1 := ref10_Minus J F hb
  rw [show F.can a = a by unfold Fm.can; rw [if_neg na], show F.can b = b by unfold Fm.can; rw [if_neg nb]] at c0
  rw [show F.min b = F.flip b by unfold Fm.min; rw [if_neg nb]] at m1
  rw [run_k G T J.U.ref10_Turn]
  generalize F.flip b = fb at *
  have hre : (1 : Int).tmod 4 = 1 := rfl
  have w1 : IntKind.i64.wrap (1 + 4) = 5 := rfl
  have w2 : (5 : Int).tmod 4 = 1 := rfl
  have u1 : IntKind.i64.wrap (1 - 1) = 0 := rfl
  have u4 : IntKind.i64.wrap 0 = 0 := rfl
  have u5 : IntKind.i64.wrap 5 = 5 := rfl
  simp only [zA] at *
  repeat' (first | (simp (maxSteps := 1000000) only [seval, evB, exB, c_ref10_Turn, c0, hre, w1, w2, tn_loop, c_ref10_Turn_b1, m1, u1, u4, u5]) | (simp (maxSteps := 1000000) (disch := first | with_reducible assumption | omega) only [dxB]) | (simp only [kI_d, kG_dt, kG_df]; split) | (simp only [kI_v, kG_vt, kG_vf]; split))
set_option maxHeartbeats 16000000 in
theorem law12_ExactCommutes (J : Al G T g) (hK : run G T 255 [] = some (.bool true))
    {f m : Int} {a b c d : Nat} (ha : a < 18446744073709551616) (hb : b < 18446744073709551616) (hc : c < 18446744073709551616) (hd : d < 18446744073709551616) :
    run G T 246 [.int .u8 f, .int .u8 m, .agg [.int .u64 (a : Int), .int .u64 (b : Int)], .agg [.int .u64 (c : Int), .int .u64 (d : Int)]] = some (.bool true) := by
  rw [run_k G T J.J.law12_ExactCommutes]
  rcases xopens_s (G := G) (T := T) (f := f) (md := m) J ha hb hc hd with ⟨e, he, o1, o2⟩ | ⟨F, rfl, hm, ⟨⟨k1, k2⟩, k3, k4⟩, o1⟩
  · simp only [im2] at *
    repeat' (first | (simp (maxSteps := 1000000) only [seval, evB, exB, c_law12_ExactCommutes, st_bs2, repA_2, o1, he, hK]) | (simp (maxSteps := 1000000) (disch := first | with_reducible assumption | omega) only [dxB]) | (simp only [kI_d, kG_dt, kG_df]; split) | (simp only [kI_v, kG_vt, kG_vf]; split))
  · have f1 := ref10_Finite J F k1 k2
    have f2 := ref10_Finite J F k3 k4
    have r1 := exact_Add J F hm k1 k2 k3 k4
    have r2 := exact_Add J F hm k3 k4 k1 k2
    have r3 := exact_Mul J F hm k1 k2 k3 k4
    have r4 := exact_Mul J F hm k3 k4 k1 k2
    rw [show addW F m c a = addW F m a c from addP_comm F m (Nz_vl F c) (Nz_vl F a), show addW F m d b = addW F m b d from addP_comm F m (Nz_vl F d) (Nz_vl F b)] at r2
    rw [mulZ_comm] at r4
    generalize addW F m a c = A1 at *
    generalize addW F m b d = A2 at *
    by_cases hh : m ≤ 3 ∧ (F.fin a ∧ F.fin b) ∧ F.fin c ∧ F.fin d
    · obtain ⟨hm3, fz, fw⟩ := hh
      have hm' : m = 1 ∨ m = 2 ∨ m = 3 := by omega
      rw [decide_eq_true fz] at f1
      rw [decide_eq_true fw] at f2
      have sm : ∀ {x y : Nat}, F.fin x → F.fin y → mulZ F m x y c d = mulR F m x y c d := fun {x y} fx fy => by
        unfold mulZ smS; rw [decide_eq_true ⟨(zcl_fin2 F).1 ⟨fx, fy⟩, (zcl_fin2 F).1 fw⟩]; rfl
      rw [sm fz.1 fz.2] at r3 r4
      have ff := flip_facts k2
      have r5 := exact_Mul J F hm ff.1 k1 k3 k4
      rw [sm (flip_fin k2 fz.2) fz.1] at r5
      have t1 := ref10_Turn1 J F k1 k2 (by have := fin_iff.1 fz.1; omega) (by have := fin_iff.1 fz.2; omega)
      obtain ⟨⟨q1, q2⟩, q3, q4⟩ := turned F hm' (a := a) (c := c) (d := d) k2
      have w1 : Wd F (mulR F m a b c d).1.1 := pt_wd F hm _ _ (show oneD.m ≠ 0 by decide)
      have w2 : Wd F (mulR F m a b c d).2.1 := pt_wd F hm _ _ (show oneD.m ≠ 0 by decide)
      have w3 : Wd F (mulR F m (F.flip b) a c d).1.1 := pt_wd F hm _ _ (show oneD.m ≠ 0 by decide)
      have w4 : Wd F (mulR F m (F.flip b) a c d).2.1 := pt_wd F hm _ _ (show oneD.m ≠ 0 by decide)
      have t2 := ref10_Turn1 J F w1.1 w2.1 w1.2 w2.2
      have al := law12_alike J F w3.1 w4.1 (flip_facts w2.1).1 w1.1 q2 q4
      generalize mulR F m a b c d = M at *
      generalize mulR F m (F.flip b) a c d = N at *
      generalize F.flip b = fb at *
      generalize F.flip M.2.1 = fm at *
      have q1' : (N.1.2 : Int) = (M.2.2 : Int) := by omega
      have q3' : (N.2.2 : Int) = (M.1.2 : Int) := by omega
      have hm4 : ¬ 3 < m := by omega
      clear q1 q2 q3 q4 w1 w2 w3 w4 sm ff hm' hm
      simp only [zA, zrA, im2] at *
      repeat' (first | (simp (maxSteps := 1000000) only [seval, evB, exB, c_law12_ExactCommutes, st_bs2, repA_2, st_eqs, zr_selfn, o1, r1, r2, r3, r4, hm4, f1, f2, t1, r5, t2, al, q1', q3', hK]) | (simp (maxSteps := 1000000) (disch := first | with_reducible assumption | omega) only [dxB]) | (simp only [kI_d, kG_dt, kG_df]; split) | (simp only [kI_v, kG_vt, kG_vf]; split))
    · generalize mulZ F m a b c d = M at *
      by_cases hm3 : 3 < m
      · simp only [zA, zrA, im2] at *
        repeat' (first | (simp (maxSteps := 1000000) only [seval, evB, exB, c_law12_ExactCommutes, st_bs2, repA_2, st_eqs, zr_selfn, o1, r1, r2, r3, r4, hm3, hK]) | (simp (maxSteps := 1000000) (disch := first | with_reducible assumption | omega) only [dxB]) | (simp only [kI_d, kG_dt, kG_df]; split) | (simp only [kI_v, kG_vt, kG_vf]; split))
      · by_cases fz : F.fin a ∧ F.fin b
        · have fw : ¬ (F.fin c ∧ F.fin d) := fun q => hh ⟨by omega, fz, q⟩
          rw [decide_eq_true fz] at f1
          rw [decide_eq_false fw] at f2
          simp only [zA, zrA, im2] at *
          repeat' (first | (simp (maxSteps := 1000000) only [seval, evB, exB, c_law12_ExactCommutes, st_bs2, repA_2, st_eqs, zr_selfn, o1, r1, r2, r3, r4, hm3, f1, f2, hK]) | (simp (maxSteps := 1000000) (disch := first | with_reducible assumption | omega) only [dxB]) | (simp only [kI_d, kG_dt, kG_df]; split) | (simp only [kI_v, kG_vt, kG_vf]; split))
        · rw [decide_eq_false fz] at f1
          simp only [zA, zrA, im2] at *
          repeat' (first | (simp (maxSteps := 1000000) only [seval, evB, exB, c_law12_ExactCommutes, st_bs2, repA_2, st_eqs, zr_selfn, o1, r1, r2, r3, r4, hm3, f1, hK]) | (simp (maxSteps := 1000000) (disch := first | with_reducible assumption | omega) only [dxB]) | (simp only [kI_d, kG_dt, kG_df]; split) | (simp only [kI_v, kG_vt, kG_vf]; split))
end Go.Cv
