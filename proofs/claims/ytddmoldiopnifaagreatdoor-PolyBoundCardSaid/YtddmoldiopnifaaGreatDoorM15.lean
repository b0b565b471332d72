/-
  A part of the proof of the statements of this seat (texts that the law's own text leans on): no condition.
-/
import Derived.Test.YtddmoldiopnifaaGreatDoorM14
set_option linter.unusedVariables false
set_option linter.unusedSimpArgs false
namespace Go.Cv
variable {G : Nat → Option (List AV)} {T : Tbl} {g : Nat}
theorem isq_eq {X r : Nat} (h1 : r * r ≤ X) (h2 : X < (r + 1) * (r + 1)) : isq X = r := by
  obtain ⟨k1, k2⟩ := isq_spec X
  have a : isq X < r + 1 := Nat.lt_of_not_le fun h => absurd (Nat.le_trans (Nat.mul_le_mul h h) k1) (by omega)
  have b : r < isq X + 1 := Nat.lt_of_not_le fun h => absurd (Nat.le_trans (Nat.mul_le_mul h h) h1) (by omega)
  omega
def uNk (F : Fm) (p : Nat × Nat) (r w : Nat) : Bool :=
  let d := sqD F p.1 p.2
  let X := d.m * 2 ^ rootP d.e
  decide (zcl (F.cls p.1) (F.cls p.2) ≠ 3) && decide (zcl (F.cls p.1) (F.cls p.2) ≠ 4) && decide (d.m ≠ 0) && decide (r * r ≤ X) && decide (X < (r + 1) * (r + 1)) && decide ((sW F 4 false r (!decide (r * r = X)) ((d.e - (rootP d.e : Nat)) / 2)).1 = w)
theorem uN_k {F : Fm} {p : Nat × Nat} {r w : Nat} (h : uNk F p r w = true) : uN F p = w := by
  simp only [uNk, Bool.and_eq_true, decide_eq_true_eq] at h
  obtain ⟨⟨⟨⟨⟨h1, h2⟩, h3⟩, h4⟩, h5⟩, h6⟩ := h
  unfold uN absZ toldW rtW rootW
  rw [if_neg h1, if_neg h2, if_neg h3, isq_eq h4 h5]
  exact h6
theorem evE_known : evE .d (4613937818241073152, 0) [(4607182418800017408, 0), (4611686018427387904, 0)] = ((4619567317775286272, 0), 4384817187198599169) := by
  have z1 : zM .d (4611686018427387904, 0) (4613937818241073152, 0) = (4618441417868443648, 0) := by decide +kernel
  have z2 : zP .d (4618441417868443648, 0) (4607182418800017408, 0) = (4619567317775286272, 0) := by decide +kernel
  have n1 : uN .d (4613937818241073152, 0) = 4613937818241073152 := uN_k (r := 110680464442257309696) (by decide +kernel)
  have n2 : uN .d (4618441417868443648, 0) = 4618441417868443648 := uN_k (r := 110680464442257309696) (by decide +kernel)
  have n3 : uN .d (4619567317775286272, 0) = 4619567317775286272 := uN_k (r := 258254417031933722624) (by decide +kernel)
  have p1 : pE .d (4613937818241073152, 0) [(4607182418800017408, 0), (4611686018427387904, 0)] = ((4619567317775286272, 0), 4384817187198599169) := by
    simp only [pE, stE, z1, z2, n1, n2, n3, Prod.mk.injEq, true_and]
    decide +kernel
  unfold evE bdE
  rw [p1, if_neg (by simp), if_pos (by decide +kernel)]
theorem v3_eqs (a b c a' b' c' : Int) : eqsA false [false, false, false] (.agg [.int .u64 a, .int .u64 b, .int .u64 c]) (.agg [.int .u64 a', .int .u64 b', .int .u64 c']) = some (.bool (decide (a = a' ∧ b = b' ∧ c = c'))) := by
  simp [eqsA, kindsA, eqCells, Bool.decide_and]
  all_goals rfl
theorem law27_known (J : Al G T g) (hP : HasK g T) : run G T 345 [] = some (.bool true) := by
  rw [run_k G T hP.law27_known]
  have e := poly_Eval J hP .d (z := false) (l := [(4607182418800017408, 0), (4611686018427387904, 0)]) (a := 4613937818241073152) (b := 0) (by intro a ha; simp at ha; rcases ha with rfl | rfl <;> decide) (by decide) (by decide) (opC_ok (by decide) ⟨by intro a ha; simp at ha; rcases ha with rfl | rfl <;> (constructor <;> decide), by constructor <;> decide⟩ ⟨by intro a ha; simp at ha; rcases ha with rfl | rfl <;> (constructor <;> decide), by constructor <;> decide⟩) (by decide) (by intro a ha; simp at ha; rcases ha with rfl | rfl <;> (constructor <;> decide)) (by constructor <;> decide)
  rw [evE_known] at e
  have e' : run G T 342 [.int .u8 2, .imm 2 [.int .u64 4607182418800017408, .int .u64 0, .int .u64 4611686018427387904, .int .u64 0], .agg [.int .u64 4613937818241073152, .int .u64 0]] = some (.tup [.agg [.int .u64 4619567317775286272, .int .u64 0, .int .u64 4384817187198599169], .int .i64 0]) := e
  clear e
  repeat' (first | (simp (maxSteps := 9^7) only [seval, exC, c_law27_known, st_bslice2, repA_2, e', st_eqs, v3_eqs ]) | (simp (maxSteps := 9^7) (disch := first | with_reducible assumption | omega) only [dxB,  decide]) | (simp only [kdB]; split) | (simp only [kvB]; split))
end Go.Cv
