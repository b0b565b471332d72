/-
  A part of the proof of the statements of this seat (texts that the law's own text leans on): no condition.
-/
import Derived.Test.YtabmkppfiklbaaaGreatDoorM15
import Derived.Test.YtabmkppfiklbaaaGreatDoorM14
set_option linter.unusedVariables false
set_option linter.unusedSimpArgs false
namespace Go.Cv
variable {G : Nat → Option (List AV)} {T : Tbl} {g : Nat}
def tw (F : Fm) (md : Int) (x y : Dy × Bool) (b : Dy) : Nat × Nat := ptQ F md (addD x.1 y.1) (zsg md x y) b
theorem tw_comm (F : Fm) (md : Int) {x y : Dy × Bool} {b : Dy} (hx : Nz x.1) (hy : Nz y.1) : tw F md x y b = tw F md y x b := by
  unfold tw zsg
  rw [addD_comm hx hy]
  by_cases h : x.1.m = 0 ∧ y.1.m = 0 ∧ x.2 = y.2
  · rw [if_pos h, if_pos ⟨h.2.1, h.1, h.2.2.symm⟩, h.2.2]
  · rw [if_neg h, if_neg (fun q => h ⟨q.2.1, q.1, q.2.2.symm⟩)]
theorem tw_s (F : Fm) (md : Int) {x y : Dy × Bool} {b : Dy} {s : Bool} (h : (addD x.1 y.1).m = 0 → s = zsg md x y) : ptQ F md (addD x.1 y.1) s b = tw F md x y b := by
  unfold tw ptQ
  by_cases h0 : (addD x.1 y.1).m = 0
  · rw [if_pos h0, if_pos h0, h h0]
  · rw [if_neg h0, if_neg h0]
theorem negD_negD {d : Dy} : negD (negD d) = d := by
  unfold negD
  by_cases h : d.m = 0
  · rw [if_pos h, if_pos h]
  · rw [if_neg h, if_neg h]; simp
def mulR (F : Fm) (md : Int) (a b c d : Nat) : (Nat × Nat) × (Nat × Nat) := (tw F md (tm F a c false) (tm F b d true) oneD, tw F md (tm F a d false) (tm F b c false) oneD)
def divR (F : Fm) (md : Int) (a b c d : Nat) : (Nat × Nat) × (Nat × Nat) := (tw F md (tm F a c false) (tm F b d false) (sqD F c d), tw F md (tm F b c false) (tm F a d true) (sqD F c d))
def mulZ (F : Fm) (md : Int) (a b c d : Nat) : (Nat × Nat) × (Nat × Nat) := if smS F a b c d then smW F md a b c d else mulR F md a b c d
def divZ (F : Fm) (md : Int) (a b c d : Nat) : (Nat × Nat) × (Nat × Nat) := if sdS F a b c d then sdW F md a b c d else divR F md a b c d
theorem Nz_one : Nz oneD := ⟨fun h => absurd h (by decide), fun _ => rfl⟩
theorem Bd_one {K : Nat} (h : 1 ≤ K) : Bd oneD K := by
  have : blen 1 = 1 := by decide
  exact ⟨by show blen 1 ≤ K; omega, by show -(K : Int) ≤ 0; omega, by show (0 : Int) ≤ K; omega⟩
theorem sq_m0 (F : Fm) {c d : Nat} (hc : c < 2 * F.sg) (hd : d < 2 * F.sg) (h : zcl (F.cls c) (F.cls d) = 2) : (sqD F c d).m ≠ 0 := by
  have hf := zcl_fin2 F (a := c) (b := d)
  obtain ⟨fc, fd⟩ := hf.2 (by omega)
  intro h0
  obtain ⟨L, l1, l2⟩ : ∃ L : Int, LoE (F.vl c) L ∧ LoE (F.vl d) L := ⟨F.low, LoE_vl fc, LoE_vl fd⟩
  have e := iv_sq F l1 l2
  rw [iv_zero h0] at e
  have n1 := sq_nn (iv (F.vl c) L)
  have n2 := sq_nn (iv (F.vl d) L)
  have z : ∀ {w : Nat}, w < 2 * F.sg → F.fin w → LoE (F.vl w) L → iv (F.vl w) L * iv (F.vl w) L = 0 → F.cls w = 1 := fun {w} hw fw lw q => by
    have q0 : iv (F.vl w) L = 0 := by rcases Int.mul_eq_zero.1 q with q | q <;> exact q
    have := nz_eq (Nz_vl F w) (b := ⟨false, 0, 0⟩) ⟨fun _ => rfl, fun h => absurd rfl h⟩ lw (Or.inl rfl) (by rw [q0, iv_zero rfl])
    exact (cls_val1 hw fw).2 (by rw [this])
  have c1 := z hc fc l1 (by omega)
  have c2 := z hd fd l2 (by omega)
  unfold zcl at h
  rw [c1, c2] at h
  simp at h
set_option maxHeartbeats 8000000 in
theorem exact_Mul (J : Al G T g) (F : Fm) {md : Int} (hm : 1 ≤ md ∧ md ≤ 5) {a b c d : Nat} (ha : a < 2 * F.sg) (hb : b < 2 * F.sg) (hc : c < 2 * F.sg) (hd : d < 2 * F.sg) :
    run G T 252 [.int .u8 F.u, .int .u8 md, zA a b, zA c d] = some (.tup [zrA (mulZ F md a b c d).1 (mulZ F md a b c d).2, .int .i64 0]) := by
  rw [run_k G T J.J.exact_Mul]
  have s1 := special_Mul J F hm ha hb hc hd
  unfold mulZ
  by_cases hs : smS F a b c d = true
  · rw [if_pos hs]
    rw [hs] at s1
    generalize smW F md a b c d = S at *
    simp only [zA, zrA] at *
    repeat' (first | (simp (maxSteps := 9^7) only [seval, exC, c_exact_Mul, s1]) | (simp (maxSteps := 9^7) (disch := first | with_reducible assumption | omega) only [dxB]) | (simp only [kdB]; split) | (simp only [kvB]; split))
  · rw [if_neg hs]
    rw [Bool.not_eq_true] at hs
    rw [hs] at s1
    obtain ⟨z1, y1, g1⟩ := exact_gaussOf J F ha hb
    obtain ⟨z2, y2, g2⟩ := exact_gaussOf J F hc hd
    obtain ⟨z, y, s, t, t1, e1, e2⟩ := exact_work_times J F (md := md) (z1 := z1) (z2 := y1) (y1 := z2) (y2 := y2) (n1 := F.ng a) (n2 := F.ng b) (k1 := F.ng c) (k2 := F.ng d) (Nz_vl F a) (Nz_vl F b) (Nz_vl F c) (Nz_vl F d) (Bd_vl F a) (Bd_vl F b) (Bd_vl F c) (Bd_vl F d)
    obtain ⟨zo, i1⟩ := dyad_Int1 J
    have b1 := Bd_prod F a c
    have b2 := (Bd_prod F b d).neg
    have b3 := Bd_prod F a d
    have b4 := Bd_prod F b c
    have k1 := exact_work_both J F hm (z := z) (z' := y) (y := zo) (s := s) (t := t) (Nz_add (Nz_mul (F.vl a) (F.vl c)) (Nz_neg (Nz_mul (F.vl b) (F.vl d)))) (Nz_add (Nz_mul (F.vl a) (F.vl d)) (Nz_mul (F.vl b) (F.vl c))) Nz_one ((Bd_add b1 b2).mono (by decide)) ((Bd_add b3 b4).mono (by decide)) (Bd_one (by decide)) (by decide)
    have r1 : ptQ F md (addD (mulD (F.vl a) (F.vl c)) (negD (mulD (F.vl b) (F.vl d)))) s oneD = (mulR F md a b c d).1 := by
      have := tw_s F md (x := tm F a c false) (y := tm F b d true) (b := oneD) (s := s) (fun h => by
        have h2 := e1 h
        unfold tm
        simp only [Bool.false_eq_true, if_false, if_true, Bool.bne_false, Bool.bne_true]
        exact h2)
      exact this
    have r2 : ptQ F md (addD (mulD (F.vl a) (F.vl d)) (mulD (F.vl b) (F.vl c))) t oneD = (mulR F md a b c d).2 := by
      have := tw_s F md (x := tm F a d false) (y := tm F b c false) (b := oneD) (s := t) (fun h => by
        have h2 := e2 h
        unfold tm
        simp only [Bool.false_eq_true, if_false, Bool.bne_false]
        exact h2)
      exact this
    rw [r1, r2] at k1
    clear r1 r2 e1 e2 b1 b2 b3 b4
    generalize mulR F md a b c d = R at *
    generalize smW F md a b c d = S at *
    generalize addD (mulD (F.vl a) (F.vl c)) (negD (mulD (F.vl b) (F.vl d))) = X at *
    generalize addD (mulD (F.vl a) (F.vl d)) (mulD (F.vl b) (F.vl c)) = Y at *
    generalize oneD = one at *
    generalize F.vl a = va at *
    generalize F.vl b = vb at *
    generalize F.vl c = vc at *
    generalize F.vl d = vd at *
    generalize F.ng a = na at *
    generalize F.ng b = nb at *
    generalize F.ng c = nc at *
    generalize F.ng d = nd at *
    simp only [zA, zrA, gaussA, workA, DyA, A3] at *
    repeat' (first | (simp (maxSteps := 9^7) only [seval, exC, c_exact_Mul, s1, g1, g2, t1, i1, k1]) | (simp (maxSteps := 9^7) (disch := first | with_reducible assumption | omega) only [dxB]) | (simp only [kdB]; split) | (simp only [kvB]; split))
theorem fd4_3 (x y z w : AV) : fieldA true 0 3 (.agg [x, y, z, w]) = some (.agg [x, y, z]) := rfl
set_option maxHeartbeats 8000000 in
theorem exact_Div (J : Al G T g) (F : Fm) {md : Int} (hm : 1 ≤ md ∧ md ≤ 5) {a b c d : Nat} (ha : a < 2 * F.sg) (hb : b < 2 * F.sg) (hc : c < 2 * F.sg) (hd : d < 2 * F.sg) :
    run G T 257 [.int .u8 F.u, .int .u8 md, zA a b, zA c d] = some (.tup [zrA (divZ F md a b c d).1 (divZ F md a b c d).2, .int .i64 0]) := by
  rw [run_k G T J.J.exact_Div]
  have s1 := special_Div J F hm ha hb hc hd
  unfold divZ
  by_cases hs : sdS F a b c d = true
  · rw [if_pos hs]
    rw [hs] at s1
    generalize sdW F md a b c d = S at *
    simp only [zA, zrA] at *
    repeat' (first | (simp (maxSteps := 9^7) only [seval, exC, c_exact_Div, s1]) | (simp (maxSteps := 9^7) (disch := first | with_reducible assumption | omega) only [dxB]) | (simp only [kdB]; split) | (simp only [kvB]; split))
  · rw [if_neg hs]
    have hz : zcl (F.cls c) (F.cls d) = 2 := by
      unfold sdS at hs
      simp only [Bool.not_eq_true', decide_eq_false_iff_not, Decidable.not_not] at hs
      exact hs.2
    have hq := sq_m0 F hc hd hz
    rw [Bool.not_eq_true] at hs
    rw [hs] at s1
    obtain ⟨z1, y1, g1⟩ := exact_gaussOf J F ha hb
    obtain ⟨z2, y2, g2⟩ := exact_gaussOf J F hc hd
    obtain ⟨u1, m1⟩ := exact_num_times J (z := z2) (y := z2) (n := F.ng c) (k := F.ng c) (Nz_vl F c) (Nz_vl F c) ((Bd_vl F c).mono (by decide)) ((Bd_vl F c).mono (by decide))
    obtain ⟨u2, m2⟩ := exact_num_times J (z := y2) (y := y2) (n := F.ng d) (k := F.ng d) (Nz_vl F d) (Nz_vl F d) ((Bd_vl F d).mono (by decide)) ((Bd_vl F d).mono (by decide))
    have bc := Bd_prod F c c
    have bd := Bd_prod F d d
    obtain ⟨u3, q1⟩ := dyad_Add J (z := u1) (y := u2) (bc.mono (by decide)) (bd.mono (by decide)) (mayD_nzb (Nz_mul (F.vl c) (F.vl c)) (bc.mono (by decide))) (mayD_nzb (Nz_mul (F.vl d) (F.vl d)) (bd.mono (by decide)))
    rw [show addD (mulD (F.vl c) (F.vl c)) (mulD (F.vl d) (F.vl d)) = sqD F c d from rfl] at q1
    obtain ⟨u4, n1⟩ := exact_num_minus J (z := y2) (n := F.ng d) (Nz_vl F d) ((Bd_vl F d).mono (by decide))
    obtain ⟨z, y, s, t, t1, e1, e2⟩ := exact_work_times J F (md := md) (z1 := z1) (z2 := y1) (y1 := z2) (y2 := u4) (n1 := F.ng a) (n2 := F.ng b) (k1 := F.ng c) (k2 := !F.ng d) (Nz_vl F a) (Nz_vl F b) (Nz_vl F c) (Nz_neg (Nz_vl F d)) (Bd_vl F a) (Bd_vl F b) (Bd_vl F c) (Bd_vl F d).neg
    simp only [mulD_neg, negD_negD] at t1 e1 e2
    have b1 := Bd_prod F a c
    have b2 := Bd_prod F b d
    have b3 := (Bd_prod F a d).neg
    have b4 := Bd_prod F b c
    have k1 := exact_work_both J F hm (z := z) (z' := y) (y := u3) (s := s) (t := t) (Nz_add (Nz_mul (F.vl a) (F.vl c)) (Nz_mul (F.vl b) (F.vl d))) (Nz_add (Nz_neg (Nz_mul (F.vl a) (F.vl d))) (Nz_mul (F.vl b) (F.vl c))) (Nz_sq F c d) ((Bd_add b1 b2).mono (by decide)) ((Bd_add b3 b4).mono (by decide)) ((Bd_add bc bd).mono (by decide)) hq
    have r1 : ptQ F md (addD (mulD (F.vl a) (F.vl c)) (mulD (F.vl b) (F.vl d))) s (sqD F c d) = (divR F md a b c d).1 := by
      have := tw_s F md (x := tm F a c false) (y := tm F b d false) (b := sqD F c d) (s := s) (fun h => by
        have h2 := e1 h
        unfold tm
        simp only [Bool.false_eq_true, if_false, Bool.bne_false]
        rw [show (F.ng b != F.ng d) = !(F.ng b != !F.ng d) by cases F.ng b <;> cases F.ng d <;> rfl]
        exact h2)
      exact this
    have r2 : ptQ F md (addD (negD (mulD (F.vl a) (F.vl d))) (mulD (F.vl b) (F.vl c))) t (sqD F c d) = (divR F md a b c d).2 := by
      have := tw_s F md (x := tm F a d true) (y := tm F b c false) (b := sqD F c d) (s := t) (fun h => by
        have h2 := e2 h
        unfold tm
        simp only [Bool.false_eq_true, if_false, if_true, Bool.bne_false, Bool.bne_true]
        rw [show (!(F.ng a != F.ng d)) = (F.ng a != !F.ng d) by cases F.ng a <;> cases F.ng d <;> rfl]
        exact h2)
      rw [show (divR F md a b c d).2 = tw F md (tm F b c false) (tm F a d true) (sqD F c d) from rfl, tw_comm F md (Bd_tm F b c false).2 (Bd_tm F a d true).2]
      exact this
    rw [r1, r2] at k1
    clear r1 r2 e1 e2 b1 b2 b3 b4 bc bd hq hz
    generalize divR F md a b c d = R at *
    generalize sdW F md a b c d = S at *
    generalize addD (mulD (F.vl a) (F.vl c)) (mulD (F.vl b) (F.vl d)) = X at *
    generalize addD (negD (mulD (F.vl a) (F.vl d))) (mulD (F.vl b) (F.vl c)) = Y at *
    generalize sqD F c d = by' at *
    generalize mulD (F.vl c) (F.vl c) = cc at *
    generalize mulD (F.vl d) (F.vl d) = dd at *
    generalize negD (F.vl d) = nvd at *
    generalize (!F.ng d) = nnd at *
    generalize (F.ng c != F.ng c) = x1 at *
    generalize (F.ng d != F.ng d) = x2 at *
    generalize F.vl a = va at *
    generalize F.vl b = vb at *
    generalize F.vl c = vc at *
    generalize F.vl d = vd at *
    generalize F.ng a = na at *
    generalize F.ng b = nb at *
    generalize F.ng c = nc at *
    generalize F.ng d = nd at *
    simp only [zA, zrA, gaussA, workA, numA, DyA, A3] at *
    repeat' (first | (simp (maxSteps := 9^7) only [seval, exC, c_exact_Div, fd4_3, s1, g1, g2, m1, m2, q1, n1, t1, k1]) | (simp (maxSteps := 9^7) (disch := first | with_reducible assumption | omega) only [dxB]) | (simp only [kdB]; split) | (simp only [kvB]; split))
theorem ref02_Int1 (J : Al G T g) : ∃ z, run G T 20 [.int .i64 1] = some (DyA z oneD) := by
  apply exP
  rw [run_k G T J.C.ref02_Int]
  obtain ⟨z1, h1⟩ := ref01_Of J (n := 1) (by decide)
  have hl : (dl 1).length < 17179869184 := by
    have h1 := dl_len_blen 1
    have h2 : blen 1 = 1 := by decide
    omega
  obtain ⟨z2, h2⟩ := ref02_Form J (n := false) (z := z1) (a := 1) (e := 0) hl (by omega)
  rw [show mkD false 1 0 = oneD from mkD_odd (by decide)] at h2
  have w1 : IntKind.u64.wrap 1 = 1 := rfl
  rw [show ((1 : Nat) : Int) = 1 from rfl] at h1
  generalize oneD = d at *
  simp only [DyA, A3] at *
  repeat' (first | (simp (maxSteps := 9^7) only [seval, exC, c_ref02_Int, w1, h1, h2]) | (simp (maxSteps := 9^7) (disch := first | with_reducible assumption | omega) only [dxB]) | (simp only [kdB]; split) | (simp only [kvB]; split))
  all_goals exact ⟨_, rfl, z2, rfl⟩
theorem ref12_Product (J : Al G T g) (F : Fm) {a b c d : Nat} (ha : a < 2 * F.sg) (hb : b < 2 * F.sg) (hc : c < 2 * F.sg) (hd : d < 2 * F.sg) (fa : F.fin a) (fb : F.fin b) (fc : F.fin c) (fd : F.fin d) :
    ∃ z y u v, run G T 274 [.int .u8 F.u, zA a b, zA c d] = some (.tup [gaussA z y (tm F a c false) (tm F b d true), gaussA u v (tm F a d false) (tm F b c false)]) := by
  rw [run_k G T J.J.ref12_Product]
  obtain ⟨z, h1⟩ := ref12_times J F (minus := false) ha hc fa fc
  obtain ⟨y, h2⟩ := ref12_times J F (minus := true) hb hd fb fd
  obtain ⟨u, h3⟩ := ref12_times J F (minus := false) ha hd fa fd
  obtain ⟨v, h4⟩ := ref12_times J F (minus := false) hb hc fb fc
  refine ⟨z, y, u, v, ?_⟩
  generalize tm F a c false = t1 at *
  generalize tm F b d true = t2 at *
  generalize tm F a d false = t3 at *
  generalize tm F b c false = t4 at *
  simp only [zA, gaussA, numA] at *
  repeat' (first | (simp (maxSteps := 9^7) only [seval, exC, c_ref12_Product, h1, h2, h3, h4]) | (simp (maxSteps := 9^7) (disch := first | with_reducible assumption | omega) only [dxB]) | (simp only [kdB]; split) | (simp only [kvB]; split))
theorem ref12_Quotient (J : Al G T g) (F : Fm) {a b c d : Nat} (ha : a < 2 * F.sg) (hb : b < 2 * F.sg) (hc : c < 2 * F.sg) (hd : d < 2 * F.sg) (fa : F.fin a) (fb : F.fin b) (fc : F.fin c) (fd : F.fin d) :
    ∃ z y u v w, run G T 281 [.int .u8 F.u, zA a b, zA c d] = some (.tup [gaussA z y (tm F a c false) (tm F b d false), gaussA u v (tm F b c false) (tm F a d true), DyA w (sqD F c d)]) := by
  rw [run_k G T J.J.ref12_Quotient]
  obtain ⟨z, h1⟩ := ref12_times J F (minus := false) ha hc fa fc
  obtain ⟨y, h2⟩ := ref12_times J F (minus := false) hb hd fb fd
  obtain ⟨u, h3⟩ := ref12_times J F (minus := false) hb hc fb fc
  obtain ⟨v, h4⟩ := ref12_times J F (minus := true) ha hd fa fd
  obtain ⟨z1, v1⟩ := ref03_Value J F (sg_64 hc) fc
  obtain ⟨z2, v2⟩ := ref03_Value J F (sg_64 hd) fd
  rw [← vl_val fc] at v1
  rw [← vl_val fd] at v2
  obtain ⟨z3, m1⟩ := ref_mul J (z := z1) (y := z1) ((Bd_vl F c).mono (by decide)) ((Bd_vl F c).mono (by decide))
  obtain ⟨z4, m2⟩ := ref_mul J (z := z2) (y := z2) ((Bd_vl F d).mono (by decide)) ((Bd_vl F d).mono (by decide))
  obtain ⟨z5, q1⟩ := ref02_Add J (z := z3) (y := z4) (a := mulD (F.vl c) (F.vl c)) (b := mulD (F.vl d) (F.vl d)) ((Bd_prod F c c).mono (by decide)) ((Bd_prod F d d).mono (by decide))
  rw [show addD (mulD (F.vl c) (F.vl c)) (mulD (F.vl d) (F.vl d)) = sqD F c d from rfl] at q1
  refine ⟨z, y, u, v, z5, ?_⟩
  generalize sqD F c d = q at *
  generalize mulD (F.vl c) (F.vl c) = cc at *
  generalize mulD (F.vl d) (F.vl d) = dd at *
  generalize F.vl c = vc at *
  generalize F.vl d = vd at *
  generalize tm F a c false = t1 at *
  generalize tm F b d false = t2 at *
  generalize tm F b c false = t3 at *
  generalize tm F a d true = t4 at *
  simp only [zA, gaussA, numA, DyA, A3] at *
  repeat' (first | (simp (maxSteps := 9^7) only [seval, exC, c_ref12_Quotient, h1, h2, h3, h4, v1, v2, m1, m2, q1]) | (simp (maxSteps := 9^7) (disch := first | with_reducible assumption | omega) only [dxB]) | (simp only [kdB]; split) | (simp only [kvB]; split))
theorem st_bs4 (F : CallF) (d : Option Nat) (os : List IOper) (e : Env) (h : Heap) (n : Nat) (zero : List AV) (ps : List (Nat × Nat × IOpd)) : evOps G F (⟨d, .bslice n 4 zero ps, none⟩ :: os) e h =
    kBs G F (fillA (repA n zero) (ps.map fun (o, n, x) => (o, n, opd e x))) (.own h.b.length 0 n 4) d os e h := st_bslice G F d os e h n 4 zero ps
theorem ia24_0 (b : Nat) (k : IntKind) : iaddrAV 2 4 (.ptr b 0) (.int k 0) = some (.ptr b 0) := rfl
theorem ia24_1 (b : Nat) (k : IntKind) : iaddrAV 2 4 (.ptr b 0) (.int k 1) = some (.ptr b 4) := rfl
def eqsA (neg : Bool) (ls : List Bool) : AV → AV → Option AV
  | .agg a, .agg b => if (kindsA ls a && kindsA ls b) = true then (eqCells a b).map fun r => .bool (if neg then !r else r) else none
  | _, _ => none
theorem st_eqs (F : CallF) (d : Option Nat) (os : List IOper) (e : Env) (h : Heap) (neg : Bool) (ls : List Bool) (x y : IOpd) : evOps G F (⟨d, .eqs neg ls x y, none⟩ :: os) e h = kV G F (eqsA neg ls (opd e x) (opd e y)) d os e h := by
  rw [st_pure G F d _ os e h rfl]
  simp only [evQ]
  cases opd e x <;> cases opd e y <;> try rfl
  simp only [eqsA]
  split
  · cases eqCells _ _ <;> rfl
  · rfl
theorem zr_self (a b c d : Int) : eqsA false [false, false, false, false] (.agg [.int .u64 a, .int .u64 b, .int .u8 c, .int .u8 d]) (.agg [.int .u64 a, .int .u64 b, .int .u8 c, .int .u8 d]) = some (.bool true) := by
  simp [eqsA, kindsA, eqCells]
theorem zr_selfn (a b c d : Int) : eqsA true [false, false, false, false] (.agg [.int .u64 a, .int .u64 b, .int .u8 c, .int .u8 d]) (.agg [.int .u64 a, .int .u64 b, .int .u8 c, .int .u8 d]) = some (.bool false) := by
  simp [eqsA, kindsA, eqCells]
def zr0 : AV := zrA (0, 0) (0, 0)
theorem law12_is_ok (J : Al G T g) {p q : Nat × Nat} : run G T 254 [zrA p q, .int .i64 0, zrA p q, .int .i64 0] = some (.bool true) := by
  rw [run_k G T J.J.law12_is]
  simp only [zrA]
  repeat' (first | (simp (maxSteps := 9^7) only [seval, exC, c_law12_is, st_eqs, zr_self]) | (simp (maxSteps := 9^7) (disch := first | with_reducible assumption | omega) only [dxB]) | (simp only [kdB]; split) | (simp only [kvB]; split))
theorem law12_is_err (J : Al G T g) {e : Int} (he : e ≠ 0) : run G T 254 [zr0, .int .i64 e, zr0, .int .i64 e] = some (.bool true) := by
  rw [run_k G T J.J.law12_is]
  simp only [zr0, zrA, cast0]
  repeat' (first | (simp (maxSteps := 9^7) only [seval, exC, c_law12_is, he, st_eqs, zr_self]) | (simp (maxSteps := 9^7) (disch := first | with_reducible assumption | omega) only [dxB]) | (simp only [kdB]; split) | (simp only [kvB]; split))
theorem law12_opens_no (J : Al G T g) {f md : Int} (h : ¬ (f = 1 ∨ f = 2)) {v : AV} : run G T 253 [.int .u8 f, .int .u8 md, v] = some (.int .i64 4) := by
  rw [run_k G T J.J.law12_opens]
  have o1 := ref05_Opens_no J h (md := md) (v := .nil)
  repeat' (first | (simp (maxSteps := 9^7) only [seval, exC, c_law12_opens, o1]) | (simp (maxSteps := 9^7) (disch := first | with_reducible assumption | omega) only [dxB]) | (simp only [kdB]; split) | (simp only [kvB]; split))
theorem law12_opens_mode (J : Al G T g) (F : Fm) {md : Int} (h : ¬ (1 ≤ md ∧ md ≤ 5)) {v : AV} : run G T 253 [.int .u8 F.u, .int .u8 md, v] = some (.int .i64 5) := by
  rw [run_k G T J.J.law12_opens]
  have o1 := ref05_Opens_mode J F h (v := .nil)
  repeat' (first | (simp (maxSteps := 9^7) only [seval, exC, c_law12_opens, o1]) | (simp (maxSteps := 9^7) (disch := first | with_reducible assumption | omega) only [dxB]) | (simp only [kdB]; split) | (simp only [kvB]; split))
theorem law12_opens_k (J : Al G T g) (F : Fm) {md : Int} (h : 1 ≤ md ∧ md ≤ 5) {n : Nat} {cs : List AV} {e : Int} (h2 : run G T 185 [.int .u8 F.u, .imm n cs] = some (.int .i64 e)) : run G T 253 [.int .u8 F.u, .int .u8 md, .imm n cs] = some (.int .i64 e) := by
  rw [run_k G T J.J.law12_opens]
  have o1 := ref05_Opens0 J F h
  repeat' (first | (simp (maxSteps := 9^7) only [seval, exC, c_law12_opens, o1, h2]) | (simp (maxSteps := 9^7) (disch := first | with_reducible assumption | omega) only [dxB]) | (simp only [kdB]; split) | (simp only [kvB]; split))
theorem xopens_s (J : Al G T g) {f md : Int} {a b c d : Nat} (ha : a < 18446744073709551616) (hb : b < 18446744073709551616) (hc : c < 18446744073709551616) (hd : d < 18446744073709551616) :
    (∃ e, e ≠ 0 ∧ run G T 253 [.int .u8 f, .int .u8 md, im2 a b c d] = some (.int .i64 e) ∧ run G T 289 [.int .u8 f, .int .u8 md, im2 a b c d] = some (.tup [.nil, .int .i64 e])) ∨
    (∃ F, f = Fm.u F ∧ (1 ≤ md ∧ md ≤ 5) ∧ ((a < 2 * F.sg ∧ b < 2 * F.sg) ∧ (c < 2 * F.sg ∧ d < 2 * F.sg)) ∧ run G T 253 [.int .u8 f, .int .u8 md, im2 a b c d] = some (.int .i64 0)) := by
  by_cases hf : f = 1 ∨ f = 2
  · obtain ⟨F, rfl⟩ := fm_of hf
    by_cases hm : 1 ≤ md ∧ md ≤ 5
    · have h1 := ref10_Good2 J F ha hb hc hd
      by_cases k1 : (a < 2 * F.sg ∧ b < 2 * F.sg) ∧ (c < 2 * F.sg ∧ d < 2 * F.sg)
      · rw [if_pos k1] at h1
        exact Or.inr ⟨F, rfl, hm, k1, law12_opens_k J F hm h1⟩
      · rw [if_neg k1] at h1
        exact Or.inl ⟨6, by decide, law12_opens_k J F hm h1, special_open2_bad J F hm ha hb hc hd k1⟩
    · exact Or.inl ⟨5, by decide, law12_opens_mode J F hm, special_open_mode J F hm⟩
  · exact Or.inl ⟨4, by decide, law12_opens_no J hf, special_open_no J hf⟩
theorem exact_Div_err (J : Al G T g) {f md e : Int} {a b c d : Nat} (he : e ≠ 0) (h : run G T 289 [.int .u8 f, .int .u8 md, im2 a b c d] = some (.tup [.nil, .int .i64 e])) :
    run G T 257 [.int .u8 f, .int .u8 md, zA a b, zA c d] = some (.tup [zr0, .int .i64 e]) := by
  have s1 : run G T 277 [.int .u8 f, .int .u8 md, zA a b, zA c d] = some (.tup [zr0, .bool false, .int .i64 e]) := by
    rw [run_k G T J.J.special_Div]
    simp only [zA, zr0, zrA, im2, cast0] at *
    repeat' (first | (simp (maxSteps := 9^7) only [seval, exC, c_special_Div, st_bs2, repA_2, h, he]) | (simp (maxSteps := 9^7) (disch := first | with_reducible assumption | omega) only [dxB]) | (simp only [kdB]; split) | (simp only [kvB]; split))
  rw [run_k G T J.J.exact_Div]
  simp only [zA, zr0, zrA, im2, cast0] at *
  repeat' (first | (simp (maxSteps := 9^7) only [seval, exC, c_exact_Div, s1, he]) | (simp (maxSteps := 9^7) (disch := first | with_reducible assumption | omega) only [dxB]) | (simp only [kdB]; split) | (simp only [kvB]; split))
theorem exact_parts_ok (J : Al G T g) {f md : Int} {a b c d k : Nat} {p q : Nat × Nat} (h : run G T 286 [.int .u8 f, .int .u8 md, im2 a b c d] = some (.int .i64 0))
    (h1 : run G T k [.int .u8 f, .int .u8 md, .int .u64 (a : Int), .int .u64 (c : Int)] = some (.tup [.int .u64 (p.1 : Int), .int .u8 (p.2 : Int), .int .i64 0]))
    (h2 : run G T k [.int .u8 f, .int .u8 md, .int .u64 (b : Int), .int .u64 (d : Int)] = some (.tup [.int .u64 (q.1 : Int), .int .u8 (q.2 : Int), .int .i64 0])) :
    run G T 285 [.int .u8 f, .int .u8 md, zA a b, zA c d, .fn k []] = some (.tup [zrA p q, .int .i64 0]) := by
  rw [run_k G T J.J.exact_parts]
  simp only [zA, zrA, im2] at *
  repeat' (first | (simp (maxSteps := 9^7) only [seval, exC, c_exact_parts, st_bs2, repA_2, h, h1, h2]) | (simp (maxSteps := 9^7) (disch := first | with_reducible assumption | omega) only [dxB]) | (simp only [kdB]; split) | (simp only [kvB]; split))
theorem exact_Add (J : Al G T g) (F : Fm) {md : Int} (hm : 1 ≤ md ∧ md ≤ 5) {a b c d : Nat} (ha : a < 2 * F.sg) (hb : b < 2 * F.sg) (hc : c < 2 * F.sg) (hd : d < 2 * F.sg) :
    run G T 262 [.int .u8 F.u, .int .u8 md, zA a b, zA c d] = some (.tup [zrA (addW F md a c) (addW F md b d), .int .i64 0]) := by
  rw [run_k G T J.J.exact_Add]
  have o1 := exact_open2 J F hm (sg_64 ha) (sg_64 hb) (sg_64 hc) (sg_64 hd)
  rw [if_pos ⟨⟨ha, hb⟩, hc, hd⟩] at o1
  have p1 := exact_parts_ok J o1 (soft_Add J F hm ha hc) (soft_Add J F hm hb hd)
  generalize addW F md a c = S1 at *
  generalize addW F md b d = S2 at *
  simp only [zA, zrA] at *
  repeat' (first | (simp (maxSteps := 9^7) only [seval, exC, c_exact_Add, p1]) | (simp (maxSteps := 9^7) (disch := first | with_reducible assumption | omega) only [dxB]) | (simp only [kdB]; split) | (simp only [kvB]; split))
set_option maxHeartbeats 16000000 in
theorem ref12_Div (J : Al G T g) (F : Fm) {md : Int} (hm : 1 ≤ md ∧ md ≤ 5) {a b c d : Nat} (ha : a < 2 * F.sg) (hb : b < 2 * F.sg) (hc : c < 2 * F.sg) (hd : d < 2 * F.sg) :
    run G T 258 [.int .u8 F.u, .int .u8 md, zA a b, zA c d] = some (zrA (divZ F md a b c d).1 (divZ F md a b c d).2) := by
  rw [run_k G T J.J.ref12_Div]
  have s1 := ref11_Div J F hm ha hb hc hd
  unfold divZ
  by_cases hs : sdS F a b c d = true
  · rw [if_pos hs]
    rw [hs] at s1
    generalize sdW F md a b c d = S at *
    simp only [zA, zrA] at *
    repeat' (first | (simp (maxSteps := 9^7) only [seval, exC, c_ref12_Div, s1]) | (simp (maxSteps := 9^7) (disch := first | with_reducible assumption | omega) only [dxB]) | (simp only [kdB]; split) | (simp only [kvB]; split))
  · rw [if_neg hs]
    have hz : (zcl (F.cls a) (F.cls b) ≤ 2 ∧ zcl (F.cls c) (F.cls d) = 2) := by
      unfold sdS at hs
      simpa using hs
    obtain ⟨fa, fb⟩ := (zcl_fin2 F).2 hz.1
    obtain ⟨fc, fd⟩ := (zcl_fin2 F (a := c) (b := d)).2 (by omega)
    have hq := sq_m0 F hc hd hz.2
    rw [Bool.not_eq_true] at hs
    rw [hs] at s1
    obtain ⟨z, y, u, v, w, p1⟩ := ref12_Quotient J F ha hb hc hd fa fb fc fd
    have b1 := Bd_tm F a c false
    have b2 := Bd_tm F b d false
    have b3 := Bd_tm F b c false
    have b4 := Bd_tm F a d true
    have bq := Bd_sq F c d
    obtain ⟨w1, q1⟩ := ref12_Sum2 J (md := md) (z := z) (y := y) (b1.1.mono (by decide)) (b2.1.mono (by decide))
    obtain ⟨w2, q2⟩ := ref12_Sum2 J (md := md) (z := u) (y := v) (b3.1.mono (by decide)) (b4.1.mono (by decide))
    have r1 := ref12_rounded J F hm (z := w1) (y := w) (s := zsg md (tm F a c false) (tm F b d false)) ((Bd_add b1.1 b2.1).mono (by decide)) (bq.mono (by decide)) hq
    have r2 := ref12_rounded J F hm (z := w2) (y := w) (s := zsg md (tm F b c false) (tm F a d true)) ((Bd_add b3.1 b4.1).mono (by decide)) (bq.mono (by decide)) hq
    rw [show ptQ F md (addD (tm F a c false).1 (tm F b d false).1) (zsg md (tm F a c false) (tm F b d false)) (sqD F c d) = (divR F md a b c d).1 from rfl] at r1
    rw [show ptQ F md (addD (tm F b c false).1 (tm F a d true).1) (zsg md (tm F b c false) (tm F a d true)) (sqD F c d) = (divR F md a b c d).2 from rfl] at r2
    clear b1 b2 b3 b4 hz bq hq
    generalize divR F md a b c d = R at *
    generalize sdW F md a b c d = S at *
    generalize zsg md (tm F a c false) (tm F b d false) = g1 at *
    generalize zsg md (tm F b c false) (tm F a d true) = g2 at *
    generalize addD (tm F a c false).1 (tm F b d false).1 = X at *
    generalize addD (tm F b c false).1 (tm F a d true).1 = Y at *
    generalize tm F a c false = t1 at *
    generalize tm F b d false = t2 at *
    generalize tm F b c false = t3 at *
    generalize tm F a d true = t4 at *
    generalize sqD F c d = one at *
    simp only [zA, zrA, gaussA, cellsN, List.cons_append, List.nil_append, DyA, A3] at *
    repeat' (first | (simp (maxSteps := 9^7) only [seval, exC, c_ref12_Div, st_bs4, repA_2, ia24_0, ia24_1, s1, p1, q1, q2, r1, r2]) | (simp (maxSteps := 9^7) (disch := first | with_reducible assumption | omega) only [dxB]) | (simp only [kdB]; split) | (simp only [kvB]; split))
set_option maxHeartbeats 4000000 in
theorem law12_ExactQuotients (J : Al G T g) (hK : run G T 255 [] = some (.bool true))
    {f m : Int} {a b c d : Nat} (ha : a < 18446744073709551616) (hb : b < 18446744073709551616) (hc : c < 18446744073709551616) (hd : d < 18446744073709551616) :
    run G T 243 [.int .u8 f, .int .u8 m, .agg [.int .u64 (a : Int), .int .u64 (b : Int)], .agg [.int .u64 (c : Int), .int .u64 (d : Int)]] = some (.bool true) := by
  rw [run_k G T J.J.law12_ExactQuotients]
  rcases xopens_s (G := G) (T := T) (f := f) (md := m) J ha hb hc hd with ⟨e, he, o1, o2⟩ | ⟨F, rfl, hm, ⟨⟨k1, k2⟩, k3, k4⟩, o1⟩
  · have r1 := exact_Div_err J he o2
    have i1 := law12_is_err J he
    simp only [zA, zr0, zrA, im2, cast0] at *
    repeat' (first | (simp (maxSteps := 9^7) only [seval, exC, c_law12_ExactQuotients, st_bs2, repA_2, r1, o1, he, i1, hK]) | (simp (maxSteps := 9^7) (disch := first | with_reducible assumption | omega) only [dxB]) | (simp only [kdB]; split) | (simp only [kvB]; split))
  · have r1 := exact_Div J F hm k1 k2 k3 k4
    have r2 := ref12_Div J F hm k1 k2 k3 k4
    have i1 := law12_is_ok J (p := (divZ F m a b c d).1) (q := (divZ F m a b c d).2)
    generalize divZ F m a b c d = S at *
    simp only [zA, zrA, im2] at *
    repeat' (first | (simp (maxSteps := 9^7) only [seval, exC, c_law12_ExactQuotients, st_bs2, repA_2, r1, o1, r2, i1, hK]) | (simp (maxSteps := 9^7) (disch := first | with_reducible assumption | omega) only [dxB]) | (simp only [kdB]; split) | (simp only [kvB]; split))
end Go.Cv
namespace Go.Cv
variable {G : Nat → Option (List AV)} {T : Tbl} {g : Nat}
def im3 (a b c d e f : Nat) : AV := .imm 3 [.int .u64 (a : Int), .int .u64 (b : Int), .int .u64 (c : Int), .int .u64 (d : Int), .int .u64 (e : Int), .int .u64 (f : Int)]
section
variable (a b c d e f : AV) (k : IntKind)
theorem i2_30 : iaddrV 2 (.imm 3 [a, b, c, d, e, f]) (.int k 0) = some (.iptr [a, b, c, d, e, f] 0) := rfl
theorem i2_31 : iaddrV 2 (.imm 3 [a, b, c, d, e, f]) (.int k 1) = some (.iptr [a, b, c, d, e, f] 2) := rfl
theorem i2_32 : iaddrV 2 (.imm 3 [a, b, c, d, e, f]) (.int k 2) = some (.iptr [a, b, c, d, e, f] 4) := rfl
theorem rq_4 (h : Mem) (l : List AV) : rdAt G h 1 (.iptr (a :: b :: c :: d :: e :: l) 4) = some [e] := by simp [rdAt]
theorem rq_5 (h : Mem) (l : List AV) : rdAt G h 1 (.iptr (a :: b :: c :: d :: e :: f :: l) 5) = some [f] := by simp [rdAt]
end
theorem exact_open3 (J : Al G T g) (F : Fm) {md : Int} (hm : 1 ≤ md ∧ md ≤ 5) {a b c d e f : Nat} (ha : a < 18446744073709551616) (hb : b < 18446744073709551616) (hc : c < 18446744073709551616) (hd : d < 18446744073709551616) (he : e < 18446744073709551616) (hf : f < 18446744073709551616) :
    run G T 286 [.int .u8 F.u, .int .u8 md, im3 a b c d e f] = some (.int .i64 (if (a < 2 * F.sg ∧ b < 2 * F.sg) ∧ (c < 2 * F.sg ∧ d < 2 * F.sg) ∧ (e < 2 * F.sg ∧ f < 2 * F.sg) then 0 else 6)) := by
  rw [run_k G T J.J.exact_open]
  have o1 := round_Over J F hm (neg := false)
  have c1 := pair_Good J F ha hb
  have c2 := pair_Good J F hc hd
  have c3 := pair_Good J F he hf
  simp only [zA, im3] at *
  by_cases k : a < 2 * F.sg ∧ b < 2 * F.sg
  · rw [if_pos k] at c1
    by_cases q : c < 2 * F.sg ∧ d < 2 * F.sg
    · rw [if_pos q] at c2
      by_cases r : e < 2 * F.sg ∧ f < 2 * F.sg
      · rw [if_pos r] at c3
        rw [if_pos ⟨k, q, r⟩]
        repeat' (first | (simp (maxSteps := 9^7) only [seval, exC, c_exact_open, o1, c1, c2, c3, eo_loop, c_exact_open_b1, i2_30, i2_31, i2_32, fa_i, rp2_0, rp2_2, rp2_4, wr_1, wr1, wr_2, wr2, wr_3, wr3]) | (simp (maxSteps := 9^7) (disch := first | with_reducible assumption | omega) only [dxB]) | (simp only [kdB]; split) | (simp only [kvB]; split))
      · rw [if_neg r] at c3
        rw [if_neg (fun h => r h.2.2)]
        repeat' (first | (simp (maxSteps := 9^7) only [seval, exC, c_exact_open, o1, c1, c2, c3, eo_loop, c_exact_open_b1, i2_30, i2_31, i2_32, fa_i, rp2_0, rp2_2, rp2_4, wr_1, wr1, wr_2, wr2, wr_3, wr3]) | (simp (maxSteps := 9^7) (disch := first | with_reducible assumption | omega) only [dxB]) | (simp only [kdB]; split) | (simp only [kvB]; split))
    · rw [if_neg q] at c2
      rw [if_neg (fun h => q h.2.1)]
      repeat' (first | (simp (maxSteps := 9^7) only [seval, exC, c_exact_open, o1, c1, c2, eo_loop, c_exact_open_b1, i2_30, i2_31, fa_i, rp2_0, rp2_2, wr_1, wr1, wr_2, wr2]) | (simp (maxSteps := 9^7) (disch := first | with_reducible assumption | omega) only [dxB]) | (simp only [kdB]; split) | (simp only [kvB]; split))
  · rw [if_neg k] at c1
    rw [if_neg (fun h => k h.1)]
    repeat' (first | (simp (maxSteps := 9^7) only [seval, exC, c_exact_open, o1, c1, eo_loop, c_exact_open_b1, i2_30, i2_31, fa_i, rp2_0, rp2_2, wr_1, wr1, wr_2, wr2]) | (simp (maxSteps := 9^7) (disch := first | with_reducible assumption | omega) only [dxB]) | (simp only [kdB]; split) | (simp only [kvB]; split))
theorem ref10_Good3 (J : Al G T g) (F : Fm) {a b c d e f : Nat} (ha : a < 18446744073709551616) (hb : b < 18446744073709551616) (hc : c < 18446744073709551616) (hd : d < 18446744073709551616) (he : e < 18446744073709551616) (hf : f < 18446744073709551616) :
    run G T 185 [.int .u8 F.u, im3 a b c d e f] = some (.int .i64 (if (a < 2 * F.sg ∧ b < 2 * F.sg) ∧ (c < 2 * F.sg ∧ d < 2 * F.sg) ∧ (e < 2 * F.sg ∧ f < 2 * F.sg) then 0 else 6)) := by
  rw [run_k G T J.U.ref10_Good]
  have h1 := ref03_IsF J F
  have h3 := ref03_Good J F ha
  have h4 := ref03_Good J F hb
  have h5 := ref03_Good J F hc
  have h6 := ref03_Good J F hd
  have h7 := ref03_Good J F he
  have h8 := ref03_Good J F hf
  unfold im3
  by_cases k1 : a < 2 * F.sg
  · rw [if_pos k1] at h3
    by_cases k2 : b < 2 * F.sg
    · rw [if_pos k2] at h4
      by_cases k3 : c < 2 * F.sg
      · rw [if_pos k3] at h5
        by_cases k4 : d < 2 * F.sg
        · rw [if_pos k4] at h6
          by_cases k5 : e < 2 * F.sg
          · rw [if_pos k5] at h7
            by_cases k6 : f < 2 * F.sg
            · rw [if_pos k6] at h8
              rw [if_pos ⟨⟨k1, k2⟩, ⟨k3, k4⟩, k5, k6⟩]
              repeat' (first | (simp (maxSteps := 9^7) only [seval, exC, c_ref10_Good, h1, gd_loop, c_ref10_Good_b1, i2_30, i2_31, i2_32, fa_i, rp_0, rp_1, rp_2, rp_3, rq_4, rq_5, wr_1, wr1, wr_2, wr2, wr_3, wr3, h3, h4, h5, h6, h7, h8]) | (simp (maxSteps := 9^7) (disch := first | with_reducible assumption | omega) only [dxB]) | (simp only [kdB]; split) | (simp only [kvB]; split))
            · rw [if_neg k6] at h8
              rw [if_neg (fun h => k6 h.2.2.2)]
              repeat' (first | (simp (maxSteps := 9^7) only [seval, exC, c_ref10_Good, h1, gd_loop, c_ref10_Good_b1, i2_30, i2_31, i2_32, fa_i, rp_0, rp_1, rp_2, rp_3, rq_4, rq_5, wr_1, wr1, wr_2, wr2, wr_3, wr3, h3, h4, h5, h6, h7, h8]) | (simp (maxSteps := 9^7) (disch := first | with_reducible assumption | omega) only [dxB]) | (simp only [kdB]; split) | (simp only [kvB]; split))
          · rw [if_neg k5] at h7
            rw [if_neg (fun h => k5 h.2.2.1)]
            repeat' (first | (simp (maxSteps := 9^7) only [seval, exC, c_ref10_Good, h1, gd_loop, c_ref10_Good_b1, i2_30, i2_31, i2_32, fa_i, rp_0, rp_1, rp_2, rp_3, rq_4, wr_1, wr1, wr_2, wr2, h3, h4, h5, h6, h7]) | (simp (maxSteps := 9^7) (disch := first | with_reducible assumption | omega) only [dxB]) | (simp only [kdB]; split) | (simp only [kvB]; split))
        · rw [if_neg k4] at h6
          rw [if_neg (fun h => k4 h.2.1.2)]
          repeat' (first | (simp (maxSteps := 9^7) only [seval, exC, c_ref10_Good, h1, gd_loop, c_ref10_Good_b1, i2_30, i2_31, fa_i, rp_0, rp_1, rp_2, rp_3, wr_1, wr1, h3, h4, h5, h6]) | (simp (maxSteps := 9^7) (disch := first | with_reducible assumption | omega) only [dxB]) | (simp only [kdB]; split) | (simp only [kvB]; split))
      · rw [if_neg k3] at h5
        rw [if_neg (fun h => k3 h.2.1.1)]
        repeat' (first | (simp (maxSteps := 9^7) only [seval, exC, c_ref10_Good, h1, gd_loop, c_ref10_Good_b1, i2_30, i2_31, fa_i, rp_0, rp_1, rp_2, rp_3, wr_1, wr1, h3, h4, h5]) | (simp (maxSteps := 9^7) (disch := first | with_reducible assumption | omega) only [dxB]) | (simp only [kdB]; split) | (simp only [kvB]; split))
    · rw [if_neg k2] at h4
      rw [if_neg (fun h => k2 h.1.2)]
      repeat' (first | (simp (maxSteps := 9^7) only [seval, exC, c_ref10_Good, h1, gd_loop, c_ref10_Good_b1, i2_30, i2_31, fa_i, rp_0, rp_1, h3, h4]) | (simp (maxSteps := 9^7) (disch := first | with_reducible assumption | omega) only [dxB]) | (simp only [kdB]; split) | (simp only [kvB]; split))
  · rw [if_neg k1] at h3
    rw [if_neg (fun h => k1 h.1.1)]
    repeat' (first | (simp (maxSteps := 9^7) only [seval, exC, c_ref10_Good, h1, gd_loop, c_ref10_Good_b1, i2_30, i2_31, fa_i, rp_0, rp_1, h3]) | (simp (maxSteps := 9^7) (disch := first | with_reducible assumption | omega) only [dxB]) | (simp only [kdB]; split) | (simp only [kvB]; split))
theorem xopens3 (J : Al G T g) {f' md : Int} {a b c d e f : Nat} (ha : a < 18446744073709551616) (hb : b < 18446744073709551616) (hc : c < 18446744073709551616) (hd : d < 18446744073709551616) (he : e < 18446744073709551616) (hf : f < 18446744073709551616) :
    (∃ n, n ≠ 0 ∧ run G T 253 [.int .u8 f', .int .u8 md, im3 a b c d e f] = some (.int .i64 n) ∧ run G T 286 [.int .u8 f', .int .u8 md, im3 a b c d e f] = some (.int .i64 n)) ∨
    (∃ F, f' = Fm.u F ∧ (1 ≤ md ∧ md ≤ 5) ∧ ((a < 2 * F.sg ∧ b < 2 * F.sg) ∧ (c < 2 * F.sg ∧ d < 2 * F.sg) ∧ (e < 2 * F.sg ∧ f < 2 * F.sg)) ∧ run G T 253 [.int .u8 f', .int .u8 md, im3 a b c d e f] = some (.int .i64 0)) := by
  by_cases hf' : f' = 1 ∨ f' = 2
  · obtain ⟨F, rfl⟩ := fm_of hf'
    by_cases hm : 1 ≤ md ∧ md ≤ 5
    · have h1 := ref10_Good3 J F ha hb hc hd he hf
      have h2 := exact_open3 J F hm ha hb hc hd he hf
      by_cases k1 : (a < 2 * F.sg ∧ b < 2 * F.sg) ∧ (c < 2 * F.sg ∧ d < 2 * F.sg) ∧ (e < 2 * F.sg ∧ f < 2 * F.sg)
      · rw [if_pos k1] at h1 h2
        exact Or.inr ⟨F, rfl, hm, k1, law12_opens_k J F hm h1⟩
      · rw [if_neg k1] at h1 h2
        exact Or.inl ⟨6, by decide, law12_opens_k J F hm h1, h2⟩
    · exact Or.inl ⟨5, by decide, law12_opens_mode J F hm, exact_open_mode J F hm⟩
  · exact Or.inl ⟨4, by decide, law12_opens_no J hf', exact_open_no J hf'⟩
def fuW (F : Fm) (md : Int) (x y : Dy × Bool) (w : Nat) : Nat × Nat := if F.fin w then ptQ F md (addD (addD x.1 y.1) (F.vl w)) (zsg3 md x y (F.vl w, F.ng w)) oneD else (F.can w, 0)
theorem fuW_s (F : Fm) (md : Int) {x y v : Dy × Bool} (s : Bool) (h : (addD (addD x.1 y.1) v.1).m = 0 → s = zsg3 md x y v) (b : Dy) : ptQ F md (addD (addD x.1 y.1) v.1) s b = ptQ F md (addD (addD x.1 y.1) v.1) (zsg3 md x y v) b := by
  unfold ptQ
  by_cases h0 : (addD (addD x.1 y.1) v.1).m = 0
  · rw [if_pos h0, if_pos h0, h h0]
  · rw [if_neg h0, if_neg h0]
theorem addD_z1 {a b : Dy} (h : a.m = 0) : addD a b = b := by unfold addD; rw [if_pos h]
set_option maxHeartbeats 8000000 in
theorem exact_work_fused (J : Al G T g) (F : Fm) {md : Int} (hm : 1 ≤ md ∧ md ≤ 5) {z y : Bool} {p q : Dy × Bool} {w : Nat} (np : Nz p.1) (nq : Nz q.1) (hp : Bd p.1 2400) (hq : Bd q.1 2400) (hw : w < 2 * F.sg) :
    run G T 287 [workA F md, numA z p, numA y q, .int .u64 (w : Int)] = some (.tup [.int .u64 ((fuW F md p q w).1 : Int), .int .u8 ((fuW F md p q w).2 : Int)]) := by
  rw [run_k G T J.J.exact_work_fused]
  have c1 := word_Class J F hw
  unfold fuW
  by_cases hf : F.fin w
  · rw [if_pos hf]
    have hc : ¬ 4 ≤ F.cls w := by have := fin_iff.1 hf; omega
    obtain ⟨u, nu⟩ := exact_numOf J F hw
    have nv := Nz_vl F w
    have bv := Bd_vl F w
    obtain ⟨z1, a1⟩ := dyad_Add J (z := z) (y := y) (hp.mono (by decide)) (hq.mono (by decide)) (mayD_nzb np (hp.mono (by decide))) (mayD_nzb nq (hq.mono (by decide)))
    have bs := Bd_add hp hq
    obtain ⟨z2, a2⟩ := dyad_Add J (z := z1) (y := u) (bs.mono (by decide)) (bv.mono (by decide)) (mayD_nzb (Nz_add np nq) (bs.mono (by decide))) (mayD_nzb nv (bv.mono (by decide)))
    have s1 := dyad_Sign J (n := p.1.n) (z := z) (Dg_dl p.1.m) (e := p.1.e)
    have s2 := dyad_Sign J (n := q.1.n) (z := y) (Dg_dl q.1.m) (e := q.1.e)
    rw [sign_may (mayD_nzb np (hp.mono (by decide)))] at s1
    rw [sign_may (mayD_nzb nq (hq.mono (by decide)))] at s2
    obtain ⟨zo, i1⟩ := dyad_Int1 J
    have k := fun s h => (exact_work_part J F hm (z := z2) (y := zo) (s := s) (d := addD (addD p.1 q.1) (F.vl w)) (b := oneD) (Nz_add (Nz_add np nq) nv) Nz_one ((Bd_add bs (bv.mono (by decide))).mono (by decide)) (Bd_one (by decide)) (by decide)).trans (by rw [fuW_s F md (v := (F.vl w, F.ng w)) s h])
    have hz : (addD (addD p.1 q.1) (F.vl w)).m = 0 → p.1.m = 0 → q.1.m = 0 → (F.vl w).m = 0 := fun h h1 h2 => by
      rw [addD_z1 h1, addD_z1 h2] at h; exact h
    unfold zsg3 at k ⊢
    generalize ptQ F md (addD (addD p.1 q.1) (F.vl w)) (if p.1.m = 0 ∧ q.1.m = 0 ∧ (F.vl w, F.ng w).1.m = 0 ∧ q.2 = p.2 ∧ (F.vl w, F.ng w).2 = p.2 then p.2 else decide (md = 5)) oneD = R at *
    simp only at k
    generalize addD (addD p.1 q.1) (F.vl w) = S at *
    generalize addD p.1 q.1 = S1 at *
    generalize F.vl w = v at *
    generalize F.ng w = n at *
    generalize F.cls w = cl at *
    generalize oneD = one at *
    clear np nq hp hq nv bv bs
    obtain ⟨d1, n1⟩ := p
    obtain ⟨d2, n2⟩ := q
    simp only at *
    by_cases e1 : n1 = n2
    · subst e1
      by_cases e2 : n1 = n
      · subst e2
        by_cases m1 : d1.m = 0
        · by_cases m2 : d2.m = 0
          · have k2 := k n1 (fun h => by rw [if_pos ⟨m1, m2, hz h m1 m2, rfl, rfl⟩])
            rw [if_pos m1] at s1
            rw [if_pos m2] at s2
            clear k
            simp only [workA, numA, DyA, A3] at *
            repeat' (first | (simp (maxSteps := 9^7) only [seval, exC, c_exact_work_fused, c1, hc, nu, a1, a2, s1, s2, i1, k2]) | (simp (maxSteps := 9^7) (disch := first | with_reducible assumption | omega) only [dxB]) | (simp only [kdB]; split) | (simp only [kvB]; split))
          · have k2 := k (decide (md = 5)) (fun h => by rw [if_neg (fun q => m2 q.2.1)])
            rw [if_pos m1] at s1
            rw [if_neg m2] at s2
            have t : ¬ (if d2.n = true then (-1 : Int) else 1) = 0 := by split <;> decide
            generalize (if d2.n = true then (-1 : Int) else 1) = t2 at *
            clear k
            simp only [workA, numA, DyA, A3] at *
            repeat' (first | (simp (maxSteps := 9^7) only [seval, exC, c_exact_work_fused, c1, hc, nu, a1, a2, s1, s2, t, i1, k2]) | (simp (maxSteps := 9^7) (disch := first | with_reducible assumption | omega) only [dxB]) | (simp only [kdB]; split) | (simp only [kvB]; split))
        · have k2 := k (decide (md = 5)) (fun h => by rw [if_neg (fun q => m1 q.1)])
          rw [if_neg m1] at s1
          have t : ¬ (if d1.n = true then (-1 : Int) else 1) = 0 := by split <;> decide
          generalize (if d1.n = true then (-1 : Int) else 1) = t2 at *
          clear k
          simp only [workA, numA, DyA, A3] at *
          repeat' (first | (simp (maxSteps := 9^7) only [seval, exC, c_exact_work_fused, c1, hc, nu, a1, a2, s1, t, i1, k2]) | (simp (maxSteps := 9^7) (disch := first | with_reducible assumption | omega) only [dxB]) | (simp only [kdB]; split) | (simp only [kvB]; split))
      · have k2 := k (decide (md = 5)) (fun h => by rw [if_neg (fun q => e2 q.2.2.2.2.symm)])
        clear k
        simp only [workA, numA, DyA, A3] at *
        repeat' (first | (simp (maxSteps := 9^7) only [seval, exC, c_exact_work_fused, c1, hc, nu, a1, a2, e2, i1, k2]) | (simp (maxSteps := 9^7) (disch := first | with_reducible assumption | omega) only [dxB]) | (simp only [kdB]; split) | (simp only [kvB]; split))
    · have k2 := k (decide (md = 5)) (fun h => by rw [if_neg (fun q => e1 q.2.2.2.1.symm)])
      clear k
      simp only [workA, numA, DyA, A3] at *
      repeat' (first | (simp (maxSteps := 9^7) only [seval, exC, c_exact_work_fused, c1, hc, nu, a1, a2, e1, i1, k2]) | (simp (maxSteps := 9^7) (disch := first | with_reducible assumption | omega) only [dxB]) | (simp only [kdB]; split) | (simp only [kvB]; split))
  · rw [if_neg hf]
    have hc : 4 ≤ F.cls w := by have := fin_iff (F := F) (w := w); have := cls_range F w; by_cases h : 4 ≤ F.cls w; exact h; exfalso; apply hf; apply fin_iff.2; omega
    have c2 := word_Canon J F hw
    generalize F.can w = cw at *
    generalize F.cls w = cl at *
    simp only [workA, numA, cast0] at *
    repeat' (first | (simp (maxSteps := 9^7) only [seval, exC, c_exact_work_fused, c1, hc, c2]) | (simp (maxSteps := 9^7) (disch := first | with_reducible assumption | omega) only [dxB]) | (simp only [kdB]; split) | (simp only [kvB]; split))
end Go.Cv
namespace Go.Cv
variable {G : Nat → Option (List AV)} {T : Tbl} {g : Nat}
def zrI (p : (Int × Int) × (Int × Int)) : AV := .agg [.int .u64 p.1.1, .int .u64 p.2.1, .int .u8 p.1.2, .int .u8 p.2.2]
noncomputable def maI (F : Fm) (md : Int) (a b c d e f : Nat) : (Int × Int) × (Int × Int) :=
  if smS F a b c d then (((addW F md (smW F md a b c d).1.1 e).1, orI .u8 (addW F md (smW F md a b c d).1.1 e).2 (smW F md a b c d).1.2), ((addW F md (smW F md a b c d).2.1 f).1, orI .u8 (addW F md (smW F md a b c d).2.1 f).2 (smW F md a b c d).2.2))
  else (((fuW F md (tm F a c false) (tm F b d true) e).1, (fuW F md (tm F a c false) (tm F b d true) e).2), ((fuW F md (tm F a d false) (tm F b c false) f).1, (fuW F md (tm F a d false) (tm F b c false) f).2))
theorem nan_lt (F : Fm) : F.nan < 2 * F.sg := by cases F <;> decide
theorem min_lt (F : Fm) {w : Nat} (h : w < 2 * F.sg) : F.min w < 2 * F.sg := by
  unfold Fm.min; split
  · exact nan_lt F
  · exact (flip_facts h).1
theorem sideW_lt (F : Fm) {s : Nat} (hs : s < 2 * F.sg) (p : Int × Bool) : sideW F s p < 2 * F.sg := by
  have z0 : (0 : Nat) < 2 * F.sg := by cases F <;> decide
  unfold sideW
  split
  · split
    · exact min_lt F hs
    · exact min_lt F z0
  · split
    · exact hs
    · exact z0
theorem smW_lt (F : Fm) (md : Int) (a b c d : Nat) : (smW F md a b c d).1.1 < 2 * F.sg ∧ (smW F md a b c d).2.1 < 2 * F.sg := by
  have z0 : (0 : Nat) < 2 * F.sg := by cases F <;> decide
  have zn : F.nan < 2 * F.sg := by cases F <;> decide
  unfold smW
  repeat' split
  · exact ⟨z0, z0⟩
  · exact ⟨zn, zn⟩
  · exact ⟨zn, zn⟩
  · exact ⟨sideW_lt F (inf_lt F false) _, sideW_lt F (inf_lt F false) _⟩
set_option maxHeartbeats 16000000 in
theorem exact_MulAdd (J : Al G T g) (F : Fm) {md : Int} (hm : 1 ≤ md ∧ md ≤ 5) {a b c d e f : Nat} (ha : a < 2 * F.sg) (hb : b < 2 * F.sg) (hc : c < 2 * F.sg) (hd : d < 2 * F.sg) (he : e < 2 * F.sg) (hf : f < 2 * F.sg) :
    run G T 265 [.int .u8 F.u, .int .u8 md, zA a b, zA c d, zA e f] = some (.tup [zrI (maI F md a b c d e f), .int .i64 0]) := by
  rw [run_k G T J.J.exact_MulAdd]
  have o1 := exact_open3 J F hm (sg_64 ha) (sg_64 hb) (sg_64 hc) (sg_64 hd) (sg_64 he) (sg_64 hf)
  rw [if_pos ⟨⟨ha, hb⟩, ⟨hc, hd⟩, he, hf⟩] at o1
  have s1 := special_Mul J F hm ha hb hc hd
  unfold maI
  by_cases hs : smS F a b c d = true
  · rw [if_pos hs]
    rw [hs] at s1
    have a1 := exact_Add J F hm (smW_lt F md a b c d).1 (smW_lt F md a b c d).2 he hf
    generalize addW F md (smW F md a b c d).1.1 e = S1 at *
    generalize addW F md (smW F md a b c d).2.1 f = S2 at *
    generalize smW F md a b c d = S at *
    simp only [zA, zrA, zrI, im3] at *
    repeat' (first | (simp (maxSteps := 9^7) only [seval, exC, c_exact_MulAdd, st_bslice3, repA_3, o1, s1, a1]) | (simp (maxSteps := 9^7) (disch := first | with_reducible assumption | omega) only [dxB]) | (simp only [kdB]; split) | (simp only [kvB]; split))
  · rw [if_neg hs]
    rw [Bool.not_eq_true] at hs
    rw [hs] at s1
    obtain ⟨z1, y1, g1⟩ := exact_gaussOf J F ha hb
    obtain ⟨z2, y2, g2⟩ := exact_gaussOf J F hc hd
    have hvl := fun w => (Bd_vl F w).mono (show 4096 ≤ 16384 by decide)
    obtain ⟨u1, t1⟩ := exact_num_times J (z := z1) (y := z2) (n := F.ng a) (k := F.ng c) (Nz_vl F a) (Nz_vl F c) (hvl a) (hvl c)
    obtain ⟨u2, t2⟩ := exact_num_times J (z := y1) (y := y2) (n := F.ng b) (k := F.ng d) (Nz_vl F b) (Nz_vl F d) (hvl b) (hvl d)
    obtain ⟨u3, t3⟩ := exact_num_minus J (z := u2) (n := F.ng b != F.ng d) (a := mulD (F.vl b) (F.vl d)) (Nz_mul _ _) ((Bd_prod F b d).mono (by decide))
    obtain ⟨u4, t4⟩ := exact_num_times J (z := z1) (y := y2) (n := F.ng a) (k := F.ng d) (Nz_vl F a) (Nz_vl F d) (hvl a) (hvl d)
    obtain ⟨u5, t5⟩ := exact_num_times J (z := y1) (y := z2) (n := F.ng b) (k := F.ng c) (Nz_vl F b) (Nz_vl F c) (hvl b) (hvl c)
    have k1 := exact_work_fused J F hm (z := u1) (y := u3) (Bd_tm F a c false).2 (Bd_tm F b d true).2 (Bd_tm F a c false).1 (Bd_tm F b d true).1 he
    have k2 := exact_work_fused J F hm (z := u4) (y := u5) (Bd_tm F a d false).2 (Bd_tm F b c false).2 (Bd_tm F a d false).1 (Bd_tm F b c false).1 hf
    generalize fuW F md (tm F a c false) (tm F b d true) e = S1 at *
    generalize fuW F md (tm F a d false) (tm F b c false) f = S2 at *
    unfold tm at k1 k2
    simp only [Bool.false_eq_true, if_false, if_true, Bool.bne_false, Bool.bne_true] at k1 k2
    generalize negD (mulD (F.vl b) (F.vl d)) = d3 at *
    generalize mulD (F.vl a) (F.vl c) = d1 at *
    generalize mulD (F.vl b) (F.vl d) = d2 at *
    generalize mulD (F.vl a) (F.vl d) = d4 at *
    generalize mulD (F.vl b) (F.vl c) = d5 at *
    generalize (F.ng a != F.ng c) = n1 at *
    generalize (F.ng b != F.ng d) = n2 at *
    generalize (F.ng a != F.ng d) = n4 at *
    generalize (F.ng b != F.ng c) = n5 at *
    generalize (!n2) = n3 at *
    generalize smW F md a b c d = S at *
    generalize F.vl a = va at *
    generalize F.vl b = vb at *
    generalize F.vl c = vc at *
    generalize F.vl d = vd at *
    generalize F.ng a = na at *
    generalize F.ng b = nb at *
    generalize F.ng c = nc at *
    generalize F.ng d = nd at *
    clear hvl
    simp only [zA, zrA, zrI, im3, gaussA, workA, numA, DyA, A3] at *
    repeat' (first | (simp (maxSteps := 9^7) only [seval, exC, c_exact_MulAdd, st_bslice3, repA_3, o1, s1, g1, g2, t1, t2, t3, t4, t5, k1, k2]) | (simp (maxSteps := 9^7) (disch := first | with_reducible assumption | omega) only [dxB]) | (simp only [kdB]; split) | (simp only [kvB]; split))
theorem exact_MulAdd_err (J : Al G T g) {f' md n : Int} {a b c d e f : Nat} (hn : n ≠ 0) (h : run G T 286 [.int .u8 f', .int .u8 md, im3 a b c d e f] = some (.int .i64 n)) :
    run G T 265 [.int .u8 f', .int .u8 md, zA a b, zA c d, zA e f] = some (.tup [zr0, .int .i64 n]) := by
  rw [run_k G T J.J.exact_MulAdd]
  simp only [zA, zr0, zrA, im3, cast0] at *
  repeat' (first | (simp (maxSteps := 9^7) only [seval, exC, c_exact_MulAdd, st_bslice3, repA_3, h, hn]) | (simp (maxSteps := 9^7) (disch := first | with_reducible assumption | omega) only [dxB]) | (simp only [kdB]; split) | (simp only [kvB]; split))
theorem ia2_40 (b : Nat) (k : IntKind) : iaddrAV 2 4 (.ptr b 0) (.int k 0) = some (.ptr b 0) := rfl
theorem ia2_41 (b : Nat) (k : IntKind) : iaddrAV 2 4 (.ptr b 0) (.int k 1) = some (.ptr b 4) := rfl
set_option maxHeartbeats 16000000 in
theorem ref12_third (J : Al G T g) (F : Fm) {md : Int} (hm : 1 ≤ md ∧ md ≤ 5) {z y : Bool} {p q : Dy × Bool} {w : Nat} (hp : Bd p.1 2400) (hq : Bd q.1 2400) (hw : w < 2 * F.sg) :
    run G T 288 [.int .u8 F.u, .int .u8 md, gaussA z y p q, .int .u64 (w : Int)] = some (.tup [.int .u64 ((fuW F md p q w).1 : Int), .int .u8 ((fuW F md p q w).2 : Int)]) := by
  rw [run_k G T J.J.ref12_third]
  have f1 := ref03_Finite J F (sg_64 hw)
  unfold fuW
  by_cases hf : F.fin w
  · rw [if_pos hf]
    rw [decide_eq_true hf] at f1
    obtain ⟨u, v1⟩ := ref03_Value J F (sg_64 hw) hf
    rw [← vl_val hf] at v1
    have n1 := ref12_neg J F hw
    have bv := Bd_vl F w
    have bs := Bd_add hp hq
    obtain ⟨u2, q1⟩ := ref12_Sum3 J (md := md) (z := z) (y := y) (u := u) (x := p) (w := q) (v := (F.vl w, F.ng w)) (hp.mono (by decide)) (hq.mono (by decide)) (bv.mono (by decide))
    obtain ⟨u3, i1⟩ := ref02_Int1 J
    have r1 := ref12_rounded J F hm (z := u2) (y := u3) (s := zsg3 md p q (F.vl w, F.ng w)) (d := addD (addD p.1 q.1) (F.vl w)) (b := oneD) ((Bd_add bs (bv.mono (by decide))).mono (by decide)) (Bd_one (by decide)) (by decide)
    generalize ptQ F md (addD (addD p.1 q.1) (F.vl w)) (zsg3 md p q (F.vl w, F.ng w)) oneD = R at *
    generalize zsg3 md p q (F.vl w, F.ng w) = zs at *
    simp only at q1
    generalize addD (addD p.1 q.1) (F.vl w) = S at *
    generalize F.vl w = v at *
    generalize F.ng w = n at *
    generalize oneD = one at *
    clear hp hq bv bs
    simp only [gaussA, cellsN, List.cons_append, List.nil_append, DyA, A3] at *
    repeat' (first | (simp (maxSteps := 9^7) only [seval, exC, c_ref12_third, f1, st_bs4, repA_3, ia2_40, ia2_41, v1, n1, q1, i1, r1]) | (simp (maxSteps := 9^7) (disch := first | with_reducible assumption | omega) only [dxB]) | (simp only [kdB]; split) | (simp only [kvB]; split))
  · rw [if_neg hf]
    rw [decide_eq_false hf] at f1
    have c1 := ref03_Canon J F hw
    generalize F.can w = cw at *
    simp only [gaussA, cast0] at *
    repeat' (first | (simp (maxSteps := 9^7) only [seval, exC, c_ref12_third, f1, c1]) | (simp (maxSteps := 9^7) (disch := first | with_reducible assumption | omega) only [dxB]) | (simp only [kdB]; split) | (simp only [kvB]; split))
set_option maxHeartbeats 16000000 in
theorem ref12_MulAdd (J : Al G T g) (F : Fm) {md : Int} (hm : 1 ≤ md ∧ md ≤ 5) {a b c d e f : Nat} (ha : a < 2 * F.sg) (hb : b < 2 * F.sg) (hc : c < 2 * F.sg) (hd : d < 2 * F.sg) (he : e < 2 * F.sg) (hf : f < 2 * F.sg) :
    run G T 266 [.int .u8 F.u, .int .u8 md, zA a b, zA c d, zA e f] = some (zrI (maI F md a b c d e f)) := by
  rw [run_k G T J.J.ref12_MulAdd]
  have f1 := ref10_Finite J F ha hb
  have f2 := ref10_Finite J F hc hd
  have e1 := zcl_fin2 F (a := a) (b := b)
  have e2 := zcl_fin2 F (a := c) (b := d)
  unfold maI
  by_cases hs : smS F a b c d = true
  · rw [if_pos hs]
    have s1 := ref11_Mul J F hm ha hb hc hd
    have a1 := ref12_Add J F hm (smW_lt F md a b c d).1 (smW_lt F md a b c d).2 he hf
    have hn : ¬ ((F.fin a ∧ F.fin b) ∧ (F.fin c ∧ F.fin d)) := by
      unfold smS at hs
      rw [e1, e2]
      intro q
      rw [decide_eq_true q] at hs
      cases hs
    generalize addW F md (smW F md a b c d).1.1 e = S1 at *
    generalize addW F md (smW F md a b c d).2.1 f = S2 at *
    generalize smW F md a b c d = S at *
    generalize smS F a b c d = x at *
    clear e1 e2
    by_cases k1 : F.fin a ∧ F.fin b
    · rw [decide_eq_true k1] at f1
      rw [decide_eq_false (fun h => hn ⟨k1, h⟩)] at f2
      clear hs
      simp only [zA, zrA, zrI] at *
      repeat' (first | (simp (maxSteps := 9^7) only [seval, exC, c_ref12_MulAdd, f1, f2, s1, a1]) | (simp (maxSteps := 9^7) (disch := first | with_reducible assumption | omega) only [dxB]) | (simp only [kdB]; split) | (simp only [kvB]; split))
    · rw [decide_eq_false k1] at f1
      clear hs
      simp only [zA, zrA, zrI] at *
      repeat' (first | (simp (maxSteps := 9^7) only [seval, exC, c_ref12_MulAdd, f1, s1, a1]) | (simp (maxSteps := 9^7) (disch := first | with_reducible assumption | omega) only [dxB]) | (simp only [kdB]; split) | (simp only [kvB]; split))
  · rw [if_neg hs]
    have hz : zcl (F.cls a) (F.cls b) ≤ 2 ∧ zcl (F.cls c) (F.cls d) ≤ 2 := by
      unfold smS at hs
      simpa using hs
    obtain ⟨fa, fb⟩ := e1.2 hz.1
    obtain ⟨fc, fd⟩ := e2.2 hz.2
    rw [decide_eq_true ⟨fa, fb⟩] at f1
    rw [decide_eq_true ⟨fc, fd⟩] at f2
    obtain ⟨z, y, u, v, p1⟩ := ref12_Product J F ha hb hc hd fa fb fc fd
    have k1 := ref12_third J F hm (z := z) (y := y) (Bd_tm F a c false).1 (Bd_tm F b d true).1 he
    have k2 := ref12_third J F hm (z := u) (y := v) (Bd_tm F a d false).1 (Bd_tm F b c false).1 hf
    generalize fuW F md (tm F a c false) (tm F b d true) e = S1 at *
    generalize fuW F md (tm F a d false) (tm F b c false) f = S2 at *
    generalize tm F a c false = t1 at *
    generalize tm F b d true = t2 at *
    generalize tm F a d false = t3 at *
    generalize tm F b c false = t4 at *
    clear e1 e2 hz hs
    simp only [zA, zrI, gaussA] at *
    repeat' (first | (simp (maxSteps := 9^7) only [seval, exC, c_ref12_MulAdd, f1, f2, p1, k1, k2]) | (simp (maxSteps := 9^7) (disch := first | with_reducible assumption | omega) only [dxB]) | (simp only [kdB]; split) | (simp only [kvB]; split))
theorem law12_is_okI (J : Al G T g) {p : (Int × Int) × (Int × Int)} : run G T 254 [zrI p, .int .i64 0, zrI p, .int .i64 0] = some (.bool true) := by
  rw [run_k G T J.J.law12_is]
  simp only [zrI]
  repeat' (first | (simp (maxSteps := 9^7) only [seval, exC, c_law12_is, st_eqs, zr_self]) | (simp (maxSteps := 9^7) (disch := first | with_reducible assumption | omega) only [dxB]) | (simp only [kdB]; split) | (simp only [kvB]; split))
theorem ia32_0 (b : Nat) (k : IntKind) : iaddrAV 3 2 (.ptr b 0) (.int k 0) = some (.ptr b 0) := rfl
theorem ia32_1 (b : Nat) (k : IntKind) : iaddrAV 3 2 (.ptr b 0) (.int k 1) = some (.ptr b 2) := rfl
theorem ia32_2 (b : Nat) (k : IntKind) : iaddrAV 3 2 (.ptr b 0) (.int k 2) = some (.ptr b 4) := rfl
set_option maxHeartbeats 16000000 in
theorem law12_ExactFused (J : Al G T g) (hK : run G T 255 [] = some (.bool true))
    {f m : Int} {a b c d e x : Nat} (ha : a < 18446744073709551616) (hb : b < 18446744073709551616) (hc : c < 18446744073709551616) (hd : d < 18446744073709551616) (he : e < 18446744073709551616) (hx : x < 18446744073709551616) :
    run G T 248 [.int .u8 f, .int .u8 m, .agg [.int .u64 (a : Int), .int .u64 (b : Int), .int .u64 (c : Int), .int .u64 (d : Int), .int .u64 (e : Int), .int .u64 (x : Int)]] = some (.bool true) := by
  rw [run_k G T J.J.law12_ExactFused]
  rcases xopens3 (G := G) (T := T) (f' := f) (md := m) J ha hb hc hd he hx with ⟨n, hn, o1, o2⟩ | ⟨F, rfl, hm, ⟨⟨k1, k2⟩, ⟨k3, k4⟩, k5, k6⟩, o1⟩
  · have r1 := exact_MulAdd_err J hn o2
    have i1 := law12_is_err J hn
    simp only [zA, zr0, zrA, im3, cast0] at *
    repeat' (first | (simp (maxSteps := 9^7) only [seval, exC, c_law12_ExactFused, st_bs2, st_bslice3, repA_3, ia32_0, ia32_1, ia32_2, r1, o1, hn, i1, hK]) | (simp (maxSteps := 9^7) (disch := first | with_reducible assumption | omega) only [dxB]) | (simp only [kdB]; split) | (simp only [kvB]; split))
  · have r1 := exact_MulAdd J F hm k1 k2 k3 k4 k5 k6
    have r2 := ref12_MulAdd J F hm k1 k2 k3 k4 k5 k6
    have i1 := law12_is_okI J (p := maI F m a b c d e x)
    generalize maI F m a b c d e x = S at *
    simp only [zA, zrI, im3] at *
    repeat' (first | (simp (maxSteps := 9^7) only [seval, exC, c_law12_ExactFused, st_bs2, st_bslice3, repA_3, ia32_0, ia32_1, ia32_2, r1, o1, r2, i1, hK]) | (simp (maxSteps := 9^7) (disch := first | with_reducible assumption | omega) only [dxB]) | (simp only [kdB]; split) | (simp only [kvB]; split))
def pl (F : Fm) (w : Nat) : Int := if F.ng w then -((w % F.sg : Nat) : Int) else ((w % F.sg : Nat) : Int)
def ordI (a b : Int) : Int := if a < b then 1 else if b < a then 3 else 2
theorem tmod_sg (F : Fm) (w : Nat) : (w : Int).tmod (F.sg : Int) = ((w % F.sg : Nat) : Int) := by rw [Int.tmod_eq_emod_of_nonneg (by omega)]; omega
theorem ref07_Place (J : Al G T g) (F : Fm) {w : Nat} (hw : w < 2 * F.sg) : run G T 283 [.int .u8 F.u, .int .u64 (w : Int)] = some (.int .i64 (pl F w)) := by
  rw [run_k G T J.J.ref07_Place]
  have h1 := ref03_Sign J F
  have h2 := ref03_Split J F (sg_64 hw)
  have hi := fm_i0 F
  have hm := Nat.mod_lt w (show 0 < F.sg by omega)
  have e1 := tmod_sg F w
  have h0 : ¬ (F.sg : Int) = 0 := by omega
  unfold pl
  have w1 : IntKind.i64.wrap ((w % F.sg : Nat) : Int) = ((w % F.sg : Nat) : Int) := wrap_i64 (by omega)
  have w2 : IntKind.i64.wrap (0 - ((w % F.sg : Nat) : Int)) = -((w % F.sg : Nat) : Int) := by rw [Int.zero_sub]; exact wrap_i64 (by omega)
  generalize ((w % F.sg : Nat) : Int) = m at *
  generalize F.ng w = n at *
  generalize (F.sg : Int) = s at *
  clear hm hi
  simp only [fldA] at *
  cases n <;> repeat' (first | (simp (maxSteps := 9^7) only [seval, exC, c_ref07_Place, fd_3, h1, h2, e1, h0, w1, w2]) | (simp (maxSteps := 9^7) (disch := first | with_reducible assumption | omega) only [dxB]) | (simp only [kdB]; split) | (simp only [kvB]; split))
def stepsI (a b : Int) : Int := if a < b then IntKind.u64.wrap (IntKind.i64.wrap (b - a)) else IntKind.u64.wrap (IntKind.i64.wrap (a - b))
theorem ref07_Steps (J : Al G T g) (F : Fm) {a b : Nat} (ha : a < 2 * F.sg) (hb : b < 2 * F.sg) : run G T 260 [.int .u8 F.u, .int .u64 (a : Int), .int .u64 (b : Int)] = some (.int .u64 (stepsI (pl F a) (pl F b))) := by
  rw [run_k G T J.J.ref07_Steps]
  have h1 := ref07_Place J F ha
  have h2 := ref07_Place J F hb
  unfold stepsI
  generalize pl F a = x at *
  generalize pl F b = y at *
  by_cases h : x < y
  · rw [if_pos h]
    generalize hv : IntKind.i64.wrap (y - x) = v at *
    repeat' (first | (simp (maxSteps := 9^7) only [seval, exC, c_ref07_Steps, h1, h2, h, hv]) | (simp (maxSteps := 9^7) (disch := first | with_reducible assumption | omega) only [dxB]) | (simp only [kdB]; split) | (simp only [kvB]; split))
  · rw [if_neg h]
    generalize hv : IntKind.i64.wrap (x - y) = v at *
    repeat' (first | (simp (maxSteps := 9^7) only [seval, exC, c_ref07_Steps, h1, h2, h, hv]) | (simp (maxSteps := 9^7) (disch := first | with_reducible assumption | omega) only [dxB]) | (simp only [kdB]; split) | (simp only [kvB]; split))
theorem w_mod (F : Fm) {w : Nat} (hw : w < 2 * F.sg) (h5 : F.cls w ≠ 5) : w % F.sg ≤ F.i0 ∧ (F.fin w ↔ w % F.sg < F.i0) := by
  obtain ⟨h1, h2, h3, h4⟩ := w_split hw
  have hp := Nat.two_pow_pos F.fr
  have e1 : F.i0 = 2 ^ F.fr * F.most := Nat.mul_comm ..
  have hlt : F.ex w < F.most → 2 ^ F.fr * F.ex w + F.fc w < 2 ^ F.fr * F.most := fun h => by
    have := Nat.mul_le_mul_left (2 ^ F.fr) (show F.ex w + 1 ≤ F.most from h)
    rw [Nat.mul_add] at this; omega
  unfold Fm.fin
  rw [h2, e1]
  by_cases h : F.ex w < F.most
  · exact ⟨Nat.le_of_lt (hlt h), fun _ => hlt h, fun _ => h⟩
  · have he : F.ex w = F.most := by omega
    have hm0 : F.most ≠ 0 := by cases F <;> decide
    have hf : F.fc w = 0 := by
      by_cases q : F.fc w = 0
      · exact q
      · exfalso; apply h5; unfold Fm.cls; rw [if_neg (by omega), if_neg h, if_neg q]
    rw [he, hf]
    exact ⟨Nat.le_refl _, fun q => absurd q (Nat.lt_irrefl _), fun q => absurd q (Nat.lt_irrefl _)⟩
theorem pl_inf (F : Fm) (n : Bool) : pl F (F.inf n) = if n then -(F.i0 : Int) else F.i0 := by cases F <;> cases n <;> decide
theorem pl_eq (F : Fm) {w : Nat} (hw : w < 2 * F.sg) : w = w % F.sg + F.sgn (F.ng w) := (w_split hw).1
theorem ivp (F : Fm) {w : Nat} (hw : w < 2 * F.sg) (hf : F.fin w) : iv (F.val w) F.low = (if F.ng w then -1 else 1) * (magN F (w % F.sg) : Int) ∧ LoE (F.val w) F.low := by
  have h5 : F.cls w ≠ 5 := by have := fin_iff.1 hf; omega
  have h := iv_val (F := F) (F.ng w) ((w_mod F hw h5).2.1 hf)
  rw [← pl_eq F hw] at h
  exact ⟨h.1, h.2.1⟩
theorem sgI_ord {x y : Int} : (sgI (x - y) < 0 ↔ x < y) ∧ (0 < sgI (x - y) ↔ y < x) := by rw [sgI_neg, sgI_pos]; omega
theorem cmp_pl (F : Fm) {a b : Nat} (ha : a < 2 * F.sg) (hb : b < 2 * F.sg) (fa : F.fin a) (fb : F.fin b) : (cmpD (F.val a) (F.val b) < 0 ↔ pl F a < pl F b) ∧ (0 < cmpD (F.val a) (F.val b) ↔ pl F b < pl F a) := by
  obtain ⟨i1, l1⟩ := ivp F ha fa
  obtain ⟨i2, l2⟩ := ivp F hb fb
  rw [cmp_iv l1 l2, i1, i2, sgI_ord.1, sgI_ord.2]
  unfold pl
  generalize a % F.sg = x
  generalize b % F.sg = y
  have m1 : magN F x < magN F y ↔ x < y := ⟨fun h => by
    rcases Nat.lt_or_ge x y with q | q
    · exact q
    · have := magN_le F q; omega, magN_lt F⟩
  have m2 : magN F y < magN F x ↔ y < x := ⟨fun h => by
    rcases Nat.lt_or_ge y x with q | q
    · exact q
    · have := magN_le F q; omega, magN_lt F⟩
  have z0 := magN_zero F
  have z1 : 0 < magN F x ↔ 0 < x := ⟨fun h => by
    rcases Nat.eq_zero_or_pos x with q | q
    · rw [q, z0] at h; exact absurd h (Nat.lt_irrefl _)
    · exact q, fun h => by have := magN_lt F h; omega⟩
  have z2 : 0 < magN F y ↔ 0 < y := ⟨fun h => by
    rcases Nat.eq_zero_or_pos y with q | q
    · rw [q, z0] at h; exact absurd h (Nat.lt_irrefl _)
    · exact q, fun h => by have := magN_lt F h; omega⟩
  cases F.ng a <;> cases F.ng b <;> simp <;> omega
set_option maxHeartbeats 4000000 in
theorem ref07_Cmp (J : Al G T g) (F : Fm) {a b : Nat} (ha : a < 2 * F.sg) (hb : b < 2 * F.sg) (na : F.cls a ≠ 5) (nb : F.cls b ≠ 5) :
    run G T 282 [.int .u8 F.u, .int .u64 (a : Int), .int .u64 (b : Int)] = some (.int .u8 (ordI (pl F a) (pl F b))) := by
  rw [run_k G T J.J.ref07_Cmp]
  have c1 := ref03_Class J F (sg_64 ha)
  have c2 := ref03_Class J F (sg_64 hb)
  have i1 := ref03_Inf J F (n := false)
  have i2 := ref03_Inf J F (n := true)
  obtain ⟨ma, fa⟩ := w_mod F ha na
  obtain ⟨mb, fb⟩ := w_mod F hb nb
  have hi := fm_i0 F
  have pa := pl_eq F ha
  have pb := pl_eq F hb
  have eqI : ∀ {x y : Nat}, ((x : Int) = (y : Int)) ↔ x = y := fun {x y} => by omega
  have isinf : ∀ {w : Nat}, w < 2 * F.sg → w % F.sg ≤ F.i0 → ¬ w % F.sg < F.i0 → w = F.inf (F.ng w) := fun {w} hw h1 h2 => by
    have e := pl_eq F hw
    rw [show w % F.sg = F.i0 by omega] at e
    exact e
  by_cases e : a = b
  · subst e
    rw [show ordI (pl F a) (pl F a) = 2 by unfold ordI; rw [if_neg (by omega), if_neg (by omega)]]
    repeat' (first | (simp (maxSteps := 9^7) only [seval, exC, c_ref07_Cmp, c1, na]) | (simp (maxSteps := 9^7) (disch := first | with_reducible assumption | omega) only [dxB]) | (simp only [kdB]; split) | (simp only [kvB]; split))
  · have e' : ¬ (a : Int) = (b : Int) := by omega
    have lt_p : ∀ {w : Nat}, w < 2 * F.sg → w % F.sg ≤ F.i0 → w ≠ F.inf false → pl F w < F.i0 := fun {w} hw h1 h2 => by
      unfold pl
      by_cases q : w % F.sg < F.i0
      · split <;> omega
      · have := isinf hw h1 q
        cases h : F.ng w
        · rw [h] at this; exact absurd this h2
        · simp; omega
    have gt_p : ∀ {w : Nat}, w < 2 * F.sg → w % F.sg ≤ F.i0 → w ≠ F.inf true → -(F.i0 : Int) < pl F w := fun {w} hw h1 h2 => by
      unfold pl
      by_cases q : w % F.sg < F.i0
      · split <;> omega
      · have := isinf hw h1 q
        cases h : F.ng w
        · simp; omega
        · rw [h] at this; exact absurd this h2
    have t0 := pl_inf F false
    have t1 := pl_inf F true
    simp only [Bool.false_eq_true, if_false, if_true] at t0 t1
    by_cases k1 : a = F.inf false
    · have : pl F b < pl F a := by rw [k1, t0]; exact lt_p hb mb (fun h => e (k1.trans h.symm))
      rw [show ordI (pl F a) (pl F b) = 3 by unfold ordI; rw [if_neg (by omega), if_pos (by omega)]]
      have k1' : (F.inf false : Int) = (a : Int) := by omega
      generalize (F.inf false : Int) = I1 at *
      generalize (F.inf true : Int) = I2 at *
      repeat' (first | (simp (maxSteps := 9^7) only [seval, exC, c_ref07_Cmp, c1, na, c2, nb, e', i1, i2, k1']) | (simp (maxSteps := 9^7) (disch := first | with_reducible assumption | omega) only [dxB]) | (simp only [kdB]; split) | (simp only [kvB]; split))
    · have k1' : ¬ (a : Int) = (F.inf false : Int) := by omega
      by_cases k2 : b = F.inf true
      · have : pl F b < pl F a := by rw [k2, t1]; exact gt_p ha ma (fun h => e (h.trans k2.symm))
        rw [show ordI (pl F a) (pl F b) = 3 by unfold ordI; rw [if_neg (by omega), if_pos (by omega)]]
        have k2' : (F.inf true : Int) = (b : Int) := by omega
        generalize (F.inf false : Int) = I1 at *
        generalize (F.inf true : Int) = I2 at *
        repeat' (first | (simp (maxSteps := 9^7) only [seval, exC, c_ref07_Cmp, c1, na, c2, nb, e', i1, i2, k1', k2']) | (simp (maxSteps := 9^7) (disch := first | with_reducible assumption | omega) only [dxB]) | (simp only [kdB]; split) | (simp only [kvB]; split))
      · have k2' : ¬ (b : Int) = (F.inf true : Int) := by omega
        by_cases k3 : b = F.inf false
        · have : pl F a < pl F b := by rw [k3, t0]; exact lt_p ha ma k1
          rw [show ordI (pl F a) (pl F b) = 1 by unfold ordI; rw [if_pos (by omega)]]
          have k3' : (F.inf false : Int) = (b : Int) := by omega
          generalize (F.inf false : Int) = I1 at *
          generalize (F.inf true : Int) = I2 at *
          repeat' (first | (simp (maxSteps := 9^7) only [seval, exC, c_ref07_Cmp, c1, na, c2, nb, e', i1, i2, k1', k2', k3']) | (simp (maxSteps := 9^7) (disch := first | with_reducible assumption | omega) only [dxB]) | (simp only [kdB]; split) | (simp only [kvB]; split))
        · have k3' : ¬ (b : Int) = (F.inf false : Int) := by omega
          by_cases k4 : a = F.inf true
          · have : pl F a < pl F b := by rw [k4, t1]; exact gt_p hb mb k2
            rw [show ordI (pl F a) (pl F b) = 1 by unfold ordI; rw [if_pos (by omega)]]
            have k4' : (F.inf true : Int) = (a : Int) := by omega
            generalize (F.inf false : Int) = I1 at *
            generalize (F.inf true : Int) = I2 at *
            repeat' (first | (simp (maxSteps := 9^7) only [seval, exC, c_ref07_Cmp, c1, na, c2, nb, e', i1, i2, k1', k2', k3', k4']) | (simp (maxSteps := 9^7) (disch := first | with_reducible assumption | omega) only [dxB]) | (simp only [kdB]; split) | (simp only [kvB]; split))
          · have k4' : ¬ (a : Int) = (F.inf true : Int) := by omega
            have ff : ∀ {w : Nat}, w < 2 * F.sg → w % F.sg ≤ F.i0 → w ≠ F.inf false → w ≠ F.inf true → w % F.sg < F.i0 := fun {w} hw h1 h2 h3 => by
              by_cases q : w % F.sg < F.i0
              · exact q
              · have := isinf hw h1 q
                cases h : F.ng w <;> rw [h] at this
                · exact absurd this h2
                · exact absurd this h3
            have fa' := fa.2 (ff ha ma k1 k4)
            have fb' := fb.2 (ff hb mb k3 k2)
            obtain ⟨z, v1⟩ := ref03_Value J F (sg_64 ha) fa'
            obtain ⟨y, v2⟩ := ref03_Value J F (sg_64 hb) fb'
            have ba := Bd_vl F a
            have bb := Bd_vl F b
            rw [vl_val fa'] at ba
            rw [vl_val fb'] at bb
            have d1 := ref02_Cmp J (z := z) (y := y) (ba.mono (by decide)) (bb.mono (by decide))
            obtain ⟨o1, o2⟩ := cmp_pl F ha hb fa' fb'
            have oe : ordI (pl F a) (pl F b) = if cmpD (F.val a) (F.val b) < 0 then 1 else if 0 < cmpD (F.val a) (F.val b) then 3 else 2 := by unfold ordI; simp only [o1, o2]
            rw [oe]
            clear oe
            generalize cmpD (F.val a) (F.val b) = c at *
            generalize F.val a = va at *
            generalize F.val b = vb at *
            generalize (F.inf false : Int) = I1 at *
            generalize (F.inf true : Int) = I2 at *
            clear ba bb fa fb ff fa' fb' lt_p gt_p isinf t0 t1 o1 o2 hi pa pb ma mb
            simp only [DyA, A3] at *
            by_cases c0 : c < 0
            · rw [if_pos c0]
              repeat' (first | (simp (maxSteps := 9^7) only [seval, exC, c_ref07_Cmp, c1, na, c2, nb, e', i1, i2, k1', k2', k3', k4', v1, v2, d1, c0]) | (simp (maxSteps := 9^7) (disch := first | with_reducible assumption | omega) only [dxB]) | (simp only [kdB]; split) | (simp only [kvB]; split))
            · rw [if_neg c0]
              by_cases c3 : 0 < c
              · rw [if_pos c3]
                repeat' (first | (simp (maxSteps := 9^7) only [seval, exC, c_ref07_Cmp, c1, na, c2, nb, e', i1, i2, k1', k2', k3', k4', v1, v2, d1, c0, c3]) | (simp (maxSteps := 9^7) (disch := first | with_reducible assumption | omega) only [dxB]) | (simp only [kdB]; split) | (simp only [kvB]; split))
              · rw [if_neg c3]
                repeat' (first | (simp (maxSteps := 9^7) only [seval, exC, c_ref07_Cmp, c1, na, c2, nb, e', i1, i2, k1', k2', k3', k4', v1, v2, d1, c0, c3]) | (simp (maxSteps := 9^7) (disch := first | with_reducible assumption | omega) only [dxB]) | (simp only [kdB]; split) | (simp only [kvB]; split))
theorem law12_between (J : Al G T g) (F : Fm) {a b c : Nat} (ha : a < 2 * F.sg) (hb : b < 2 * F.sg) (hc : c < 2 * F.sg) (na : F.cls a ≠ 5) (nb : F.cls b ≠ 5) (nc : F.cls c ≠ 5) (h : pl F a ≤ pl F b ∧ pl F b ≤ pl F c) :
    run G T 259 [.int .u8 F.u, .int .u64 (a : Int), .int .u64 (b : Int), .int .u64 (c : Int)] = some (.bool true) := by
  rw [run_k G T J.J.law12_between]
  have h1 := ref07_Cmp J F ha hb na nb
  have h2 := ref07_Cmp J F hb hc nb nc
  have o1 : ordI (pl F a) (pl F b) = 1 ∨ ordI (pl F a) (pl F b) = 2 := by unfold ordI; split; exact Or.inl rfl; rw [if_neg (by omega)]; exact Or.inr rfl
  have o2 : ordI (pl F b) (pl F c) = 1 ∨ ordI (pl F b) (pl F c) = 2 := by unfold ordI; split; exact Or.inl rfl; rw [if_neg (by omega)]; exact Or.inr rfl
  generalize ordI (pl F a) (pl F b) = x at *
  generalize ordI (pl F b) (pl F c) = y at *
  rcases o1 with rfl | rfl <;> rcases o2 with rfl | rfl <;> repeat' (first | (simp (maxSteps := 9^7) only [seval, exC, c_law12_between, h1, h2]) | (simp (maxSteps := 9^7) (disch := first | with_reducible assumption | omega) only [dxB]) | (simp only [kdB]; split) | (simp only [kvB]; split))
def Near (F : Fm) (a b : Nat) : Prop := a = b ∨ (F.cls a = 1 ∧ F.cls b = 1)
theorem law12_near (J : Al G T g) (F : Fm) {a b : Nat} (ha : a < 2 * F.sg) (hb : b < 2 * F.sg) (h : Near F a b) : run G T 284 [.int .u8 F.u, .int .u64 (a : Int), .int .u64 (b : Int)] = some (.bool true) := by
  rw [run_k G T J.J.law12_near]
  have c1 := ref03_Class J F (sg_64 ha)
  have c2 := ref03_Class J F (sg_64 hb)
  by_cases e : (a : Int) = b
  · repeat' (first | (simp (maxSteps := 9^7) only [seval, exC, c_law12_near, e]) | (simp (maxSteps := 9^7) (disch := first | with_reducible assumption | omega) only [dxB]) | (simp only [kdB]; split) | (simp only [kvB]; split))
  · rcases h with h | ⟨h1, h2⟩
    · exfalso; omega
    · rw [h1] at c1
      rw [h2] at c2
      repeat' (first | (simp (maxSteps := 9^7) only [seval, exC, c_law12_near, e, c1, c2]) | (simp (maxSteps := 9^7) (disch := first | with_reducible assumption | omega) only [dxB]) | (simp only [kdB]; split) | (simp only [kvB]; split))
theorem law12_alike (J : Al G T g) (F : Fm) {a b c d : Nat} (ha : a < 2 * F.sg) (hb : b < 2 * F.sg) (hc : c < 2 * F.sg) (hd : d < 2 * F.sg) (h1 : Near F a c) (h2 : Near F b d) : run G T 261 [.int .u8 F.u, zA a b, zA c d] = some (.bool true) := by
  rw [run_k G T J.J.law12_alike]
  have n1 := law12_near J F ha hc h1
  have n2 := law12_near J F hb hd h2
  simp only [zA] at *
  repeat' (first | (simp (maxSteps := 9^7) only [seval, exC, c_law12_alike, n1, n2]) | (simp (maxSteps := 9^7) (disch := first | with_reducible assumption | omega) only [dxB]) | (simp only [kdB]; split) | (simp only [kvB]; split))
def Wd (F : Fm) (w : Nat) : Prop := w < 2 * F.sg ∧ F.cls w ≠ 5
theorem pt_size (F : Fm) (neg : Bool) {s : Nat} (h : s ≤ F.i0) : pl F (s + F.sgn neg) = plz F neg s ∧ Wd F (s + F.sgn neg) := pl_size F neg h
theorem part_between (F : Fm) {md : Int} (hm : 1 ≤ md ∧ md ≤ 5) {X b : Dy} (hb : b.m ≠ 0) (s5 s s4 : Bool) :
    (Wd F (ptQ F 5 X s5 b).1 ∧ Wd F (ptQ F md X s b).1 ∧ Wd F (ptQ F 4 X s4 b).1) ∧ (pl F (ptQ F 5 X s5 b).1 ≤ pl F (ptQ F md X s b).1 ∧ pl F (ptQ F md X s b).1 ≤ pl F (ptQ F 4 X s4 b).1) ∧ pl F (ptQ F 4 X s4 b).1 ≤ pl F (ptQ F 5 X s5 b).1 + 1 := by
  unfold ptQ
  by_cases h0 : X.m = 0
  · simp only [if_pos h0]
    have z : ∀ n, pl F (F.sgn n) = 0 ∧ Wd F (F.sgn n) := fun n => by
      have h := pt_size F n (s := 0) (Nat.zero_le _)
      rw [Nat.zero_add] at h
      refine ⟨h.1.trans ?_, h.2⟩
      unfold plz; cases n <;> rfl
    rw [(z s5).1, (z s).1, (z s4).1]
    exact ⟨⟨(z s5).2, (z s).2, (z s4).2⟩, ⟨Int.le_refl _, Int.le_refl _⟩, by decide⟩
  · simp only [if_neg h0]
    obtain ⟨s0, o, h, m, hs⟩ := quo_size F h0 hb
    have k5 := sz_between F (md := 5) (by decide) (X.n != b.n) o h m s0
    have k4 := sz_between F (md := 4) (by decide) (X.n != b.n) o h m s0
    have k := sz_between F hm (X.n != b.n) o h m s0
    simp only at k5 k4 k
    rw [hs md hm, hs 5 (by decide), hs 4 (by decide), (pt_size F _ k5.2.2.2).1, (pt_size F _ k4.2.2.2).1, (pt_size F _ k.2.2.2).1]
    exact ⟨⟨(pt_size F _ k5.2.2.2).2, (pt_size F _ k.2.2.2).2, (pt_size F _ k4.2.2.2).2⟩, ⟨k.1, k.2.1⟩, k.2.2.1⟩
theorem steps_one {a b : Int} (h1 : a ≤ b) (h2 : b ≤ a + 1) : stepsI a b ≤ 1 := by
  unfold stepsI
  by_cases h : a < b
  · rw [if_pos h, show b - a = 1 by omega]; decide
  · rw [if_neg h, show a - b = 0 by omega]; decide
theorem zcl_wd {F : Fm} {a b : Nat} (ha : Wd F a) (hb : Wd F b) : ¬ zcl (F.cls a) (F.cls b) = 4 := by
  have h1 := ha.2
  have h2 := hb.2
  unfold zcl
  split
  · decide
  · rw [if_neg (by rintro (h | h); exact h1 h; exact h2 h)]
    split <;> decide
theorem ia34_0 (b : Nat) (k : IntKind) : iaddrAV 3 4 (.ptr b 0) (.int k 0) = some (.ptr b 0) := rfl
theorem ia34_1 (b : Nat) (k : IntKind) : iaddrAV 3 4 (.ptr b 0) (.int k 1) = some (.ptr b 4) := rfl
theorem ia34_2 (b : Nat) (k : IntKind) : iaddrAV 3 4 (.ptr b 0) (.int k 2) = some (.ptr b 8) := rfl
theorem xb_loop (e : Env) (h : Heap) : evL G T c_law12_ExactBetween_l1 e h = kS G T (evL G T c_law12_ExactBetween_b1 (keepE [0, 4, 7, 8, 11, 46, 47, 48] e) h) c_law12_ExactBetween_l1 := s_loopc G T rfl e h
structure Btw (F : Fm) (x y z : Nat) : Prop where
  w : Wd F x ∧ Wd F y ∧ Wd F z
  b : pl F x ≤ pl F y ∧ pl F y ≤ pl F z
  s : pl F z ≤ pl F x + 1
theorem tw_btw (F : Fm) {md : Int} (hm : 1 ≤ md ∧ md ≤ 5) (x y : Dy × Bool) {b : Dy} (hb : b.m ≠ 0) : Btw F (tw F 5 x y b).1 (tw F md x y b).1 (tw F 4 x y b).1 := by
  have h := part_between F hm (X := addD x.1 y.1) hb (zsg 5 x y) (zsg md x y) (zsg 4 x y)
  exact ⟨h.1, h.2.1, h.2.2⟩
set_option maxHeartbeats 16000000 in
theorem law12_btw (J : Al G T g) (hK : run G T 255 [] = some (.bool true))
    (F : Fm) {md : Int} {a b c d : Nat} (ha : a < 2 * F.sg) (hb : b < 2 * F.sg) (hc : c < 2 * F.sg) (hd : d < 2 * F.sg) (o1 : run G T 253 [.int .u8 F.u, .int .u8 md, im2 a b c d] = some (.int .i64 0)) (fz : F.fin a ∧ F.fin b) (fw : F.fin c ∧ F.fin d) {dv : Bool} (hdv : dv = true → ¬ zcl (F.cls c) (F.cls d) = 1)
    {p5 p p4 q5 q q4 : Nat × Nat} (b1 : Btw F p5.1 p.1 p4.1) (b2 : Btw F q5.1 q.1 q4.1)
    (m5 : ∃ x y, run G T 252 [.int .u8 F.u, .int .u8 5, zA a b, zA c d] = some (.tup [zrA x y, .int .i64 0]) ∧ (dv = false → x = p5 ∧ y = q5))
    (m : ∃ x y, run G T 252 [.int .u8 F.u, .int .u8 md, zA a b, zA c d] = some (.tup [zrA x y, .int .i64 0]) ∧ (dv = false → x = p ∧ y = q))
    (m4 : ∃ x y, run G T 252 [.int .u8 F.u, .int .u8 4, zA a b, zA c d] = some (.tup [zrA x y, .int .i64 0]) ∧ (dv = false → x = p4 ∧ y = q4))
    (d5 : dv = true → run G T 257 [.int .u8 F.u, .int .u8 5, zA a b, zA c d] = some (.tup [zrA p5 q5, .int .i64 0]))
    (dd : dv = true → run G T 257 [.int .u8 F.u, .int .u8 md, zA a b, zA c d] = some (.tup [zrA p q, .int .i64 0]))
    (d4 : dv = true → run G T 257 [.int .u8 F.u, .int .u8 4, zA a b, zA c d] = some (.tup [zrA p4 q4, .int .i64 0])) :
    run G T 244 [.int .u8 F.u, .int .u8 md, zA a b, zA c d, .bool dv] = some (.bool true) := by
  rw [run_k G T J.J.law12_ExactBetween]
  have f1 := ref10_Finite J F ha hb
  have f2 := ref10_Finite J F hc hd
  rw [decide_eq_true fz] at f1
  rw [decide_eq_true fw] at f2
  have c1 := ref10_Class J F hc hd
  have k5 := ref10_Class J F b1.w.1.1 b2.w.1.1
  have k := ref10_Class J F b1.w.2.1.1 b2.w.2.1.1
  have k4 := ref10_Class J F b1.w.2.2.1 b2.w.2.2.1
  have n5 := zcl_wd b1.w.1 b2.w.1
  have n := zcl_wd b1.w.2.1 b2.w.2.1
  have n4 := zcl_wd b1.w.2.2 b2.w.2.2
  have t1 := law12_between J F b1.w.1.1 b1.w.2.1.1 b1.w.2.2.1 b1.w.1.2 b1.w.2.1.2 b1.w.2.2.2 b1.b
  have t2 := law12_between J F b2.w.1.1 b2.w.2.1.1 b2.w.2.2.1 b2.w.1.2 b2.w.2.1.2 b2.w.2.2.2 b2.b
  have s1 := ref07_Steps J F b1.w.1.1 b1.w.2.2.1
  have s2 := ref07_Steps J F b2.w.1.1 b2.w.2.2.1
  have l1 := steps_one (Int.le_trans b1.b.1 b1.b.2) b1.s
  have l2 := steps_one (Int.le_trans b2.b.1 b2.b.2) b2.s
  obtain ⟨x5, y5, m5, e5⟩ := m5
  obtain ⟨x, y, m, e⟩ := m
  obtain ⟨x4, y4, m4, e4⟩ := m4
  generalize stepsI (pl F p5.1) (pl F p4.1) = v1 at *
  generalize stepsI (pl F q5.1) (pl F q4.1) = v2 at *
  generalize zcl (F.cls p5.1) (F.cls q5.1) = z5 at *
  generalize zcl (F.cls p.1) (F.cls q.1) = z at *
  generalize zcl (F.cls p4.1) (F.cls q4.1) = z4 at *
  generalize zcl (F.cls c) (F.cls d) = zw at *
  clear b1 b2 fz fw
  cases dv
  · obtain ⟨rfl, rfl⟩ := e5 rfl
    obtain ⟨rfl, rfl⟩ := e rfl
    obtain ⟨rfl, rfl⟩ := e4 rfl
    clear e5 e e4 d5 dd d4 hdv
    simp only [zA, zrA, im2] at *
    repeat' (first | (simp (maxSteps := 9^7) only [seval, exC, c_law12_ExactBetween, c_law12_ExactBetween_b1, xb_loop, st_bs2, st_bslice3, repA_2, repA_3, ia34_0, ia34_1, ia34_2, o1, f1, f2, c1, m5, m, m4, k5, k, k4, n5, n, n4, t1, t2, s1, s2, l1, l2, wr_1, wr1, wr_2, wr2, wr_3, wr3, hK]) | (simp (maxSteps := 9^7) (disch := first | with_reducible assumption | omega) only [dxB]) | (simp only [kdB]; split) | (simp only [kvB]; split))
  · have d5 := d5 rfl
    have dd := dd rfl
    have d4 := d4 rfl
    have hdv := hdv rfl
    clear e5 e e4
    simp only [zA, zrA, im2] at *
    repeat' (first | (simp (maxSteps := 9^7) only [seval, exC, c_law12_ExactBetween, c_law12_ExactBetween_b1, xb_loop, st_bs2, st_bslice3, repA_2, repA_3, ia34_0, ia34_1, ia34_2, o1, f1, f2, c1, hdv, m5, m, m4, d5, dd, d4, k5, k, k4, n5, n, n4, t1, t2, s1, s2, l1, l2, wr_1, wr1, wr_2, wr2, wr_3, wr3, hK]) | (simp (maxSteps := 9^7) (disch := first | with_reducible assumption | omega) only [dxB]) | (simp only [kdB]; split) | (simp only [kvB]; split))
theorem law12_btw_known (hK : run G T 255 [] = some (.bool true)) (J : Al G T g) (F : Fm) {md : Int} {a b c d : Nat} (ha : a < 2 * F.sg) (hb : b < 2 * F.sg) (hc : c < 2 * F.sg) (hd : d < 2 * F.sg) (o1 : run G T 253 [.int .u8 F.u, .int .u8 md, im2 a b c d] = some (.int .i64 0)) {dv : Bool}
    (h : ¬ (F.fin a ∧ F.fin b) ∨ ¬ (F.fin c ∧ F.fin d) ∨ dv = true ∧ zcl (F.cls c) (F.cls d) = 1) : run G T 244 [.int .u8 F.u, .int .u8 md, zA a b, zA c d, .bool dv] = some (.bool true) := by
  rw [run_k G T J.J.law12_ExactBetween]
  have f1 := ref10_Finite J F ha hb
  have f2 := ref10_Finite J F hc hd
  have c1 := ref10_Class J F hc hd
  generalize zcl (F.cls c) (F.cls d) = zw at *
  by_cases k1 : F.fin a ∧ F.fin b
  · rw [decide_eq_true k1] at f1
    by_cases k2 : F.fin c ∧ F.fin d
    · rw [decide_eq_true k2] at f2
      obtain ⟨rfl, rfl⟩ := (h.resolve_left (fun q => q k1)).resolve_left (fun q => q k2)
      clear h
      simp only [zA, im2] at *
      repeat' (first | (simp (maxSteps := 9^7) only [seval, exC, c_law12_ExactBetween, st_bs2, repA_2, o1, f1, f2, c1, hK]) | (simp (maxSteps := 9^7) (disch := first | with_reducible assumption | omega) only [dxB]) | (simp only [kdB]; split) | (simp only [kvB]; split))
    · rw [decide_eq_false k2] at f2
      clear h
      simp only [zA, im2] at *
      repeat' (first | (simp (maxSteps := 9^7) only [seval, exC, c_law12_ExactBetween, st_bs2, repA_2, o1, f1, f2, hK]) | (simp (maxSteps := 9^7) (disch := first | with_reducible assumption | omega) only [dxB]) | (simp only [kdB]; split) | (simp only [kvB]; split))
  · rw [decide_eq_false k1] at f1
    clear h
    simp only [zA, im2] at *
    repeat' (first | (simp (maxSteps := 9^7) only [seval, exC, c_law12_ExactBetween, st_bs2, repA_2, o1, f1, hK]) | (simp (maxSteps := 9^7) (disch := first | with_reducible assumption | omega) only [dxB]) | (simp only [kdB]; split) | (simp only [kvB]; split))
set_option maxHeartbeats 4000000 in
theorem law12_ExactBetween (J : Al G T g) (hK : run G T 255 [] = some (.bool true))
    {f m : Int} {a b c d : Nat} {dv : Bool} (ha : a < 18446744073709551616) (hb : b < 18446744073709551616) (hc : c < 18446744073709551616) (hd : d < 18446744073709551616) :
    run G T 244 [.int .u8 f, .int .u8 m, .agg [.int .u64 (a : Int), .int .u64 (b : Int)], .agg [.int .u64 (c : Int), .int .u64 (d : Int)], .bool dv] = some (.bool true) := by
  rcases xopens_s (G := G) (T := T) (f := f) (md := m) J ha hb hc hd with ⟨e, he, o1, o2⟩ | ⟨F, rfl, hm, ⟨⟨k1, k2⟩, k3, k4⟩, o1⟩
  · rw [run_k G T J.J.law12_ExactBetween]
    simp only [im2] at *
    repeat' (first | (simp (maxSteps := 9^7) only [seval, exC, c_law12_ExactBetween, st_bs2, repA_2, o1, he, hK]) | (simp (maxSteps := 9^7) (disch := first | with_reducible assumption | omega) only [dxB]) | (simp only [kdB]; split) | (simp only [kvB]; split))
  · show run G T 244 [.int .u8 F.u, .int .u8 m, zA a b, zA c d, .bool dv] = some (.bool true)
    by_cases h : ¬ (F.fin a ∧ F.fin b) ∨ ¬ (F.fin c ∧ F.fin d) ∨ dv = true ∧ zcl (F.cls c) (F.cls d) = 1
    · exact law12_btw_known hK J F k1 k2 k3 k4 o1 h
    · have fz : F.fin a ∧ F.fin b := Classical.not_not.1 (fun q => h (Or.inl q))
      have fw : F.fin c ∧ F.fin d := Classical.not_not.1 (fun q => h (Or.inr (Or.inl q)))
      have z1 := (zcl_fin2 F).1 fz
      have z2 := (zcl_fin2 F).1 fw
      have hs : smS F a b c d = false := by unfold smS; rw [decide_eq_true ⟨z1, z2⟩]; rfl
      have M := fun {n : Int} (hn : 1 ≤ n ∧ n ≤ 5) => exact_Mul J F hn k1 k2 k3 k4
      have Dv := fun {n : Int} (hn : 1 ≤ n ∧ n ≤ 5) => exact_Div J F hn k1 k2 k3 k4
      cases dv
      · have e : ∀ n, mulZ F n a b c d = mulR F n a b c d := fun n => by unfold mulZ; rw [hs]; rfl
        refine law12_btw J hK F k1 k2 k3 k4 o1 fz fw (fun q => by cases q) (tw_btw F hm (tm F a c false) (tm F b d true) (b := oneD) (by decide)) (tw_btw F hm (tm F a d false) (tm F b c false) (b := oneD) (by decide)) ⟨_, _, M (by decide), fun _ => ?_⟩ ⟨_, _, M hm, fun _ => ?_⟩ ⟨_, _, M (by decide), fun _ => ?_⟩ (fun q => by cases q) (fun q => by cases q) (fun q => by cases q)
        all_goals (rw [e]; exact ⟨rfl, rfl⟩)
      · have nz : ¬ zcl (F.cls c) (F.cls d) = 1 := fun q => h (Or.inr (Or.inr ⟨rfl, q⟩))
        have z3 : zcl (F.cls c) (F.cls d) = 2 := by have := zcl_range F c d; omega
        have hq := sq_m0 F k3 k4 z3
        have ht : sdS F a b c d = false := by unfold sdS; rw [decide_eq_true ⟨z1, z3⟩]; rfl
        have e : ∀ n, divZ F n a b c d = divR F n a b c d := fun n => by unfold divZ; rw [ht]; rfl
        have r : ∀ {n : Int}, (1 ≤ n ∧ n ≤ 5) → run G T 257 [.int .u8 F.u, .int .u8 n, zA a b, zA c d] = some (.tup [zrA (divR F n a b c d).1 (divR F n a b c d).2, .int .i64 0]) := fun {n} hn => by rw [← e]; exact Dv hn
        exact law12_btw J hK F k1 k2 k3 k4 o1 fz fw (fun _ => nz) (tw_btw F hm (tm F a c false) (tm F b d false) hq) (tw_btw F hm (tm F b c false) (tm F a d true) hq) ⟨_, _, M (by decide), fun q => by cases q⟩ ⟨_, _, M hm, fun q => by cases q⟩ ⟨_, _, M (by decide), fun q => by cases q⟩ (fun _ => r (by decide)) (fun _ => r hm) (fun _ => r (by decide))
theorem iv_eq0 {d : Dy} {L : Int} (hz : Nz d) (hl : LoE d L) (h : iv d L = 0) : d.m = 0 := by
  have := nz_eq hz (b := ⟨false, 0, 0⟩) ⟨fun _ => rfl, fun h => absurd rfl h⟩ hl (Or.inl rfl) (by rw [h, iv_zero rfl])
  rw [this]
theorem quo_exact (F : Fm) (md : Int) {X d b : Dy} (nX : Nz X) (nd : Nz d) (nb : Nz b) (d0 : d.m ≠ 0) (b0 : b.m ≠ 0) {K L : Int} (lX : LoE X (K + L)) (ld : LoE d K) (lb : LoE b L) (h : iv X (K + L) = iv d K * iv b L) : quoW F md X b = rndW F md d := by
  obtain ⟨m1, m2⟩ := iv_mul ld lb
  have e : X = mulD d b := nz_eq nX (Nz_mul d b) lX m2 (by rw [h, m1])
  rw [e]
  obtain ⟨n, m, x⟩ := d
  obtain ⟨n', m', x'⟩ := b
  exact quo_prod F md (nd.2 d0) (nb.2 b0)
theorem vl_round (F : Fm) (md : Int) {w : Nat} (hw : w < 2 * F.sg) (hf : F.fin w) (h0 : (F.vl w).m ≠ 0) : rndW F md (F.vl w) = (w, 0) := by
  have h5 : F.cls w ≠ 5 := by have := fin_iff.1 hf; omega
  have h1 := (w_mod F hw h5).2.1 hf
  have e := pl_eq F hw
  have n0 : w % F.sg ≠ 0 := fun q => by
    rw [q, Nat.zero_add] at e
    apply h0
    rw [e, (sgn_facts F _).2.2.2]
  have := (round_val F md (F.ng w) h1 n0).1
  rw [← e] at this
  rw [vl_val hf]; exact this
theorem mulD_one {d : Dy} (h : Nz d) : mulD d oneD = d := by
  by_cases h0 : d.m = 0
  · rw [mulD_z0 (Or.inl h0), h.1 h0]
  · unfold mulD oneD
    obtain ⟨n, m, e⟩ := d
    simp only [Bool.bne_false, Nat.mul_one, Int.add_zero]
    exact mkD_odd (h.2 h0)
theorem LoE_one : LoE oneD 0 := Or.inr (Int.le_refl _)
theorem iv_one : iv oneD 0 = 1 := rfl
theorem quo_flag0 (F : Fm) {md : Int} {a b : Dy} (na : Nz a) (h0 : a.m ≠ 0) (h1 : b.m ≠ 0) (hf : (quoW F md a b).2 = 0) : F.fin (quoW F md a b).1 ∧ (quoW F md a b).1 < 2 * F.sg ∧ a = mulD (F.vl (quoW F md a b).1) b := by
  obtain ⟨K, N, kk, u, f1, f2, f3, f4, _, _, _, f5⟩ := quo_core F h0 h1 (Or.inl hf)
  have f5 := f5 hf
  refine ⟨f1, f2, ?_⟩
  rw [vl_val f1, f3]
  have lb : LoE b b.e := Or.inr (Int.le_refl _)
  have lv : LoE (mkD (a.n != b.n) K u) (u - kk) := LoE_mk (by omega)
  obtain ⟨m1, m2⟩ := iv_mul lv lb
  have la : LoE a (u - kk + b.e) := Or.inr (by omega)
  refine nz_eq na (Nz_mul _ _) la m2 ?_
  rw [m1, iv_mk (by omega)]
  unfold iv
  rw [show (a.e - (u - kk + b.e)).toNat = N by omega, show (u - (u - (kk : Int))).toNat = kk by omega, show (b.e - b.e).toNat = 0 by omega, Nat.pow_zero, Nat.mul_one, f5]
  have e : K * b.m * 2 ^ kk = K * 2 ^ kk * b.m := by rw [Nat.mul_right_comm]
  rw [e, Int.natCast_mul (K * 2 ^ kk)]
  generalize ((K * 2 ^ kk : Nat) : Int) = x
  generalize (b.m : Int) = y
  cases a.n <;> cases b.n <;> simp [Int.neg_mul, Int.mul_neg]
theorem upB_sym {md : Int} (h : md = 1 ∨ md = 2 ∨ md = 3) (n o x y : Bool) : upB md n o x y = upB md false o x y := by
  rcases h with rfl | rfl | rfl <;> simp [upB]
theorem ovs_sym {F : Fm} {md : Int} (h : md = 1 ∨ md = 2 ∨ md = 3) (n : Bool) : ovs F md n = ovs F md false := by
  rcases h with rfl | rfl | rfl <;> simp [ovs]
theorem sW_sym (F : Fm) {md : Int} (h : md = 1 ∨ md = 2 ∨ md = 3) (Q : Nat) (more : Bool) (E : Int) (n : Bool) : sW F md n Q more E = ((sW F md false Q more E).1 + F.sgn n, (sW F md false Q more E).2) := by
  have hr : ∀ n M s k, rdN md n M s k = rdN md false M s k := fun n M s k => by unfold rdN; rw [upB_sym h n]
  have s0 : F.sgn false = 0 := rfl
  unfold sW wordOf
  simp only [hr n]
  by_cases hw : F.wide < blen (rdN md false Q more (F.eOf (E + blen Q) - E).toNat).1 + F.eOf (E + blen Q)
  · simp only [if_pos hw]; rw [ovr_eq, ovr_eq, ovs_sym h n, s0]; rfl
  · simp only [if_neg hw]; rw [s0]; rfl
theorem quo_turn (F : Fm) {md : Int} (h : md = 1 ∨ md = 2 ∨ md = 3) {a b : Dy} (h0 : a.m ≠ 0) (h1 : b.m ≠ 0) : quoW F md (negD a) b = (F.flip (quoW F md a b).1, (quoW F md a b).2) := by
  have hi := fm_i0 F
  obtain ⟨z, fl, hz⟩ : ∃ z fl, ∀ n, sW F md n (a.m * 2 ^ quoN 64 a.m b.m / b.m) (!decide (a.m * 2 ^ quoN 64 a.m b.m % b.m = 0)) (a.e - b.e - (quoN 64 a.m b.m : Nat)) = (z + F.sgn n, fl) := ⟨_, _, sW_sym F h (a.m * 2 ^ quoN 64 a.m b.m / b.m) (!decide (a.m * 2 ^ quoN 64 a.m b.m % b.m = 0)) (a.e - b.e - (quoN 64 a.m b.m : Nat))⟩
  obtain ⟨s0, o, x, y, hs⟩ := quo_size F h0 h1
  have e1 := hs md (by omega)
  have k := (sz_between F (md := md) (by omega) (a.n != b.n) o x y s0).2.2.2
  have e2 : quoW F md a b = (z + F.sgn (a.n != b.n), fl) := hz _
  have e3 : quoW F md (negD a) b = (z + F.sgn ((!a.n) != b.n), fl) := by
    unfold negD; rw [if_neg h0]; exact hz _
  rw [e2] at e1
  simp only at e1 k
  have hz0 : z ≤ F.i0 := by omega
  obtain ⟨q1, q2⟩ := sgn_mod (F := F) (s := z) (a.n != b.n) (by omega)
  rw [e3, e2]
  unfold Fm.flip
  simp only
  rw [q1, q2]
  all_goals (cases a.n <;> cases b.n <;> rfl)
theorem mulD_comm (a b : Dy) : mulD a b = mulD b a := by
  unfold mulD
  rw [Nat.mul_comm, Int.add_comm, show (a.n != b.n) = (b.n != a.n) by cases a.n <;> cases b.n <;> rfl]
theorem tm_comm (F : Fm) (a b : Nat) (s : Bool) : tm F a b s = tm F b a s := by
  unfold tm
  rw [mulD_comm, show (F.ng a != F.ng b) = (F.ng b != F.ng a) by cases F.ng a <;> cases F.ng b <;> rfl]
theorem tm_iv (F : Fm) {a b : Nat} {L : Int} (la : LoE (F.vl a) L) (lb : LoE (F.vl b) L) (s : Bool) : LoE (tm F a b s).1 (L + L) ∧ iv (tm F a b s).1 (L + L) = if s then -(iv (F.vl a) L * iv (F.vl b) L) else iv (F.vl a) L * iv (F.vl b) L := by
  obtain ⟨m1, m2⟩ := iv_mul la lb
  unfold tm
  cases s
  · exact ⟨m2, m1⟩
  · exact ⟨LoE_neg m2, by simp only [if_true]; rw [iv_neg, m1]⟩
theorem pt_wd (F : Fm) {md : Int} (hm : 1 ≤ md ∧ md ≤ 5) (X : Dy) (s : Bool) {b : Dy} (hb : b.m ≠ 0) : Wd F (ptQ F md X s b).1 := (part_between F hm (X := X) hb s s s).1.2.1
theorem pt_flag0 (F : Fm) {md : Int} (hm : 1 ≤ md ∧ md ≤ 5) {X : Dy} {s : Bool} (nX : Nz X) (h : (ptQ F md X s oneD).2 = 0) : F.fin (ptQ F md X s oneD).1 ∧ F.vl (ptQ F md X s oneD).1 = X := by
  unfold ptQ at h ⊢
  by_cases h0 : X.m = 0
  · simp only [if_pos h0]
    obtain ⟨_, _, q3, q4⟩ := sgn_facts F s
    exact ⟨fin_iff.2 (Or.inl q3), by rw [q4, nX.1 h0]⟩
  · rw [if_neg h0] at h
    simp only [if_neg h0]
    obtain ⟨f1, _, f3⟩ := quo_flag0 F nX h0 (show oneD.m ≠ 0 by decide) h
    exact ⟨f1, by rw [mulD_one (Nz_vl F _)] at f3; exact f3.symm⟩
theorem pt_exact (F : Fm) {md : Int} (hm : 1 ≤ md ∧ md ≤ 5) {w : Nat} (hw : w < 2 * F.sg) (hf : F.fin w) {X b : Dy} (nX : Nz X) (nb : Nz b) (hb : b.m ≠ 0) {K L : Int} (lX : LoE X (K + L)) (ld : LoE (F.vl w) K) (lb : LoE b L) (h : iv X (K + L) = iv (F.vl w) K * iv b L) (s : Bool) : (ptQ F md X s b).2 = 0 ∧ Near F (ptQ F md X s b).1 w := by
  unfold ptQ
  by_cases h0 : (F.vl w).m = 0
  · have hX : X.m = 0 := iv_eq0 nX lX (by rw [h, iv_zero h0, Int.zero_mul])
    simp only [if_pos hX]
    exact ⟨trivial, Or.inr ⟨(sgn_facts F s).2.2.1, (cls_val1 hw hf).2 h0⟩⟩
  · have hX : X.m ≠ 0 := fun q => by
      rw [iv_zero q] at h
      rcases Int.mul_eq_zero.1 h.symm with k | k
      · exact h0 (iv_eq0 (Nz_vl F w) ld k)
      · exact hb (iv_eq0 nb lb k)
    simp only [if_neg hX]
    rw [quo_exact F md nX (Nz_vl F w) nb h0 hb lX ld lb h, vl_round F md hw hf h0]
    exact ⟨rfl, Or.inl rfl⟩
theorem back (F : Fm) {md : Int} (hm : 1 ≤ md ∧ md ≤ 5) {a b c d : Nat} (ha : a < 2 * F.sg) (hb : b < 2 * F.sg) (hc : c < 2 * F.sg) (hd : d < 2 * F.sg) (fa : F.fin a) (fb : F.fin b) (hz : zcl (F.cls c) (F.cls d) = 2) (e1 : (mulR F md a b c d).1.2 = 0) (e2 : (mulR F md a b c d).2.2 = 0) :
    (F.fin (mulR F md a b c d).1.1 ∧ F.fin (mulR F md a b c d).2.1) ∧
    ((divR F md (mulR F md a b c d).1.1 (mulR F md a b c d).2.1 c d).1.2 = 0 ∧ Near F (divR F md (mulR F md a b c d).1.1 (mulR F md a b c d).2.1 c d).1.1 a) ∧
    ((divR F md (mulR F md a b c d).1.1 (mulR F md a b c d).2.1 c d).2.2 = 0 ∧ Near F (divR F md (mulR F md a b c d).1.1 (mulR F md a b c d).2.1 c d).2.1 b) := by
  obtain ⟨fc, fd⟩ := (zcl_fin2 F (a := c) (b := d)).2 (by omega)
  have hq := sq_m0 F hc hd hz
  obtain ⟨p1, v1⟩ := pt_flag0 F hm (Nz_add (Bd_tm F a c false).2 (Bd_tm F b d true).2) e1
  obtain ⟨p2, v2⟩ := pt_flag0 F hm (Nz_add (Bd_tm F a d false).2 (Bd_tm F b c false).2) e2
  have la := LoE_vl fa
  have lb := LoE_vl fb
  have lc := LoE_vl fc
  have ld := LoE_vl fd
  generalize F.low = L at *
  obtain ⟨x1, y1⟩ := tm_iv F la lc false
  obtain ⟨x2, y2⟩ := tm_iv F lb ld true
  obtain ⟨x3, y3⟩ := tm_iv F la ld false
  obtain ⟨x4, y4⟩ := tm_iv F lb lc false
  obtain ⟨i1, l1⟩ := iv_add x1 x2
  obtain ⟨i2, l2⟩ := iv_add x3 x4
  rw [y1, y2] at i1
  rw [y3, y4] at i2
  simp only [Bool.false_eq_true, if_false, if_true] at i1 i2
  have sq := iv_sq F lc ld
  have lsq : LoE (sqD F c d) (L + L) := (iv_add (iv_mul lc lc).2 (iv_mul ld ld).2).2
  rw [show 2 * L = L + L by omega] at sq
  have P : ∀ {p w : Nat} {X : Dy} {s : Bool}, F.vl p = X → LoE X (L + L) → LoE (F.vl w) L → LoE (tm F p w s).1 (L + (L + L)) ∧ iv (tm F p w s).1 (L + (L + L)) = if s then -(iv X (L + L) * iv (F.vl w) L) else iv X (L + L) * iv (F.vl w) L := fun {p w X s} hp lX lw => by
    obtain ⟨m1, m2⟩ := iv_mul lX lw
    rw [show L + L + L = L + (L + L) by omega] at m1 m2
    unfold tm
    rw [hp]
    cases s
    · exact ⟨m2, m1⟩
    · exact ⟨LoE_neg m2, by simp only [if_true]; rw [iv_neg, m1]⟩
  refine ⟨⟨p1, p2⟩, ?_, ?_⟩
  · obtain ⟨q1, r1⟩ := P (s := false) v1 l1 lc
    obtain ⟨q2, r2⟩ := P (s := false) v2 l2 ld
    obtain ⟨i3, l3⟩ := iv_add q1 q2
    refine pt_exact F hm ha fa (Nz_add (Bd_tm F _ _ _).2 (Bd_tm F _ _ _).2) (Nz_sq F c d) hq l3 la lsq ?_ _
    rw [i3, r1, r2, i1, i2, sq]
    simp only [Bool.false_eq_true, if_false]
    generalize iv (F.vl a) L = x
    generalize iv (F.vl b) L = y
    generalize iv (F.vl c) L = z
    generalize iv (F.vl d) L = w
    grind
  · obtain ⟨q1, r1⟩ := P (s := false) v2 l2 lc
    obtain ⟨q2, r2⟩ := P (s := true) v1 l1 ld
    obtain ⟨i3, l3⟩ := iv_add q1 q2
    refine pt_exact F hm hb fb (Nz_add (Bd_tm F _ _ _).2 (Bd_tm F _ _ _).2) (Nz_sq F c d) hq l3 lb lsq ?_ _
    rw [i3, r1, r2, i1, i2, sq]
    simp only [Bool.false_eq_true, if_false, if_true]
    generalize iv (F.vl a) L = x
    generalize iv (F.vl b) L = y
    generalize iv (F.vl c) L = z
    generalize iv (F.vl d) L = w
    grind
theorem sP_comm (md : Int) {p q : Int × Bool} (hp : SdC p) (hq : SdC q) : sP md p q = sP md q p := by
  rcases hp with rfl | rfl | rfl | rfl <;> rcases hq with rfl | rfl | rfl | rfl <;> simp [sP]
theorem sT_comm (p q : Int × Bool) : sT p q = sT q p := by
  unfold sT; rw [Int.mul_comm, show (p.2 != q.2) = (q.2 != p.2) by cases p.2 <;> cases q.2 <;> rfl]
theorem smW_comm (F : Fm) (md : Int) (a b c d : Nat) : smW F md c d a b = smW F md a b c d := by
  have hs : smP F md c d a b = smP F md a b c d := by
    unfold smP bxT
    rw [sT_comm (bx F c d).1 (bx F a b).1, sT_comm (bx F c d).2 (bx F a b).2, sT_comm (bx F c d).1 (bx F a b).2, sT_comm (bx F c d).2 (bx F a b).1,
      sP_comm md (sT_c (bx_c F a b).2 (bx_c F c d).1) (sT_c (bx_c F a b).1 (bx_c F c d).2)]
  unfold smW
  rw [hs]
  simp only [And.comm, Or.comm]
theorem mulZ_comm (F : Fm) (md : Int) (a b c d : Nat) : mulZ F md c d a b = mulZ F md a b c d := by
  have h1 : smS F c d a b = smS F a b c d := by unfold smS; simp only [And.comm]
  have h2 : mulR F md c d a b = mulR F md a b c d := by
    unfold mulR
    rw [tm_comm F c a, tm_comm F d b, tm_comm F c b, tm_comm F d a, tw_comm F md (Bd_tm F b c false).2 (Bd_tm F a d false).2]
  unfold mulZ
  rw [h1, h2, smW_comm]
theorem flip_Near (F : Fm) {a b : Nat} (h : F.cls a = 1) (hb : F.cls b = 1) (lb : b < 2 * F.sg) : Near F a (F.flip b) := Or.inr ⟨h, by rw [(flip_facts lb).2.2.1]; exact hb⟩
theorem pt_turn (F : Fm) {md : Int} (h : md = 1 ∨ md = 2 ∨ md = 3) (X : Dy) (s t : Bool) {b : Dy} (hb : b.m ≠ 0) : (ptQ F md (negD X) s b).2 = (ptQ F md X t b).2 ∧ Near F (ptQ F md (negD X) s b).1 (F.flip (ptQ F md X t b).1) := by
  unfold ptQ
  by_cases h0 : X.m = 0
  · have h1 : (negD X).m = 0 := by unfold negD; rw [if_pos h0]; exact h0
    simp only [if_pos h0, if_pos h1]
    exact ⟨trivial, flip_Near F (sgn_facts F s).2.2.1 (sgn_facts F t).2.2.1 (sgn_facts F t).1⟩
  · have h1 : ¬ (negD X).m = 0 := by unfold negD; rw [if_neg h0]; exact h0
    simp only [if_neg h0, if_neg h1]
    rw [quo_turn F h h0 hb]
    exact ⟨rfl, Or.inl rfl⟩
theorem pt_same (F : Fm) (md : Int) (X : Dy) (s t : Bool) (b : Dy) : (ptQ F md X s b).2 = (ptQ F md X t b).2 ∧ Near F (ptQ F md X s b).1 (ptQ F md X t b).1 := by
  unfold ptQ
  by_cases h0 : X.m = 0
  · simp only [if_pos h0]
    exact ⟨trivial, Or.inr ⟨(sgn_facts F s).2.2.1, (sgn_facts F t).2.2.1⟩⟩
  · simp only [if_neg h0]
    exact ⟨trivial, Or.inl rfl⟩
theorem negD_add {a b : Dy} (ha : Nz a) (hb : Nz b) : addD (negD a) (negD b) = negD (addD a b) := by
  obtain ⟨L, l1, l2⟩ : ∃ L : Int, LoE a L ∧ LoE b L := ⟨min a.e b.e, Or.inr (by omega), Or.inr (by omega)⟩
  obtain ⟨i1, m1⟩ := iv_add (LoE_neg l1) (LoE_neg l2)
  obtain ⟨i2, m2⟩ := iv_add l1 l2
  refine nz_eq (Nz_add (Nz_neg ha) (Nz_neg hb)) (Nz_neg (Nz_add ha hb)) m1 (LoE_neg m2) ?_
  rw [i1, iv_neg, iv_neg, iv_neg, i2]; omega
theorem tm_flip (F : Fm) {b c : Nat} (hb : b < 2 * F.sg) (s : Bool) : (tm F (F.flip b) c s).1 = negD (tm F b c s).1 := by
  unfold tm
  rw [(flip_facts hb).2.2.2, mulD_comm (negD _), mulD_neg, mulD_comm (F.vl c)]
  cases s <;> rfl
theorem tm_true (F : Fm) (a b : Nat) : (tm F a b true).1 = negD (tm F a b false).1 := rfl
theorem turned (F : Fm) {md : Int} (h : md = 1 ∨ md = 2 ∨ md = 3) {a b c d : Nat} (hb : b < 2 * F.sg) :
    ((mulR F md (F.flip b) a c d).1.2 = (mulR F md a b c d).2.2 ∧ Near F (mulR F md (F.flip b) a c d).1.1 (F.flip (mulR F md a b c d).2.1)) ∧
    ((mulR F md (F.flip b) a c d).2.2 = (mulR F md a b c d).1.2 ∧ Near F (mulR F md (F.flip b) a c d).2.1 (mulR F md a b c d).1.1) := by
  unfold mulR tw
  simp only
  rw [tm_flip F hb, tm_flip F hb, tm_true F a d, tm_true F b d]
  have n1 := (Bd_tm F b c false).2
  have n2 := (Bd_tm F a d false).2
  rw [negD_add n1 n2, addD_comm n1 n2, addD_comm (Nz_neg (Bd_tm F b d false).2) (Bd_tm F a c false).2]
  exact ⟨pt_turn F h _ _ _ (show oneD.m ≠ 0 by decide), pt_same F md _ _ _ _⟩
theorem ref10_Turn1 (J : Al G T g) (F : Fm) {a b : Nat} (ha : a < 2 * F.sg) (hb : b < 2 * F.sg) (na : F.cls a ≠ 5) (nb : F.cls b ≠ 5) :
    run G T 170 [.int .u8 F.u, zA a b, .int .i64 1] = some (zA (F.flip b) a) := by
  have c0 := ref10_Canon J F ha hb
  have m1 := ref10_Minus J F hb
  rw [show F.can a = a by unfold Fm.can; rw [if_neg na], show F.can b = b by unfold Fm.can; rw [if_neg nb]] at c0
  rw [show F.min b = F.flip b by unfold Fm.min; rw [if_neg nb]] at m1
  rw [run_k G T J.U.ref10_Turn]
  generalize F.flip b = fb at *
  have hre : (1 : Int).tmod 4 = 1 := rfl
  have w1 : IntKind.i64.wrap (1 + 4) = 5 := rfl
  have w2 : (5 : Int).tmod 4 = 1 := rfl
  have u1 : IntKind.i64.wrap (1 - 1) = 0 := rfl
  have u4 : IntKind.i64.wrap 0 = 0 := rfl
  have u5 : IntKind.i64.wrap 5 = 5 := rfl
  simp only [zA] at *
  repeat' (first | (simp (maxSteps := 9^7) only [seval, exC, c_ref10_Turn, c0, hre, w1, w2, tn_loop, c_ref10_Turn_b1, m1, u1, u4, u5]) | (simp (maxSteps := 9^7) (disch := first | with_reducible assumption | omega) only [dxB]) | (simp only [kdB]; split) | (simp only [kvB]; split))
set_option maxHeartbeats 16000000 in
theorem law12_ExactCommutes (J : Al G T g) (hK : run G T 255 [] = some (.bool true))
    {f m : Int} {a b c d : Nat} (ha : a < 18446744073709551616) (hb : b < 18446744073709551616) (hc : c < 18446744073709551616) (hd : d < 18446744073709551616) :
    run G T 246 [.int .u8 f, .int .u8 m, .agg [.int .u64 (a : Int), .int .u64 (b : Int)], .agg [.int .u64 (c : Int), .int .u64 (d : Int)]] = some (.bool true) := by
  rw [run_k G T J.J.law12_ExactCommutes]
  rcases xopens_s (G := G) (T := T) (f := f) (md := m) J ha hb hc hd with ⟨e, he, o1, o2⟩ | ⟨F, rfl, hm, ⟨⟨k1, k2⟩, k3, k4⟩, o1⟩
  · simp only [im2] at *
    repeat' (first | (simp (maxSteps := 9^7) only [seval, exC, c_law12_ExactCommutes, st_bs2, repA_2, o1, he, hK]) | (simp (maxSteps := 9^7) (disch := first | with_reducible assumption | omega) only [dxB]) | (simp only [kdB]; split) | (simp only [kvB]; split))
  · have f1 := ref10_Finite J F k1 k2
    have f2 := ref10_Finite J F k3 k4
    have r1 := exact_Add J F hm k1 k2 k3 k4
    have r2 := exact_Add J F hm k3 k4 k1 k2
    have r3 := exact_Mul J F hm k1 k2 k3 k4
    have r4 := exact_Mul J F hm k3 k4 k1 k2
    rw [show addW F m c a = addW F m a c from addP_comm F m (Nz_vl F c) (Nz_vl F a), show addW F m d b = addW F m b d from addP_comm F m (Nz_vl F d) (Nz_vl F b)] at r2
    rw [mulZ_comm] at r4
    generalize addW F m a c = A1 at *
    generalize addW F m b d = A2 at *
    by_cases hh : m ≤ 3 ∧ (F.fin a ∧ F.fin b) ∧ F.fin c ∧ F.fin d
    · obtain ⟨hm3, fz, fw⟩ := hh
      have hm' : m = 1 ∨ m = 2 ∨ m = 3 := by omega
      rw [decide_eq_true fz] at f1
      rw [decide_eq_true fw] at f2
      have sm : ∀ {x y : Nat}, F.fin x → F.fin y → mulZ F m x y c d = mulR F m x y c d := fun {x y} fx fy => by
        unfold mulZ smS; rw [decide_eq_true ⟨(zcl_fin2 F).1 ⟨fx, fy⟩, (zcl_fin2 F).1 fw⟩]; rfl
      rw [sm fz.1 fz.2] at r3 r4
      have ff := flip_facts k2
      have r5 := exact_Mul J F hm ff.1 k1 k3 k4
      rw [sm (flip_fin k2 fz.2) fz.1] at r5
      have t1 := ref10_Turn1 J F k1 k2 (by have := fin_iff.1 fz.1; omega) (by have := fin_iff.1 fz.2; omega)
      obtain ⟨⟨q1, q2⟩, q3, q4⟩ := turned F hm' (a := a) (c := c) (d := d) k2
      have w1 : Wd F (mulR F m a b c d).1.1 := pt_wd F hm _ _ (show oneD.m ≠ 0 by decide)
      have w2 : Wd F (mulR F m a b c d).2.1 := pt_wd F hm _ _ (show oneD.m ≠ 0 by decide)
      have w3 : Wd F (mulR F m (F.flip b) a c d).1.1 := pt_wd F hm _ _ (show oneD.m ≠ 0 by decide)
      have w4 : Wd F (mulR F m (F.flip b) a c d).2.1 := pt_wd F hm _ _ (show oneD.m ≠ 0 by decide)
      have t2 := ref10_Turn1 J F w1.1 w2.1 w1.2 w2.2
      have al := law12_alike J F w3.1 w4.1 (flip_facts w2.1).1 w1.1 q2 q4
      generalize mulR F m a b c d = M at *
      generalize mulR F m (F.flip b) a c d = N at *
      generalize F.flip b = fb at *
      generalize F.flip M.2.1 = fm at *
      have q1' : (N.1.2 : Int) = (M.2.2 : Int) := by omega
      have q3' : (N.2.2 : Int) = (M.1.2 : Int) := by omega
      have hm4 : ¬ 3 < m := by omega
      clear q1 q2 q3 q4 w1 w2 w3 w4 sm ff hm' hm
      simp only [zA, zrA, im2] at *
      repeat' (first | (simp (maxSteps := 9^7) only [seval, exC, c_law12_ExactCommutes, st_bs2, repA_2, st_eqs, zr_selfn, o1, r1, r2, r3, r4, hm4, f1, f2, t1, r5, t2, al, q1', q3', hK]) | (simp (maxSteps := 9^7) (disch := first | with_reducible assumption | omega) only [dxB]) | (simp only [kdB]; split) | (simp only [kvB]; split))
    · generalize mulZ F m a b c d = M at *
      by_cases hm3 : 3 < m
      · simp only [zA, zrA, im2] at *
        repeat' (first | (simp (maxSteps := 9^7) only [seval, exC, c_law12_ExactCommutes, st_bs2, repA_2, st_eqs, zr_selfn, o1, r1, r2, r3, r4, hm3, hK]) | (simp (maxSteps := 9^7) (disch := first | with_reducible assumption | omega) only [dxB]) | (simp only [kdB]; split) | (simp only [kvB]; split))
      · by_cases fz : F.fin a ∧ F.fin b
        · have fw : ¬ (F.fin c ∧ F.fin d) := fun q => hh ⟨by omega, fz, q⟩
          rw [decide_eq_true fz] at f1
          rw [decide_eq_false fw] at f2
          simp only [zA, zrA, im2] at *
          repeat' (first | (simp (maxSteps := 9^7) only [seval, exC, c_law12_ExactCommutes, st_bs2, repA_2, st_eqs, zr_selfn, o1, r1, r2, r3, r4, hm3, f1, f2, hK]) | (simp (maxSteps := 9^7) (disch := first | with_reducible assumption | omega) only [dxB]) | (simp only [kdB]; split) | (simp only [kvB]; split))
        · rw [decide_eq_false fz] at f1
          simp only [zA, zrA, im2] at *
          repeat' (first | (simp (maxSteps := 9^7) only [seval, exC, c_law12_ExactCommutes, st_bs2, repA_2, st_eqs, zr_selfn, o1, r1, r2, r3, r4, hm3, f1, hK]) | (simp (maxSteps := 9^7) (disch := first | with_reducible assumption | omega) only [dxB]) | (simp only [kdB]; split) | (simp only [kvB]; split))
end Go.Cv
