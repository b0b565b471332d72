/-
  A part of the proof of the statements of this seat (texts that the law's own text leans on): no condition.
-/
import Derived.Test.YtabmkppfiklbaaaGreatDoorM16
set_option linter.unusedVariables false
set_option linter.unusedSimpArgs false
namespace Go.Cv
variable {G : Nat → Option (List AV)} {T : Tbl} {g : Nat}
def intD (n : Int) : Dy := mkD (decide (n < 0)) n.natAbs 0
theorem iv_int (n : Int) : iv (intD n) 0 = n ∧ LoE (intD n) 0 := by
  refine ⟨?_, LoE_mk (Int.le_refl _)⟩
  unfold intD
  rw [iv_mk (Int.le_refl _), show (0 - 0 : Int).toNat = 0 from rfl, Nat.pow_zero, Nat.mul_one]
  by_cases h : n < 0
  · rw [decide_eq_true h]; simp; omega
  · rw [decide_eq_false h]; simp; omega
theorem wrap_neg {n : Int} (h : -9223372036854775808 ≤ n) (h0 : n < 0) : (0 - n % 18446744073709551616) % 18446744073709551616 = (n.natAbs : Int) := by omega
theorem wrap_pos {n : Int} (h : n ≤ 9223372036854775807) (h0 : ¬ n < 0) : n % 18446744073709551616 = (n.natAbs : Int) := by omega
theorem ref02_Int (J : Al G T g) {n : Int} (h1 : -9223372036854775808 ≤ n) (h2 : n ≤ 9223372036854775807) : ∃ z, run G T 20 [.int .i64 n] = some (DyA z (intD n)) := by
  apply exP
  rw [run_k G T J.C.ref02_Int]
  obtain ⟨z1, r1⟩ := ref01_Of J (n := n.natAbs) (by omega)
  have hl : (dl n.natAbs).length < 17179869184 := by
    have h1 := dl_len_blen n.natAbs
    have h2 : blen n.natAbs ≤ 64 := blen_le.2 (by rw [show (2 : Nat) ^ 64 = 18446744073709551616 from rfl]; omega)
    omega
  obtain ⟨z2, r2⟩ := ref02_Form J (n := decide (n < 0)) (z := z1) (a := n.natAbs) (e := 0) hl (by omega)
  unfold intD
  generalize mkD (decide (n < 0)) n.natAbs 0 = d at *
  by_cases h : n < 0
  · have w1 := wrap_neg h1 h
    rw [decide_eq_true h] at r2
    generalize dl n.natAbs = l at *
    generalize (n.natAbs : Int) = m at *
    simp only [DyA, A3] at *
    repeat' (first | (simp (maxSteps := 9^7) only [seval, exC, c_ref02_Int, w1, h, r1, r2]) | (simp (maxSteps := 9^7) (disch := first | with_reducible assumption | omega) only [dxB]) | (simp only [kdB]; split) | (simp only [kvB]; split))
    all_goals exact ⟨_, rfl, z2, rfl⟩
  · have w1 := wrap_pos h2 h
    rw [decide_eq_false h] at r2
    generalize dl n.natAbs = l at *
    generalize (n.natAbs : Int) = m at *
    simp only [DyA, A3] at *
    repeat' (first | (simp (maxSteps := 9^7) only [seval, exC, c_ref02_Int, w1, h, r1, r2]) | (simp (maxSteps := 9^7) (disch := first | with_reducible assumption | omega) only [dxB]) | (simp only [kdB]; split) | (simp only [kvB]; split))
    all_goals exact ⟨_, rfl, z2, rfl⟩
def ofW (F : Fm) (d : Dy) : Nat := if d.m = 0 then 0 else F.enc (d.m * 2 ^ (d.e - F.unit d).toNat) (F.unit d) + F.sgn d.n
theorem ofW_facts (F : Fm) {d : Dy} (nz : Nz d) (hf : d.m ≠ 0 → F.fits d) : ofW F d < 2 * F.sg ∧ F.fin (ofW F d) ∧ F.vl (ofW F d) = d := by
  have hi := fm_i0 F
  unfold ofW
  by_cases h0 : d.m = 0
  · rw [if_pos h0, nz.1 h0]
    obtain ⟨q1, _, q3, q4⟩ := sgn_facts F false
    exact ⟨q1, fin_iff.2 (Or.inl q3), q4⟩
  · rw [if_neg h0]
    have hf := hf h0
    have he : F.enc (d.m * 2 ^ (d.e - F.unit d).toNat) (F.unit d) < F.i0 := enc_lt hf
    obtain ⟨f0, f1, f2, f3⟩ := hf
    obtain ⟨u, hu⟩ : ∃ u, u = F.unit d := ⟨_, rfl⟩
    have hue : u = max (d.e + blen d.m - F.fr - 1) F.low := hu
    rw [← hu] at he ⊢
    have hb := blen_mul h0 (d.e - u).toNat
    have hp : d.m * 2 ^ (d.e - u).toNat ≠ 0 := by
      have := Nat.mul_pos (Nat.pos_of_ne_zero h0) (Nat.two_pow_pos (d.e - u).toNat); omega
    have hv := val_enc F d.n (k := d.m * 2 ^ (d.e - u).toNat) (u := u) hp (blen_le.1 (by rw [hb]; omega)) (by omega) (by
      by_cases q : u = F.low
      · exact Or.inl q
      · right; exact lt_blen.1 (by rw [hb]; omega)) he
    have fn := fin_size (F := F) d.n he
    refine ⟨?_, fn, ?_⟩
    · unfold Fm.sgn; split <;> omega
    · rw [vl_val fn, hv]
      refine nz_eq (Nz_mk _ _ _) nz (LoE_mk (Int.le_refl u)) (Or.inr (by omega)) ?_
      rw [iv_mk (Int.le_refl u), show (u - u).toNat = 0 by omega, Nat.pow_zero, Nat.mul_one]
      rfl
theorem fits_int (F : Fm) {n : Int} (h1 : -8388608 ≤ n) (h2 : n ≤ 8388608) (h0 : (intD n).m ≠ 0) : F.fits (intD n) := by
  have hF := fm_facts F
  have hn : n.natAbs ≠ 0 := fun q => h0 (by unfold intD; rw [q]; rfl)
  have hb : blen n.natAbs ≤ 24 := blen_le.2 (by rw [show (2 : Nat) ^ 24 = 16777216 from rfl]; omega)
  have htz := tz_blen hn
  have hd := blen_div n.natAbs (tz n.natAbs)
  refine ⟨h0, ?_, ?_, ?_⟩ <;> (unfold intD; rw [mkD_pos hn]; simp only; omega)
def whW (F : Fm) (n : Int) : Nat := ofW F (intD n)
theorem law12_whole (J : Al G T g) (F : Fm) {n : Int} (h1 : -8388608 ≤ n) (h2 : n ≤ 8388608) : run G T 267 [.int .u8 F.u, .int .i64 n] = some (.int .u64 (whW F n : Int)) := by
  rw [run_k G T J.J.law12_whole]
  obtain ⟨z, r1⟩ := ref02_Int J (n := n) (by omega) (by omega)
  have hf := fits_int F h1 h2
  have nz : Nz (intD n) := Nz_mk _ _ _
  unfold whW ofW
  generalize intD n = d at *
  by_cases h0 : d.m = 0
  · rw [if_pos h0]
    have hd := nz.1 h0
    rw [hd] at r1
    have r2 := ref03_Of_zero J F (z := z)
    simp only [DyA, A3, cast0] at *
    repeat' (first | (simp (maxSteps := 9^7) only [seval, exC, c_law12_whole, r1, r2]) | (simp (maxSteps := 9^7) (disch := first | with_reducible assumption | omega) only [dxB]) | (simp only [kdB]; split) | (simp only [kvB]; split))
  · rw [if_neg h0]
    have r2 := ref03_Of J F (z := z) (hf h0)
    generalize F.enc (d.m * 2 ^ (d.e - F.unit d).toNat) (F.unit d) + F.sgn d.n = w at *
    simp only [DyA, A3] at *
    repeat' (first | (simp (maxSteps := 9^7) only [seval, exC, c_law12_whole, r1, r2]) | (simp (maxSteps := 9^7) (disch := first | with_reducible assumption | omega) only [dxB]) | (simp only [kdB]; split) | (simp only [kvB]; split))
theorem whW_facts (F : Fm) {n : Int} (h1 : -8388608 ≤ n) (h2 : n ≤ 8388608) : whW F n < 2 * F.sg ∧ F.fin (whW F n) ∧ iv (F.vl (whW F n)) 0 = n ∧ LoE (F.vl (whW F n)) 0 := by
  obtain ⟨a, b, c⟩ := ofW_facts F (d := intD n) (Nz_mk _ _ _) (fits_int F h1 h2)
  unfold whW
  rw [c]
  exact ⟨a, b, iv_int n⟩
theorem prod_bd {x y : Int} (hx : -999 ≤ x ∧ x ≤ 999) (hy : -999 ≤ y ∧ y ≤ 999) : -998001 ≤ x * y ∧ x * y ≤ 998001 := by
  have : (x * y).natAbs ≤ 999 * 999 := by rw [Int.natAbs_mul]; exact Nat.mul_le_mul (by omega) (by omega)
  omega
theorem gauss_fx (F : Fm) {md : Int} (hm : 1 ≤ md ∧ md ≤ 5) {a b c d e : Int} (ha : -999 ≤ a ∧ a ≤ 999) (hb : -999 ≤ b ∧ b ≤ 999) (hc : -999 ≤ c ∧ c ≤ 999) (hd : -999 ≤ d ∧ d ≤ 999) (he : -999 ≤ e ∧ e ≤ 999) (s : Bool) (t : Bool) {n : Int} (hn : n = if t then a * c - b * d else a * c + b * d) :
    (tw F md (tm F (whW F a) (whW F c) false) (tm F (whW F b) (whW F d) t) oneD).2 = 0 ∧ Near F (tw F md (tm F (whW F a) (whW F c) false) (tm F (whW F b) (whW F d) t) oneD).1 (whW F n) ∧
    (fuW F md (tm F (whW F a) (whW F c) false) (tm F (whW F b) (whW F d) t) (whW F e)).2 = 0 ∧ Near F (fuW F md (tm F (whW F a) (whW F c) false) (tm F (whW F b) (whW F d) t) (whW F e)).1 (whW F (n + e)) ∧
    Wd F (tw F md (tm F (whW F a) (whW F c) false) (tm F (whW F b) (whW F d) t) oneD).1 ∧ Wd F (fuW F md (tm F (whW F a) (whW F c) false) (tm F (whW F b) (whW F d) t) (whW F e)).1 := by
  have q1 := prod_bd ha hc
  have q2 := prod_bd hb hd
  have qn : -1996002 ≤ n ∧ n ≤ 1996002 := by rw [hn]; split <;> omega
  obtain ⟨_, _, a3, a4⟩ := whW_facts F (n := a) (by omega) (by omega)
  obtain ⟨_, _, b3, b4⟩ := whW_facts F (n := b) (by omega) (by omega)
  obtain ⟨_, _, c3, c4⟩ := whW_facts F (n := c) (by omega) (by omega)
  obtain ⟨_, _, d3, d4⟩ := whW_facts F (n := d) (by omega) (by omega)
  obtain ⟨_, e2, e3, e4⟩ := whW_facts F (n := e) (by omega) (by omega)
  obtain ⟨n1, n2, n3, n4⟩ := whW_facts F (n := n) (by omega) (by omega)
  obtain ⟨m1, m2, m3, m4⟩ := whW_facts F (n := n + e) (by omega) (by omega)
  obtain ⟨x1, y1⟩ := tm_iv F a4 c4 false
  obtain ⟨x2, y2⟩ := tm_iv F b4 d4 t
  rw [a3, c3] at y1
  rw [b3, d3] at y2
  simp only [Bool.false_eq_true, if_false] at y1
  obtain ⟨i1, l1⟩ := iv_add x1 x2
  rw [y1, y2] at i1
  rw [show (0 : Int) + 0 = 0 from rfl] at i1 l1
  have i1 : iv (addD (tm F (whW F a) (whW F c) false).1 (tm F (whW F b) (whW F d) t).1) 0 = n := by rw [i1, hn]; cases t <;> simp <;> omega
  obtain ⟨i2, l2⟩ := iv_add l1 e4
  rw [i1, e3] at i2
  have N := Nz_add (Bd_tm F (whW F a) (whW F c) false).2 (Bd_tm F (whW F b) (whW F d) t).2
  have h1 : oneD.m ≠ 0 := by decide
  have g1 := pt_exact F hm n1 n2 N Nz_one h1 (K := 0) (L := 0) l1 n4 LoE_one (by rw [n3, iv_one, Int.mul_one]; exact i1) (zsg md (tm F (whW F a) (whW F c) false) (tm F (whW F b) (whW F d) t))
  have g2 := pt_exact F hm m1 m2 (Nz_add N (Nz_vl F (whW F e))) Nz_one h1 (K := 0) (L := 0) l2 m4 LoE_one (by rw [m3, iv_one, Int.mul_one]; exact i2) (zsg3 md (tm F (whW F a) (whW F c) false) (tm F (whW F b) (whW F d) t) (F.vl (whW F e), F.ng (whW F e)))
  unfold tw fuW
  rw [if_pos e2]
  exact ⟨g1.1, g1.2, g2.1, g2.2, pt_wd F hm _ _ h1, pt_wd F hm _ _ h1⟩
theorem ref10_Good0 (J : Al G T g) (F : Fm) : run G T 185 [.int .u8 F.u, .nil] = some (.int .i64 0) := by
  rw [run_k G T J.U.ref10_Good]
  have h1 := ref03_IsF J F
  repeat' (first | (simp (maxSteps := 9^7) only [seval, exC, c_ref10_Good, h1, gd_loop, c_ref10_Good_b1]) | (simp (maxSteps := 9^7) (disch := first | with_reducible assumption | omega) only [dxB]) | (simp only [kdB]; split) | (simp only [kvB]; split))
theorem law12_opens0 (J : Al G T g) {f md : Int} :
    (∃ e, e ≠ 0 ∧ run G T 253 [.int .u8 f, .int .u8 md, .nil] = some (.int .i64 e)) ∨ (∃ F, f = Fm.u F ∧ (1 ≤ md ∧ md ≤ 5) ∧ run G T 253 [.int .u8 f, .int .u8 md, .nil] = some (.int .i64 0)) := by
  by_cases hf : f = 1 ∨ f = 2
  · obtain ⟨F, rfl⟩ := fm_of hf
    by_cases hm : 1 ≤ md ∧ md ≤ 5
    · refine Or.inr ⟨F, rfl, hm, ?_⟩
      rw [run_k G T J.J.law12_opens]
      have o1 := ref05_Opens0 J F hm
      have o2 := ref10_Good0 J F
      repeat' (first | (simp (maxSteps := 9^7) only [seval, exC, c_law12_opens, o1, o2]) | (simp (maxSteps := 9^7) (disch := first | with_reducible assumption | omega) only [dxB]) | (simp only [kdB]; split) | (simp only [kvB]; split))
    · exact Or.inl ⟨5, by decide, law12_opens_mode J F hm⟩
  · exact Or.inl ⟨4, by decide, law12_opens_no J hf⟩
end Go.Cv
namespace Go.Cv
variable {G : Nat → Option (List AV)} {T : Tbl} {g : Nat}
section
variable (b : Nat) (k : IntKind)
theorem ia61_0 : iaddrAV 6 1 (.ptr b 0) (.int k 0) = some (.ptr b 0) := rfl
theorem ia61_1 : iaddrAV 6 1 (.ptr b 0) (.int k 1) = some (.ptr b 1) := rfl
theorem ia61_2 : iaddrAV 6 1 (.ptr b 0) (.int k 2) = some (.ptr b 2) := rfl
theorem ia61_3 : iaddrAV 6 1 (.ptr b 0) (.int k 3) = some (.ptr b 3) := rfl
theorem ia61_4 : iaddrAV 6 1 (.ptr b 0) (.int k 4) = some (.ptr b 4) := rfl
theorem ia61_5 : iaddrAV 6 1 (.ptr b 0) (.int k 5) = some (.ptr b 5) := rfl
end
theorem or0 : orI .u8 0 0 = 0 := by rw [orI_eq]; rfl
theorem tm1000 (x : Int) : -999 ≤ x.tmod 1000 ∧ x.tmod 1000 ≤ 999 := by
  have h1 := Int.lt_tmod_of_pos x (b := 1000) (by decide)
  have h2 := Int.tmod_lt_of_pos x (b := 1000) (by decide)
  omega
theorem gl_loop (e : Env) (h : Heap) : evL G T c_law12_ExactGauss_l1 e h = kS G T (evL G T c_law12_ExactGauss_b1 (keepE [0, 1, 5, 7, 8] e) h) c_law12_ExactGauss_l1 := s_loopc G T rfl e h
set_option maxHeartbeats 32000000 in
theorem law12_ExactGauss (J : Al G T g) (hK : run G T 255 [] = some (.bool true))
    {f m x0 x1 x2 x3 x4 x5 : Int} :
    run G T 249 [.int .u8 f, .int .u8 m, .agg [.int .i16 x0, .int .i16 x1, .int .i16 x2, .int .i16 x3, .int .i16 x4, .int .i16 x5]] = some (.bool true) := by
  rw [run_k G T J.J.law12_ExactGauss]
  rcases law12_opens0 (G := G) (T := T) (f := f) (md := m) J with ⟨e, he, o1⟩ | ⟨F, rfl, hm, o1⟩
  · repeat' (first | (simp (maxSteps := 9^7) only [seval, exC, c_law12_ExactGauss, o1, he, hK]) | (simp (maxSteps := 9^7) (disch := first | with_reducible assumption | omega) only [dxB]) | (simp only [kdB]; split) | (simp only [kvB]; split))
  · have h0 := tm1000 x0
    have h1 := tm1000 x1
    have h2 := tm1000 x2
    have h3 := tm1000 x3
    have h4 := tm1000 x4
    have h5 := tm1000 x5
    have hk : ¬ (1000 : Int) = 0 := by decide
    generalize d0 : x0.tmod 1000 = a at *
    generalize d1 : x1.tmod 1000 = b at *
    generalize d2 : x2.tmod 1000 = c at *
    generalize d3 : x3.tmod 1000 = d at *
    generalize d4 : x4.tmod 1000 = e at *
    generalize d5 : x5.tmod 1000 = u at *
    have w0 : IntKind.i64.wrap a = a := wrap_i64 (by omega)
    have w1 : IntKind.i64.wrap b = b := wrap_i64 (by omega)
    have w2 : IntKind.i64.wrap c = c := wrap_i64 (by omega)
    have w3 : IntKind.i64.wrap d = d := wrap_i64 (by omega)
    have w4 : IntKind.i64.wrap e = e := wrap_i64 (by omega)
    have w5 : IntKind.i64.wrap u = u := wrap_i64 (by omega)
    have p1 := prod_bd h0 h2
    have p2 := prod_bd h1 h3
    have p3 := prod_bd h0 h3
    have p4 := prod_bd h1 h2
    have g1 := gauss_fx F hm h0 h1 h2 h3 h4 false true (n := a * c - b * d) rfl
    have g2 := gauss_fx F hm h0 h1 h3 h2 h5 false false (n := a * d + b * c) rfl
    obtain ⟨l0, f0, _⟩ := whW_facts F (n := a) (by omega) (by omega)
    obtain ⟨l1, f1, _⟩ := whW_facts F (n := b) (by omega) (by omega)
    obtain ⟨l2, f2, _⟩ := whW_facts F (n := c) (by omega) (by omega)
    obtain ⟨l3, f3, _⟩ := whW_facts F (n := d) (by omega) (by omega)
    obtain ⟨l4, f4, _⟩ := whW_facts F (n := e) (by omega) (by omega)
    obtain ⟨l5, f5, _⟩ := whW_facts F (n := u) (by omega) (by omega)
    have i0 := law12_whole J F (n := a) (by omega) (by omega)
    have i1 := law12_whole J F (n := b) (by omega) (by omega)
    have i2 := law12_whole J F (n := c) (by omega) (by omega)
    have i3 := law12_whole J F (n := d) (by omega) (by omega)
    have i4 := law12_whole J F (n := e) (by omega) (by omega)
    have i5 := law12_whole J F (n := u) (by omega) (by omega)
    have wp1 : IntKind.i64.wrap (a * c) = a * c := wrap_i64 (by omega)
    have wp2 : IntKind.i64.wrap (b * d) = b * d := wrap_i64 (by omega)
    have wp3 : IntKind.i64.wrap (a * d) = a * d := wrap_i64 (by omega)
    have wp4 : IntKind.i64.wrap (b * c) = b * c := wrap_i64 (by omega)
    generalize q1 : a * c = ac at *
    generalize q2 : b * d = bd at *
    generalize q3 : a * d = ad at *
    generalize q4 : b * c = bc at *
    have wr : IntKind.i64.wrap (ac - bd) = ac - bd := wrap_i64 (by omega)
    have wi : IntKind.i64.wrap (ad + bc) = ad + bc := wrap_i64 (by omega)
    have wr' : IntKind.i64.wrap (ac - bd + e) = ac - bd + e := wrap_i64 (by omega)
    have wi' : IntKind.i64.wrap (ad + bc + u) = ad + bc + u := wrap_i64 (by omega)
    have i6 := law12_whole J F (n := ac - bd) (by omega) (by omega)
    have i7 := law12_whole J F (n := ad + bc) (by omega) (by omega)
    have i8 := law12_whole J F (n := ac - bd + e) (by omega) (by omega)
    have i9 := law12_whole J F (n := ad + bc + u) (by omega) (by omega)
    obtain ⟨l6, _⟩ := whW_facts F (n := ac - bd) (by omega) (by omega)
    obtain ⟨l7, _⟩ := whW_facts F (n := ad + bc) (by omega) (by omega)
    obtain ⟨l8, _⟩ := whW_facts F (n := ac - bd + e) (by omega) (by omega)
    obtain ⟨l9, _⟩ := whW_facts F (n := ad + bc + u) (by omega) (by omega)
    clear h0 h1 h2 h3 h4 h5 p1 p2 p3 p4
    generalize whW F (ac - bd + e) = W8 at *
    generalize whW F (ad + bc + u) = W9 at *
    generalize whW F (ac - bd) = W6 at *
    generalize whW F (ad + bc) = W7 at *
    generalize whW F a = W0 at *
    generalize whW F b = W1 at *
    generalize whW F c = W2 at *
    generalize whW F d = W3 at *
    generalize whW F e = W4 at *
    generalize whW F u = W5 at *
    have r1 := exact_Mul J F hm l0 l1 l2 l3
    have r2 := exact_MulAdd J F hm l0 l1 l2 l3 l4 l5
    have hs : smS F W0 W1 W2 W3 = false := by unfold smS; rw [decide_eq_true ⟨(zcl_fin2 F).1 ⟨f0, f1⟩, (zcl_fin2 F).1 ⟨f2, f3⟩⟩]; rfl
    unfold mulZ mulR at r1
    unfold maI at r2
    rw [hs] at r1 r2
    simp only [Bool.false_eq_true, if_false] at r1 r2
    generalize tw F m (tm F W0 W2 false) (tm F W1 W3 true) oneD = P1 at *
    generalize tw F m (tm F W0 W3 false) (tm F W1 W2 false) oneD = P2 at *
    generalize fuW F m (tm F W0 W2 false) (tm F W1 W3 true) W4 = Q1 at *
    generalize fuW F m (tm F W0 W3 false) (tm F W1 W2 false) W5 = Q2 at *
    obtain ⟨s1, s2, s3, s4, s5, s6⟩ := g1
    obtain ⟨t1, t2, t3, t4, t5, t6⟩ := g2
    have al1 := law12_alike J F s5.1 t5.1 l6 l7 s2 t2
    have al2 := law12_alike J F s6.1 t6.1 l8 l9 s4 t4
    have e1 : (P1.2 : Int) = 0 := by omega
    have e2 : (P2.2 : Int) = 0 := by omega
    have e3 : (Q1.2 : Int) = 0 := by omega
    have e4 : (Q2.2 : Int) = 0 := by omega
    clear s1 s2 s3 s4 s5 s6 t1 t2 t3 t4 t5 t6 l0 l1 l2 l3 l4 l5 l6 l7 l8 l9 f0 f1 f2 f3 f4 f5 hs hm
    simp only [zA, zrA, zrI] at *
    repeat' (first | (simp (maxSteps := 9^7) only [seval, exC, c_law12_ExactGauss, c_law12_ExactGauss_b1, gl_loop, ia61_0, ia61_1, ia61_2, ia61_3, ia61_4, ia61_5, wr_1, wr1, wr_2, wr2, wr_3, wr3, wr_4, wr4, wr_5, wr5, wr_6, wr6, o1, hk, d0, d1, d2, d3, d4, d5, w0, w1, w2, w3, w4, w5, i0, i1, i2, i3, i4, i5, r1, r2, q1, q2, q3, q4, wp1, wp2, wp3, wp4, wr, wi, i6, i7, wr', wi', i8, i9, e1, e2, e3, e4, or0, al1, al2, hK]) | (simp (maxSteps := 9^7) (disch := first | with_reducible assumption | omega) only [dxB]) | (simp only [kdB]; split) | (simp only [kvB]; split))
end Go.Cv
